import PyProof.Rows.All
import Wide.All
import OpenK.AllK
import Wide.FinOn
import HandS.ForMost
import HandS.ForExc
import HandS.Wide
import HandS.Walk
import HandS.CallSlots
import HandS.ExcOwn
import HandS.TupAny
import HandS.Style
import HandS.StrMore
import HandS.Rev
import HandS.RevRange
import HandS.Conv
import HandS.Zip
import HandS.IsInst
import HandS.SortInts
import HandS.SortRule
import HandS.SetFor
import HandS.Strs
import PySem.Challenge.RW_tellsum_k83_whole_books_by_a_row
set_option Elab.async false
set_option linter.all false
set_option maxRecDepth 100000
set_option autoImplicit false
set_option maxHeartbeats 8000000
namespace PV
open PySem PySem.Spec PyProof.Rows L2

/-! ### Values without the heap, and the mutable heap -/
inductive D where
  | non | bl (b : Bool) | int (i : Int) | str (x : Str) | ty (n : String) | ob (a : Addr)
  | tup (ds : List D) | lst (ds : List D) | rol (ds : List D) | rot (ds : List D) | ref (n : Nat)
inductive MO where
  | gone
  | lst (ds : List D)
  | dic (kvs : List (Key × D))
  | ins (C : Addr) (nm : List Str) (ds : List D)
abbrev En := List (Option D)
abbrev Hx := List MO

mutual
def Rep (K : PySem.W.Frag) (F : Hp) (ρ : List Addr) : D → V → Prop
  | .non, v => v = .non
  | .bl b, v => v = .bl b
  | .int i, v => v = .int i
  | .str x, v => v = .str x
  | .ty n, v => v = .ty n
  | .ob a, v => v = .ref a
  | .tup ds, v => ∃ a vs, v = .ref a ∧ F a = some (.tup vs) ∧ Reps K F ρ ds vs
  | .lst ds, v => ∃ a vs, v = .ref a ∧ F a = some (.lst vs) ∧ Reps K F ρ ds vs
  | .rol ds, v => ∃ a vs, v = .ref a ∧ SqL K F a vs ∧ Reps K F ρ ds vs
  | .rot ds, v => ∃ a vs, v = .ref a ∧ SqT K F a vs ∧ Reps K F ρ ds vs
  | .ref n, v => ∃ a, v = .ref a ∧ ρ[n]? = some a
def Reps (K : PySem.W.Frag) (F : Hp) (ρ : List Addr) : List D → List V → Prop
  | [], vs => vs = []
  | d :: ds, vs => ∃ v r, vs = v :: r ∧ Rep K F ρ d v ∧ Reps K F ρ ds r
end

/-- the part that never changes any more grows -/
def Sub (F F' : Hp) : Prop := ∀ a o, F a = some o → F' a = some o
theorem Sub.refl (F : Hp) : Sub F F := fun _ _ h => h
theorem Sub.trans {F G H : Hp} (a : Sub F G) (b : Sub G H) : Sub F H := fun x o h => b x o (a x o h)
theorem Sub.sqt {K : PySem.W.Frag} {F F' : Hp} {a : Addr} {xs : List V} (e : Sub F F') (h : SqT K F a xs) : SqT K F' a xs := by
  rcases h with (h | ⟨o, h⟩) | h
  · exact .inl (.inl (e _ _ h))
  · exact .inl (.inr ⟨o, e _ _ h⟩)
  · exact .inr h
theorem Sub.sql {K : PySem.W.Frag} {F F' : Hp} {a : Addr} {xs : List V} (e : Sub F F') (h : SqL K F a xs) : SqL K F' a xs := by
  rcases h with (h | ⟨o, h⟩) | h
  · exact .inl (.inl (e _ _ h))
  · exact .inl (.inr ⟨o, e _ _ h⟩)
  · exact .inr h
theorem pre_get {ρ t : List Addr} {n : Nat} {a : Addr} (h : ρ[n]? = some a) : (ρ ++ t)[n]? = some a := by
  have := (List.getElem?_eq_some_iff.mp h).1
  rw [List.getElem?_append_left this]; exact h

section
variable {K : PySem.W.Frag} {F F' : Hp} {ρ t : List Addr}
mutual
theorem Rep.mono (e : Sub F F') : ∀ {d : D} {v : V}, Rep K F ρ d v → Rep K F' (ρ ++ t) d v
  | .non, _, h => by unfold Rep at h ⊢; exact h
  | .bl _, _, h => by unfold Rep at h ⊢; exact h
  | .int _, _, h => by unfold Rep at h ⊢; exact h
  | .str _, _, h => by unfold Rep at h ⊢; exact h
  | .ty _, _, h => by unfold Rep at h ⊢; exact h
  | .ob _, _, h => by unfold Rep at h ⊢; exact h
  | .tup ds, _, h => by
    unfold Rep at h ⊢
    obtain ⟨a, vs, h1, h2, h3⟩ := h
    exact ⟨a, vs, h1, e _ _ h2, Reps.mono e h3⟩
  | .rot ds, _, h => by
    unfold Rep at h ⊢
    obtain ⟨a, vs, h1, h2, h3⟩ := h
    exact ⟨a, vs, h1, e.sqt h2, Reps.mono e h3⟩
  | .lst ds, _, h => by
    unfold Rep at h ⊢
    obtain ⟨a, vs, h1, h2, h3⟩ := h
    exact ⟨a, vs, h1, e _ _ h2, Reps.mono e h3⟩
  | .rol ds, _, h => by
    unfold Rep at h ⊢
    obtain ⟨a, vs, h1, h2, h3⟩ := h
    exact ⟨a, vs, h1, e.sql h2, Reps.mono e h3⟩
  | .ref n, _, h => by
    unfold Rep at h ⊢
    obtain ⟨a, h1, h2⟩ := h
    exact ⟨a, h1, pre_get h2⟩
theorem Reps.mono (e : Sub F F') : ∀ {ds : List D} {vs : List V}, Reps K F ρ ds vs → Reps K F' (ρ ++ t) ds vs
  | [], _, h => by unfold Reps at h ⊢; exact h
  | d :: ds, _, h => by
    unfold Reps at h ⊢
    obtain ⟨v, r, h1, h2, h3⟩ := h
    exact ⟨v, r, h1, Rep.mono e h2, Reps.mono e h3⟩
end
end

/-! ### worlds -/
def MOk (K : PySem.W.Frag) (F : Hp) (ρ : List Addr) (a : Addr) (H : Hp) : MO → Prop
  | .gone => True
  | .lst ds => F a = none ∧ ∃ vs, H a = some (.lst vs) ∧ Reps K F ρ ds vs
  | .dic kvs => F a = none ∧ ∃ ws, H a = some (.dK ws) ∧ kvs.map (·.1) = ws.map (·.1) ∧ Reps K F ρ (kvs.map (·.2)) (ws.map (·.2))
  | .ins C nm ds => F a = none ∧ ∃ dx ws, H a = some (.ins C dx ws) ∧ ws.map (·.1) = nm.take ds.length ∧ ds.length ≤ nm.length ∧ Reps K F ρ ds (ws.map (·.2))
structure Wd (K : PySem.W.Frag) (F : Hp) (ρ : List Addr) (h : Hx) (H : Hp) : Prop where
  sub : Sub F H
  len : ρ.length = h.length
  nd : ρ.Nodup
  has : ∀ a, a ∈ ρ → H a ≠ none
  ok : ∀ (i : Nat) (a : Addr) (m : MO), ρ[i]? = some a → h[i]? = some m → MOk K F ρ a H m
structure Ext (F : Hp) (ρ : List Addr) (h : Hx) (H F' : Hp) (ρ' : List Addr) (h' : Hx) (H' : Hp) : Prop where
  f : Sub F F'
  r : ∃ t, ρ' = ρ ++ t
  fr : ∀ b o, H b = some o → b ∉ ρ → H' b = some o
  fresh : ∀ b, b ∈ ρ' → b ∉ ρ → H b = none
  ff : ∀ a, F a = none → H a ≠ none → a ∉ ρ → F' a = none
  gn : ∀ (i : Nat) (a : Addr), ρ[i]? = some a → h[i]? = some MO.gone → H' a = H a ∧ h'[i]? = some MO.gone
section
variable {K : PySem.W.Frag} {F F' F1 F2 : Hp} {ρ ρ' ρ1 ρ2 : List Addr} {h h' h1 h2 : Hx} {H H' H1 H2 : Hp}
theorem Ext.refl : Ext F ρ h H F ρ h H := ⟨Sub.refl F, ⟨[], by simp⟩, fun _ _ e _ => e, fun b m n => absurd m n, fun _ e _ _ => e, fun _ _ _ e => ⟨rfl, e⟩⟩
theorem Ext.trans (x : Ext F ρ h H F1 ρ1 h1 H1) (y : Ext F1 ρ1 h1 H1 F2 ρ2 h2 H2) : Ext F ρ h H F2 ρ2 h2 H2 := by
  have nin : ∀ b o, H b = some o → b ∉ ρ → b ∉ ρ1 := fun b o e n m => by
    have := x.fresh b m n
    rw [this] at e; cases e
  refine ⟨x.f.trans y.f, ?_, fun b o e n => ?_, fun b m n => ?_, fun a e hn n => ?_, fun i a e g => ?_⟩
  · obtain ⟨t, rfl⟩ := x.r
    obtain ⟨u, rfl⟩ := y.r
    exact ⟨t ++ u, by rw [List.append_assoc]⟩
  · exact y.fr b o (x.fr b o e n) (nin b o e n)
  · by_cases m1 : b ∈ ρ1
    · exact x.fresh b m1 n
    · have e1 := y.fresh b m m1
      cases q : H b with
      | none => rfl
      | some o => rw [x.fr b o q n] at e1; cases e1
  · obtain ⟨o, ho⟩ := Option.ne_none_iff_exists'.mp hn
    have e1 := x.ff a e hn n
    refine y.ff a e1 ?_ (nin a o ho n)
    rw [x.fr a o ho n]; simp
  · obtain ⟨g1, g2⟩ := x.gn i a e g
    obtain ⟨t, rfl⟩ := x.r
    obtain ⟨g3, g4⟩ := y.gn i a (pre_get e) g2
    exact ⟨g3.trans g1, g4⟩
theorem Ext.rep (x : Ext F ρ h H F' ρ' h' H') {d : D} {v : V} (r : Rep K F ρ d v) : Rep K F' ρ' d v := by
  obtain ⟨t, rfl⟩ := x.r
  exact Rep.mono x.f r
theorem Ext.reps (x : Ext F ρ h H F' ρ' h' H') {d : List D} {v : List V} (r : Reps K F ρ d v) : Reps K F' ρ' d v := by
  obtain ⟨t, rfl⟩ := x.r
  exact Reps.mono x.f r
theorem MOk.mono {a : Addr} {m : MO} {t : List Addr} (e : Sub F F') (n : F a = none → F' a = none) (hh : H' a = H a) (r : MOk K F ρ a H m) : MOk K F' (ρ ++ t) a H' m := by
  cases m with
  | gone => trivial
  | lst ds => obtain ⟨q, vs, h1, h2⟩ := r; exact ⟨n q, vs, hh.trans h1, Reps.mono e h2⟩
  | dic ds => obtain ⟨q, vs, h1, h3, h2⟩ := r; exact ⟨n q, vs, hh.trans h1, h3, Reps.mono e h2⟩
  | ins C nm ds => obtain ⟨q, dx, vs, h1, h3, h4, h2⟩ := r; exact ⟨n q, dx, vs, hh.trans h1, h3, h4, Reps.mono e h2⟩
theorem MOk.live {a : Addr} {m : MO} (r : MOk K F ρ a H m) (g : m ≠ .gone) : F a = none ∧ ∃ o, H a = some o := by
  cases m with
  | gone => exact absurd rfl g
  | lst ds => obtain ⟨q, vs, h1, h2⟩ := r; exact ⟨q, _, h1⟩
  | dic ds => obtain ⟨q, vs, h1, h3, h2⟩ := r; exact ⟨q, _, h1⟩
  | ins C nm ds => obtain ⟨q, dx, vs, h1, h3, h4, h2⟩ := r; exact ⟨q, _, h1⟩

theorem Wd.out (w : Wd K F ρ h H) {p : Addr} (np : H p = none) : p ∉ ρ := fun m => w.has p m np
theorem Wd.fnone (w : Wd K F ρ h H) {p : Addr} (np : H p = none) : F p = none := by
  cases q : F p with
  | none => rfl
  | some u => rw [w.sub _ _ q] at np; cases np
theorem ne_mem {ρ : List Addr} {i : Nat} {a p : Addr} (e : ρ[i]? = some a) (h : p ∉ ρ) : a ≠ p := fun z => h (z ▸ List.mem_of_getElem? e)
/-- something is laid or changed outside what is known here -/
theorem Wd.other (w : Wd K F ρ h H) {p : Addr} {o : HO} (hf : F p = none) (hr : p ∉ ρ) : Wd K F ρ h (upd H p o) := by
  refine ⟨fun a u e => ?_, w.len, w.nd, fun a m => ?_, fun i a m e g => ?_⟩
  · rw [upd_ne (fun z => by rw [z, hf] at e; cases e)]; exact w.sub _ _ e
  · rw [upd_ne (show a ≠ p from fun z => hr (z ▸ m))]; exact w.has a m
  · have := MOk.mono (t := []) (Sub.refl F) (fun q => q) (upd_ne (H := H) (o := o) (ne_mem e hr)) (w.ok i a m e g)
    simpa using this
/-- a new thing that never changes -/
theorem Wd.frozen (w : Wd K F ρ h H) {p : Addr} (np : H p = none) (o : HO) : Wd K (upd F p o) ρ h (upd H p o) ∧ Ext F ρ h H (upd F p o) ρ h (upd H p o) := by
  have hF := w.fnone np
  have hr := w.out np
  have fs : Sub F (upd F p o) := fun a u e => by
    rw [upd_ne (ne_of_none e hF)]; exact e
  refine ⟨⟨fun a u e => ?_, w.len, w.nd, fun a m => ?_, fun i a m e g => ?_⟩, ⟨fs, ⟨[], by simp⟩, fun b u e _ => ?_, fun b m n => absurd m n, fun a e hn _ => ?_, fun i a e g => ⟨?_, g⟩⟩⟩
  · by_cases z : a = p
    · subst z; rw [upd_same] at e ⊢; exact e
    · rw [upd_ne z] at e ⊢; exact w.sub _ _ e
  · rw [upd_ne (show a ≠ p from fun z => hr (z ▸ m))]; exact w.has a m
  · have ne : a ≠ p := ne_mem e hr
    have := MOk.mono (t := []) fs (fun q => (upd_ne ne).trans q) (upd_ne (H := H) (o := o) ne) (w.ok i a m e g)
    simpa using this
  · rw [upd_ne (ne_of_none e np)]; exact e
  · rw [upd_ne (show a ≠ p from fun z => hn (z ▸ np))]; exact e
  · exact upd_ne (ne_mem e hr)
/-- a new thing that may change -/
theorem Wd.fresh (w : Wd K F ρ h H) {p : Addr} (np : H p = none) {o : HO} {m : MO} (hm : MOk K F (ρ ++ [p]) p (upd H p o) m) : Wd K F (ρ ++ [p]) (h ++ [m]) (upd H p o) ∧ Ext F ρ h H F (ρ ++ [p]) (h ++ [m]) (upd H p o) := by
  have hF := w.fnone np
  have hr := w.out np
  have w1 := w.other (o := o) hF hr
  refine ⟨⟨w1.sub, by simp [w.len], ?_, fun a q => ?_, fun i a m' e g => ?_⟩, ⟨Sub.refl F, ⟨[p], rfl⟩, fun b u e _ => ?_, fun b q n => ?_, fun a e hn _ => e, fun i a e g => ⟨upd_ne (ne_mem e hr), ?_⟩⟩⟩
  · refine List.nodup_append.mpr ⟨w.nd, by simp, fun a ha b hb => ?_⟩
    simp at hb; subst hb
    exact fun z => hr (z ▸ ha)
  · rcases List.mem_append.mp q with q | q
    · exact w1.has a q
    · simp at q; subst q; rw [upd_same]; simp
  · by_cases hi : i < ρ.length
    · rw [List.getElem?_append_left hi] at e
      rw [List.getElem?_append_left (by rw [← w.len]; exact hi)] at g
      exact MOk.mono (Sub.refl F) (fun q => q) rfl (w1.ok i a m' e g)
    · rw [List.getElem?_append_right (by omega)] at e
      rw [List.getElem?_append_right (by rw [← w.len]; omega)] at g
      rw [← w.len] at g
      have z : i - ρ.length = 0 := by
        have := (List.getElem?_eq_some_iff.mp e).1
        simp at this; omega
      rw [z] at e g
      simp at e g
      subst e; subst g
      exact hm
  · rw [upd_ne (ne_of_none e np)]; exact e
  · rcases List.mem_append.mp q with q | q
    · exact absurd q n
    · simp at q; subst q; exact np
  · have := (List.getElem?_eq_some_iff.mp g).1
    rw [List.getElem?_append_left this]; exact g
/-- one of the things that may change is changed -/
theorem Wd.write (w : Wd K F ρ h H) {n : Nat} {p : Addr} {o : HO} {m m' : MO} (hp : ρ[n]? = some p) (hl : h[n]? = some m) (g : m ≠ .gone) (hm : MOk K F ρ p (upd H p o) m') : Wd K F ρ (h.set n m') (upd H p o) ∧ Ext F ρ h H F ρ (h.set n m') (upd H p o) := by
  have hF := ((w.ok n p m hp hl).live g).1
  have mem : p ∈ ρ := List.mem_of_getElem? hp
  have one : ∀ i a, ρ[i]? = some a → i ≠ n → a ≠ p := fun i a e ne z => by
    subst z
    obtain ⟨h1, e1⟩ := List.getElem?_eq_some_iff.mp e
    obtain ⟨h2, e2⟩ := List.getElem?_eq_some_iff.mp hp
    exact ne ((List.getElem_inj w.nd).mp (e1.trans e2.symm))
  refine ⟨⟨fun a u e => ?_, by simp [w.len], w.nd, fun a q => ?_, fun i a m' e g => ?_⟩, ⟨Sub.refl F, ⟨[], by simp⟩, fun b u e n => ?_, fun b m n => absurd m n, fun a e _ _ => e, fun i a e gg => ?_⟩⟩
  · rw [upd_ne (fun z => by rw [z, hF] at e; cases e)]; exact w.sub _ _ e
  · by_cases z : a = p
    · subst z; rw [upd_same]; simp
    · rw [upd_ne z]; exact w.has a q
  · by_cases z : i = n
    · subst z
      rw [hp] at e; cases e
      rw [List.getElem?_set_self (List.getElem?_eq_some_iff.mp hl).1] at g
      cases g; exact hm
    · rw [List.getElem?_set_ne (fun q => z q.symm)] at g
      have := MOk.mono (t := []) (Sub.refl F) (fun q => q) (upd_ne (o := o) (H := H) (one i a e z)) (w.ok i a m' e g)
      simpa using this
  · rw [upd_ne (show b ≠ p from fun z => n (z ▸ mem))]; exact e
  · have z : i ≠ n := fun z => by
      subst z; rw [hl] at gg; exact g (Option.some.inj gg)
    exact ⟨upd_ne (one i a e z), by rw [List.getElem?_set_ne (fun q => z q.symm)]; exact gg⟩
/-- a list that may change changes no more -/
theorem Wd.freeze (w : Wd K F ρ h H) {n : Nat} {p : Addr} {o : HO} {m : MO} (hp : ρ[n]? = some p) (hl : h[n]? = some m) (g : m ≠ .gone) (ho : H p = some o) : Wd K (upd F p o) ρ (h.set n .gone) H ∧ Ext F ρ h H (upd F p o) ρ (h.set n .gone) H := by
  have hF := ((w.ok n p m hp hl).live g).1
  have mem : p ∈ ρ := List.mem_of_getElem? hp
  have fs : Sub F (upd F p o) := fun a u e => by
    rw [upd_ne (ne_of_none e hF)]; exact e
  have one : ∀ i a, ρ[i]? = some a → i ≠ n → a ≠ p := fun i a e ne z => by
    subst z
    obtain ⟨h1, e1⟩ := List.getElem?_eq_some_iff.mp e
    obtain ⟨h2, e2⟩ := List.getElem?_eq_some_iff.mp hp
    exact ne ((List.getElem_inj w.nd).mp (e1.trans e2.symm))
  refine ⟨⟨fun a u e => ?_, by simp [w.len], w.nd, w.has, fun i a m' e g => ?_⟩, ⟨fs, ⟨[], by simp⟩, fun b u e n => e, fun b m n => absurd m n, fun a e hn hr => ?_, fun i a e gg => ⟨rfl, ?_⟩⟩⟩
  · by_cases z : a = p
    · subst z; rw [upd_same] at e; rw [ho]; exact e
    · rw [upd_ne z] at e; exact w.sub _ _ e
  · by_cases z : i = n
    · subst z
      rw [List.getElem?_set_self (List.getElem?_eq_some_iff.mp hl).1] at g
      cases g; trivial
    · rw [List.getElem?_set_ne (fun q => z q.symm)] at g
      have ne := one i a e z
      have := MOk.mono (t := []) fs (fun q => (upd_ne ne).trans q) rfl (w.ok i a m' e g)
      simpa using this
  · rw [upd_ne (show a ≠ p from fun z => hr (z ▸ mem))]; exact e
  · by_cases z : i = n
    · subst z; rw [List.getElem?_set_self (List.getElem?_eq_some_iff.mp hl).1]
    · rw [List.getElem?_set_ne (fun q => z q.symm)]; exact gg
end
end PV
namespace PV
open PySem PySem.Spec PyProof.Rows L2

/-! ### results, ends -/
inductive R (α : Type) where | no | ok (a : α) (h : Hx) | ex (c : Addr) (h : Hx)
def R.bind {α β : Type} (x : R α) (f : α → Hx → R β) : R β := match x with
  | .no => .no
  | .ok a h => f a h
  | .ex c h => .ex c h
@[simp] theorem bind_no {α β : Type} (f : α → Hx → R β) : (R.no : R α).bind f = .no := rfl
@[simp] theorem bind_ok {α β : Type} (a : α) (h : Hx) (f : α → Hx → R β) : (R.ok a h).bind f = f a h := rfl
@[simp] theorem bind_ex {α β : Type} (c : Addr) (h : Hx) (f : α → Hx → R β) : (R.ex c h : R α).bind f = .ex c h := rfl
def Fin {α β : Type} (rel : Hp → List Addr → α → β → Prop) (K : PySem.W.Frag) (E : XK) (F : Hp) (ρ : List Addr) (h : Hx) (H : Hp) (x : R α) (Q : β → Hp → Prop) : Prop := match x with
  | .no => False
  | .ok d h' => ∀ v F' ρ' H', Ext F ρ h H F' ρ' h' H' → Wd K F' ρ' h' H' → rel F' ρ' d v → Q v H'
  | .ex c h' => ∀ F' ρ' H', Ext F ρ h H F' ρ' h' H' → Wd K F' ρ' h' H' → E (.ref c) none H'
/-- a new list -/
def FinF (K : PySem.W.Frag) (E : XK) (F : Hp) (ρ : List Addr) (h : Hx) (H : Hp) (x : R (List D)) (Q : VK) : Prop := match x with
  | .no => False
  | .ok ds h' => ∀ vs p F' ρ' H', Ext F ρ h H F' ρ' h' H' → Wd K F' ρ' h' H' → Reps K F' ρ' ds vs → H' p = none → Q (.ref p) (upd H' p (.lst vs))
  | .ex c h' => ∀ F' ρ' H', Ext F ρ h H F' ρ' h' H' → Wd K F' ρ' h' H' → E (.ref c) none H'
def EnvR (K : PySem.W.Frag) (F : Hp) (ρ : List Addr) (c : En) (σ : L2.St) : Prop :=
  c.length = σ.length ∧ ∀ (i : Nat) (d : D), c[i]? = some (some d) → ∃ v, σ[i]? = some (some v) ∧ Rep K F ρ d v
inductive SR where | no | nx (c : En) (h : Hx) | rt (d : D) (h : Hx) | bk (c : En) (h : Hx) | ct (c : En) (h : Hx) | ex (x : Addr) (c : En) (h : Hx)
def FinS (K : PySem.W.Frag) (XW : L2.St → XK) (F : Hp) (ρ : List Addr) (h : Hx) (H : Hp) (x : SR) (T : Ends) : Prop := match x with
  | .no => False
  | .nx c h' => ∀ σ F' ρ' H', Ext F ρ h H F' ρ' h' H' → Wd K F' ρ' h' H' → EnvR K F' ρ' c σ → T.nx σ H'
  | .rt d h' => ∀ v F' ρ' H', Ext F ρ h H F' ρ' h' H' → Wd K F' ρ' h' H' → Rep K F' ρ' d v → T.rt v H'
  | .bk c h' => ∀ σ F' ρ' H', Ext F ρ h H F' ρ' h' H' → Wd K F' ρ' h' H' → EnvR K F' ρ' c σ → T.bk σ H'
  | .ct c h' => ∀ σ F' ρ' H', Ext F ρ h H F' ρ' h' H' → Wd K F' ρ' h' H' → EnvR K F' ρ' c σ → T.ct σ H'
  | .ex x c h' => ∀ σ F' ρ' H', Ext F ρ h H F' ρ' h' H' → Wd K F' ρ' h' H' → EnvR K F' ρ' c σ → XW σ (.ref x) none H'
section
variable {K : PySem.W.Frag} {E : XK} {XW : L2.St → XK} {F F' F1 : Hp} {ρ ρ' ρ1 : List Addr} {h h' h1 : Hx} {H H' H1 : Hp} {c : En} {σ : L2.St}
theorem Fin.mono {α β : Type} {rel : Hp → List Addr → α → β → Prop} {x : R α} {Q Q' : β → Hp → Prop} (a : Fin rel K E F ρ h H x Q) (q : ∀ v H', Q v H' → Q' v H') : Fin rel K E F ρ h H x Q' := by
  cases x with
  | no => exact a
  | ok d h' => exact fun v F' ρ' H' e w r => q _ _ (a v F' ρ' H' e w r)
  | ex => exact a
theorem Fin.ext {α β : Type} {rel : Hp → List Addr → α → β → Prop} {x : R α} {Q : β → Hp → Prop} (e : Ext F ρ h H F1 ρ1 h1 H1) (a : Fin rel K E F ρ h H x Q) : Fin rel K E F1 ρ1 h1 H1 x Q := by
  cases x with
  | no => exact a
  | ok d h' => exact fun v F' ρ' H' e' w r => a v F' ρ' H' (e.trans e') w r
  | ex => exact fun F' ρ' H' e' w => a F' ρ' H' (e.trans e') w
theorem FinF.ext {x : R (List D)} {Q : VK} (e : Ext F ρ h H F1 ρ1 h1 H1) (a : FinF K E F ρ h H x Q) : FinF K E F1 ρ1 h1 H1 x Q := by
  cases x with
  | no => exact a
  | ok d h' => exact fun v p F' ρ' H' e' w r => a v p F' ρ' H' (e.trans e') w r
  | ex => exact fun F' ρ' H' e' w => a F' ρ' H' (e.trans e') w
theorem FinS.ext {x : SR} {T : Ends} (e : Ext F ρ h H F1 ρ1 h1 H1) (a : FinS K XW F ρ h H x T) : FinS K XW F1 ρ1 h1 H1 x T := by
  cases x with
  | no => exact a
  | rt d h' => exact fun v F' ρ' H' e' w r => a v F' ρ' H' (e.trans e') w r
  | nx | bk | ct | ex => exact fun v F' ρ' H' e' w r => a v F' ρ' H' (e.trans e') w r
theorem EnvR.ext (e : Ext F ρ h H F1 ρ1 h1 H1) (a : EnvR K F ρ c σ) : EnvR K F1 ρ1 c σ :=
  ⟨a.1, fun i d hd => let ⟨v, hv, r⟩ := a.2 i d hd; ⟨v, hv, e.rep r⟩⟩
theorem EnvR.set (a : EnvR K F ρ c σ) (i : Nat) {d : D} {v : V} (r : Rep K F ρ d v) : EnvR K F ρ (c.set i (some d)) (σ.set i (some v)) := by
  refine ⟨by simp [a.1], fun j d' e => ?_⟩
  by_cases z : i = j
  · subst z
    have hi := (List.getElem?_eq_some_iff.mp e).1
    rw [List.length_set] at hi
    rw [List.getElem?_set_self hi] at e
    cases e
    exact ⟨v, by rw [List.getElem?_set_self (by rw [← a.1]; exact hi)], r⟩
  · rw [List.getElem?_set_ne z] at e ⊢
    exact a.2 j d' e
theorem EnvR.unset (a : EnvR K F ρ c σ) (i : Nat) (o : Option V) : EnvR K F ρ (c.set i none) (σ.set i o) := by
  refine ⟨by simp [a.1], fun j d' e => ?_⟩
  by_cases z : i = j
  · subst z
    have hi := (List.getElem?_eq_some_iff.mp e).1
    rw [List.length_set] at hi
    rw [List.getElem?_set_self hi] at e
    cases e
  · rw [List.getElem?_set_ne z] at e ⊢
    exact a.2 j d' e
end

/-! ### readings -/
def tG {α β : Type} (rel : Hp → List Addr → α → β → Prop) (K : PySem.W.Frag) (XW : L2.St → XK) (r : En → Hx → R α) : L2.St → Hp → (β → Hp → Prop) → Prop :=
  fun σ H Q => ∃ F ρ c h, Wd K F ρ h H ∧ EnvR K F ρ c σ ∧ Fin rel K (XW σ) F ρ h H (r c h) Q
def tF (K : PySem.W.Frag) (XW : L2.St → XK) (r : En → Hx → R (List D)) : TE :=
  fun σ H Q => ∃ F ρ c h, Wd K F ρ h H ∧ EnvR K F ρ c σ ∧ FinF K (XW σ) F ρ h H (r c h) Q
def tS (K : PySem.W.Frag) (XW : L2.St → XK) (r : En → Hx → SR) : TS :=
  fun T σ H => ∃ F ρ c h, Wd K F ρ h H ∧ EnvR K F ρ c σ ∧ FinS K XW F ρ h H (r c h) T
def relB : Hp → List Addr → Bool → Bool → Prop := fun _ _ a b => a = b

theorem iE {X : Cx} {e : Expr} {t t' : TE} (p : PE X e t) (i : ∀ σ H Q, t' σ H Q → t σ H Q) : PE X e t' := ⟨fun pins s σ H Q I q => p.run pins s σ H Q I (i σ H Q q)⟩
theorem iT {X : Cx} {e : Expr} {t t' : TT} (p : PT X e t) (i : ∀ σ H Q, t' σ H Q → t σ H Q) : PT X e t' := ⟨fun pins s σ H Q I q => p.run pins s σ H Q I (i σ H Q q)⟩
theorem iW {X : Cx} {e : Expr} {t t' : TT} (p : PW X e t) (i : ∀ σ H Q, t' σ H Q → t σ H Q) : PW X e t' := ⟨fun wh pins s σ H Q I q => p.run wh pins s σ H Q I (i σ H Q q)⟩
theorem iA {X : Cx} {e : List Expr} {t t' : TA} (p : PA X e t) (i : ∀ σ H Q, t' σ H Q → t σ H Q) : PA X e t' := ⟨fun pos pins s σ H Q I q => p.run pos pins s σ H Q I (i σ H Q q)⟩
theorem iS {X : Cx} {e : Stmt} {t t' : TS} (p : PS X e t) (i : ∀ T σ H, t' T σ H → t T σ H) : PS X e t' := ⟨fun pins s σ H T I q => p.run pins s σ H T I (i T σ H q)⟩
theorem iB {X : Cx} {e : List Stmt} {t t' : TS} (p : PSs X e t) (i : ∀ T σ H, t' T σ H → t T σ H) : PSs X e t' := ⟨fun pins s σ H T I q => p.run pins s σ H T I (i T σ H q)⟩

abbrev EE (X : Cx) (XW : L2.St → XK) (e : Expr) (r : En → Hx → R D) : Prop := PE X e (tG (Rep X.K) X.K XW r)
abbrev EF (X : Cx) (XW : L2.St → XK) (e : Expr) (r : En → Hx → R (List D)) : Prop := PE X e (tF X.K XW r)
abbrev ET (X : Cx) (XW : L2.St → XK) (e : Expr) (r : En → Hx → R Bool) : Prop := PT X e (tG relB X.K XW r)
abbrev EW (X : Cx) (XW : L2.St → XK) (e : Expr) (r : En → Hx → R Bool) : Prop := PW X e (tG relB X.K XW r)
abbrev EA (X : Cx) (XW : L2.St → XK) (e : List Expr) (r : En → Hx → R (List D)) : Prop := PA X e (tG (Reps X.K) X.K XW r)
abbrev ES (X : Cx) (XW : L2.St → XK) (e : Stmt) (r : En → Hx → SR) : Prop := PS X e (tS X.K XW r)
abbrev EB (X : Cx) (XW : L2.St → XK) (e : List Stmt) (r : En → Hx → SR) : Prop := PSs X e (tS X.K XW r)

section
variable {K : PySem.W.Frag} {XW : L2.St → XK}
/-- the first part of a bind runs; what follows -/
theorem tG_bind {α β γ δ : Type} {rel : Hp → List Addr → α → β → Prop} {rel2 : Hp → List Addr → γ → δ → Prop} {ra : En → Hx → R α} {f : α → Hx → R γ} {F : Hp} {ρ : List Addr} {h : Hx} {H : Hp} {c : En} {σ : L2.St} {Q : δ → Hp → Prop} {Q' : β → Hp → Prop}
    (w : Wd K F ρ h H) (e : EnvR K F ρ c σ) (q : Fin rel2 K (XW σ) F ρ h H ((ra c h).bind f) Q)
    (k : ∀ d h1 v F1 ρ1 H1, Ext F ρ h H F1 ρ1 h1 H1 → Wd K F1 ρ1 h1 H1 → rel F1 ρ1 d v → EnvR K F1 ρ1 c σ → Fin rel2 K (XW σ) F1 ρ1 h1 H1 (f d h1) Q → Q' v H1) : tG rel K XW ra σ H Q' := by
  refine ⟨F, ρ, c, h, w, e, ?_⟩
  cases hr : ra c h with
  | no => rw [hr] at q; exact q
  | ex => rw [hr] at q; exact q
  | ok d h1 =>
    rw [hr] at q
    exact fun v F1 ρ1 H1 x w1 r => k d h1 v F1 ρ1 H1 x w1 r (e.ext x) (q.ext x)
/-- the same where a statement follows -/
def R.toS {α : Type} (x : R α) (c : En) (f : α → Hx → SR) : SR := match x with
  | .no => .no
  | .ok a h => f a h
  | .ex x h => .ex x c h
@[simp] theorem toS_no {α : Type} (c : En) (f : α → Hx → SR) : (R.no : R α).toS c f = .no := rfl
@[simp] theorem toS_ok {α : Type} (a : α) (h : Hx) (c : En) (f : α → Hx → SR) : (R.ok a h).toS c f = f a h := rfl
@[simp] theorem toS_ex {α : Type} (x : Addr) (h : Hx) (c : En) (f : α → Hx → SR) : (R.ex x h : R α).toS c f = .ex x c h := rfl
theorem tG_toS {α β : Type} {rel : Hp → List Addr → α → β → Prop} {ra : En → Hx → R α} {f : α → Hx → SR} {F : Hp} {ρ : List Addr} {h : Hx} {H : Hp} {c : En} {σ : L2.St} {T : Ends} {Q' : β → Hp → Prop}
    (w : Wd K F ρ h H) (e : EnvR K F ρ c σ) (q : FinS K XW F ρ h H ((ra c h).toS c f) T)
    (k : ∀ d h1 v F1 ρ1 H1, Ext F ρ h H F1 ρ1 h1 H1 → Wd K F1 ρ1 h1 H1 → rel F1 ρ1 d v → EnvR K F1 ρ1 c σ → FinS K XW F1 ρ1 h1 H1 (f d h1) T → Q' v H1) : tG rel K XW ra σ H Q' := by
  refine ⟨F, ρ, c, h, w, e, ?_⟩
  cases hr : ra c h with
  | no => rw [hr] at q; exact q
  | ex x h1 => rw [hr] at q; exact fun F1 ρ1 H1 x w1 => q σ F1 ρ1 H1 x w1 (e.ext x)
  | ok d h1 =>
    rw [hr] at q
    exact fun v F1 ρ1 H1 x w1 r => k d h1 v F1 ρ1 H1 x w1 r (e.ext x) (q.ext x)
end

/-! ### names, constants -/
def rV (i : Nat) : En → Hx → R D := fun c h => match c[i]? with
  | some (some d) => .ok d h
  | _ => .no
def rC (d : D) : En → Hx → R D := fun _ h => .ok d h
def rFz (i : Nat) : En → Hx → R D := fun c h => match c[i]? with
  | some (some (.ref n)) => match h[n]? with
    | some (.lst ds) => .ok (.lst ds) (h.set n .gone)
    | _ => .no
  | _ => .no
section
variable {X : Cx} {XW : L2.St → XK}
theorem en (i : Nat) {x : Str} {pos : Pos} (hN : X.N[i]? = some x := by rfl) (hv : Vis X.env.scope x := by first | exact Or.inl rfl | exact Or.inr (Or.inl rfl) | exact Or.inr (Or.inr rfl)) (hd : (x == ("__debug__" : Str)) = false := by decide)
    (hcd : (x == ("__classdict__" : Str)) = false := by decide) : EE X XW (.Name x pos) (rV i) := iE (pe_var hN hv hd hcd) fun σ H Q ⟨F, ρ, c, h, w, e, q⟩ => by
  unfold rV at q
  split at q
  · next d hd =>
    obtain ⟨v, hv, r⟩ := e.2 i d hd
    exact ⟨v, hv, q v F ρ H .refl w r⟩
  · exact q.elim
theorem efz (i : Nat) {x : Str} {pos : Pos} (hN : X.N[i]? = some x := by rfl) (hv : Vis X.env.scope x := by first | exact Or.inl rfl | exact Or.inr (Or.inl rfl) | exact Or.inr (Or.inr rfl)) (hd : (x == ("__debug__" : Str)) = false := by decide)
    (hcd : (x == ("__classdict__" : Str)) = false := by decide) : EE X XW (.Name x pos) (rFz i) := iE (pe_var hN hv hd hcd) fun σ H Q ⟨F, ρ, c, h, w, e, q⟩ => by
  unfold rFz at q
  split at q
  · next n hd =>
    obtain ⟨v, hv, r⟩ := e.2 i _ hd
    split at q
    · next ds hl =>
      unfold Rep at r
      obtain ⟨a, rfl, ha⟩ := r
      obtain ⟨hF, vs, hH, hr⟩ := w.ok n a _ ha hl
      obtain ⟨w1, x1⟩ := w.freeze ha hl (by intro z; cases z) hH
      refine ⟨_, hv, q _ _ _ _ x1 w1 ?_⟩
      unfold Rep
      exact ⟨a, vs, rfl, upd_same, x1.reps hr⟩
    · exact q.elim
  · exact q.elim
theorem ec {e : Expr} {v : V} {d : D} (p : PE X e (tC v)) (r : ∀ F ρ, Rep X.K F ρ d v) : EE X XW e (rC d) := iE p fun σ H Q ⟨F, ρ, c, h, w, e, q⟩ => q v F ρ H .refl w (r F ρ)
theorem e_int {i : Int} {j pos} : EE X XW (.Constant (.int i) j pos) (rC (.int i)) := ec pe_int fun _ _ => by unfold Rep; rfl
theorem e_bl {b : Bool} {j pos} : EE X XW (.Constant (.bool b) j pos) (rC (.bl b)) := ec pe_bl fun _ _ => by unfold Rep; rfl
theorem e_non {j pos} : EE X XW (.Constant .none j pos) (rC .non) := ec pe_non fun _ _ => by unfold Rep; rfl
theorem e_str {x : Str} {j pos} : EE X XW (.Constant (.str x) j pos) (rC (.str x)) := ec pe_str fun _ _ => by unfold Rep; rfl
end

/-! ### two operands -/
def r2 (g : D → D → Hx → R D) (ra rb : En → Hx → R D) : En → Hx → R D := fun c h => (ra c h).bind fun x h1 => (rb c h1).bind fun y h2 => g x y h2
def r1 (g : D → Hx → R D) (ra : En → Hx → R D) : En → Hx → R D := fun c h => (ra c h).bind g
/-- what g says of data, r does with values -/
def OpS (K : PySem.W.Frag) (r : R2) (g : D → D → Hx → R D) : Prop := ∀ (F : Hp) (ρ : List Addr) (h : Hx) (H : Hp) (x y : D) (v u : V) (E : XK) (Q : VK), Wd K F ρ h H → Rep K F ρ x v → Rep K F ρ y u → Fin (Rep K) K E F ρ h H (g x y h) Q → r v u H Q
def UnS (K : PySem.W.Frag) (r : V → Hp → VK → Prop) (g : D → Hx → R D) : Prop := ∀ (F : Hp) (ρ : List Addr) (h : Hx) (H : Hp) (x : D) (v : V) (E : XK) (Q : VK), Wd K F ρ h H → Rep K F ρ x v → Fin (Rep K) K E F ρ h H (g x h) Q → r v H Q
section
variable {X : Cx} {XW : L2.St → XK} {a b : Expr} {ra rb : En → Hx → R D} {pos : Pos}
theorem t2 {K : PySem.W.Frag} {r : R2} {g : D → D → Hx → R D} (hs : OpS K r g) : ∀ σ H Q, tG (Rep K) K XW (r2 g ra rb) σ H Q → tOp r (tG (Rep K) K XW ra) (tG (Rep K) K XW rb) σ H Q := fun σ H Q ⟨F, ρ, c, h, w, e, q⟩ =>
  tG_bind w e q fun x h1 v F1 ρ1 H1 x1 w1 r1 e1 q1 => tG_bind w1 e1 q1 fun y h2 u F2 ρ2 H2 x2 w2 r2 e2 q2 => hs F2 ρ2 h2 H2 x y v u (XW σ) Q w2 (x2.rep r1) r2 q2
theorem t1 {K : PySem.W.Frag} {r : V → Hp → VK → Prop} {g : D → Hx → R D} (hs : UnS K r g) : ∀ σ H Q, tG (Rep K) K XW (r1 g ra) σ H Q → tUn r (tG (Rep K) K XW ra) σ H Q := fun σ H Q ⟨F, ρ, c, h, w, e, q⟩ =>
  tG_bind w e q fun x h1 v F1 ρ1 H1 x1 w1 r1 e1 q1 => hs F1 ρ1 h1 H1 x v (XW σ) Q w1 r1 q1
theorem e_op {op : Operator} {r : R2} {g : D → D → Hx → R D} (ho : OpR X (binaryOp op) r) (hs : OpS X.K r g) (ha : EE X XW a ra) (hb : EE X XW b rb) : EE X XW (.BinOp a op b pos) (r2 g ra rb) := iE (pe_op ho ha hb) (t2 hs)
theorem e_un {op : UnaryOp} {r : V → Hp → VK → Prop} {g : D → Hx → R D} (ho : UnR X (unaryOp op) r) (hs : UnS X.K r g) (ha : EE X XW a ra) : EE X XW (.UnaryOp op a pos) (r1 g ra) := iE (pe_un ho ha) (t1 hs)
theorem OpR.or {X : Cx} {f : Value → Value → Sem Value} {r r' : R2} (a : OpR X f r) (b : OpR X f r') : OpR X f (fun x y H Q => r x y H Q ∨ r' x y H Q) := fun pins s σ H x y v u Q I rx ry h => h.elim (a pins s σ H x y v u Q I rx ry) (b pins s σ H x y v u Q I rx ry)
end
end PV
namespace PV
open PySem PySem.Spec PyProof.Rows L2

/-! ### targets -/
inductive Tg where | nm (i : Nat) | tp (ts : Tg) | nil | cons (a b : Tg)
mutual
def tgS : Tg → D → En → Option En
  | .nm i, d, c => some (c.set i (some d))
  | .tp ts, .tup ds, c => tgSs ts ds c
  | .tp ts, .rot ds, c => tgSs ts ds c
  | _, _, _ => none
def tgSs : Tg → List D → En → Option En
  | .nil, [], c => some c
  | .cons a b, d :: ds, c => (tgS a d c).bind fun c' => tgSs b ds c'
  | _, _, _ => none
end
def Tg.slots : Tg → List Nat
  | .nm i => [i]
  | .tp ts => ts.slots
  | .nil => []
  | .cons a b => a.slots ++ b.slots
theorem wipe_set (σ : L2.St) (i : Nat) (o : Option V) : ∀ {vs : List Nat}, i ∈ vs → wipe (σ.set i o) vs = wipe σ vs
  | v :: vs, hm => by
    unfold wipe
    by_cases z : i ∈ vs
    · rw [wipe_set σ i o z]
    · have e : i = v := by
        rcases List.mem_cons.mp hm with e | e
        · exact e
        · exact absurd e z
      subst e
      have out : ∀ (ws : List Nat) (τ : L2.St), i ∉ ws → wipe (τ.set i o) ws = (wipe τ ws).set i o := by
        intro ws
        induction ws with
        | nil => intro τ _; rfl
        | cons w ws ih =>
          intro τ hn
          unfold wipe
          rw [ih τ (fun q => hn (List.mem_cons_of_mem _ q)), List.set_comm]
          exact fun q => hn (q ▸ List.mem_cons_self)
      rw [out vs σ z, List.set_set]
/-- what a target does with a value: the slots' values, and none but its own slots -/
def gE (K : PySem.W.Frag) (t : Tg) : TG := fun v σ H Q => ∃ F ρ c h d c', Wd K F ρ h H ∧ EnvR K F ρ c σ ∧ Rep K F ρ d v ∧ tgS t d c = some c' ∧ ∀ σ', EnvR K F ρ c' σ' → (∀ vs, (∀ i ∈ t.slots, i ∈ vs) → wipe σ' vs = wipe σ vs) → Q σ' H
def gEs (K : PySem.W.Frag) (t : Tg) : TGs := fun vs σ H Q => ∃ F ρ c h ds c', Wd K F ρ h H ∧ EnvR K F ρ c σ ∧ Reps K F ρ ds vs ∧ tgSs t ds c = some c' ∧ ∀ σ', EnvR K F ρ c' σ' → (∀ vs, (∀ i ∈ t.slots, i ∈ vs) → wipe σ' vs = wipe σ vs) → Q σ' H
abbrev EG (X : Cx) (e : Expr) (t : Tg) : Prop := PG X e (gE X.K t)
abbrev EGs (X : Cx) (es : List Expr) (t : Tg) : Prop := PGs X es (gEs X.K t)
theorem iG {X : Cx} {e : Expr} {t t' : TG} (p : PG X e t) (i : ∀ v σ H Q, t' v σ H Q → t v σ H Q) : PG X e t' := ⟨fun pins s σ H v u Q I r q => p.run pins s σ H v u Q I r (i v σ H Q q)⟩
theorem iGs {X : Cx} {e : List Expr} {t t' : TGs} (p : PGs X e t) (i : ∀ v σ H Q, t' v σ H Q → t v σ H Q) : PGs X e t' := ⟨fun pins s σ H v u Q I r q => p.run pins s σ H v u Q I r (i v σ H Q q)⟩
theorem repsLen {K : PySem.W.Frag} {F : Hp} {ρ : List Addr} : ∀ {ds : List D} {vs : List V}, Reps K F ρ ds vs → ds.length = vs.length
  | [], _, h => by unfold Reps at h; rw [h] <;> rfl
  | _ :: _, _, h => by
    unfold Reps at h
    obtain ⟨v, r, rfl, _, h⟩ := h
    simp [repsLen h]
section
variable {X : Cx} {pos : Pos}
theorem g_nm (i : Nat) {x : Str} (hN : X.N.Nodup) (hi : X.N[i]? = some x) (hx : Loc X.env.scope x) (hf : X.fn x = true ∨ X.env.scope.names.lookup x = some .local := by first | exact .inl rfl | exact .inr rfl | assumption) : EG X (.Name x pos) (.nm i) :=
  iG (pg_name hN hi hx hf) fun v σ H Q ⟨F, ρ, c, h, d, c', w, e, r, t, q⟩ => by
    unfold tgS at t
    cases t
    exact q _ (e.set i r) fun vs hv => wipe_set σ i _ (hv i (by simp [Tg.slots]))
theorem gs_nil : EGs X [] .nil := iGs pgs_nil fun v σ H Q ⟨F, ρ, c, h, ds, c', w, e, r, t, q⟩ => by
  cases ds with
  | nil =>
    unfold tgSs at t
    cases t
    unfold Reps at r
    exact ⟨r, q σ e fun _ _ => rfl⟩
  | cons => unfold tgSs at t; cases t
theorem gs_cons {e : Expr} {es : List Expr} {a b : Tg} (h1 : EG X e a) (h2 : EGs X es b)
    (ha : (assignEach (e :: es) X.env).map (·.2) = assign e X.env :: (assignEach es X.env).map (·.2) := by rfl) : EGs X (e :: es) (.cons a b) := iGs (pgs_cons h1 h2 ha) fun v σ H Q ⟨F, ρ, c, h, ds, c', w, e, r, t, q⟩ => by
  cases ds with
  | nil => unfold tgSs at t; cases t
  | cons d ds =>
    unfold tgSs at t
    unfold Reps at r
    obtain ⟨v1, vr, rfl, r1, r2⟩ := r
    cases z : tgS a d c with
    | none => rw [z] at t; cases t
    | some c1 =>
      rw [z] at t
      refine ⟨v1, vr, rfl, F, ρ, c, h, d, c1, w, e, r1, z, fun σ1 e1 s1 => ?_⟩
      refine ⟨F, ρ, c1, h, ds, c', w, e1, r2, t, fun σ2 e2 s2 => q σ2 e2 fun vs hv => ?_⟩
      have k1 : ∀ i ∈ a.slots, i ∈ vs := fun i m => hv i (List.mem_append.mpr (.inl m))
      have k2 : ∀ i ∈ b.slots, i ∈ vs := fun i m => hv i (List.mem_append.mpr (.inr m))
      rw [s2 vs k2, s1 vs k1]
theorem g_tup {es : List Expr} {k : Nat} {t : Tg} (hc : X.calm = true) (h : EGs X es t) (n : Nat)
    (hn : (assignEach es X.env).length = n := by rfl) (hst : (assignEach es X.env).findIdx? (·.1) = none := by rfl) (hl : ∀ ds c c', tgSs t ds c = some c' → ds.length = n) : EG X (.Tuple es k pos) (.tp t) :=
  iG (pg_tup hc h hn hst) fun v σ H Q ⟨F, ρ, c, hh, d, c', w, e, r, t', q⟩ => by
    cases d with
    | tup ds =>
      unfold tgS at t'
      unfold Rep at r
      obtain ⟨a, xs, rfl, hs, hr⟩ := r
      exact ⟨a, xs, rfl, .inl (.inl (w.sub _ _ hs)), by rw [← repsLen hr, hl ds c c' t'], F, ρ, c, hh, ds, c', w, e, hr, t', q⟩
    | rot ds =>
      unfold tgS at t'
      unfold Rep at r
      obtain ⟨a, xs, rfl, hs, hr⟩ := r
      exact ⟨a, xs, rfl, Sub.sqt w.sub hs, by rw [← repsLen hr, hl ds c c' t'], F, ρ, c, hh, ds, c', w, e, hr, t', q⟩
    | _ => unfold tgS at t'; cases t'
end
theorem tgl0 : ∀ (ds : List D) (c c' : En), tgSs .nil ds c = some c' → ds.length = 0 := fun ds c c' h => by
  cases ds with
  | nil => rfl
  | cons => unfold tgSs at h; cases h
theorem tglS {a b : Tg} {n : Nat} (ih : ∀ (ds : List D) (c c' : En), tgSs b ds c = some c' → ds.length = n) : ∀ (ds : List D) (c c' : En), tgSs (.cons a b) ds c = some c' → ds.length = n + 1 := fun ds c c' h => by
  cases ds with
  | nil => unfold tgSs at h; cases h
  | cons d ds =>
    unfold tgSs at h
    cases z : tgS a d c with
    | none => rw [z] at h; cases h
    | some c1 => rw [z] at h; simp [ih ds c1 c' h]

/-! ### statements -/
section
variable {X : Cx} {XW : L2.St → XK} {pos : Pos}
def sNil : En → Hx → SR := fun c h => .nx c h
def sSeq (a b : En → Hx → SR) : En → Hx → SR := fun c h => match a c h with
  | .nx c' h' => b c' h'
  | o => o
theorem FinS.seq {K : PySem.W.Frag} {F : Hp} {ρ : List Addr} {h : Hx} {H : Hp} {x : SR} {b : En → Hx → SR} {T : Ends} (q : FinS K XW F ρ h H (match x with | .nx c' h' => b c' h' | o => o) T) :
    FinS K XW F ρ h H x { T with nx := tS K XW b T } := by
  cases x with
  | nx c h' => exact fun σ F' ρ' H' e w r => ⟨F', ρ', c, h', w, r, q.ext e⟩
  | no => exact q
  | rt => exact q
  | bk => exact q
  | ct => exact q
  | ex => exact q
theorem b_nil : EB X XW [] sNil := iB pss_nil fun T σ H ⟨F, ρ, c, h, w, e, q⟩ => q σ F ρ H .refl w e
theorem b_cons {st : Stmt} {rest : List Stmt} {a b : En → Hx → SR} (h1 : ES X XW st a) (h2 : EB X XW rest b) : EB X XW (st :: rest) (sSeq a b) :=
  iB (pss_cons h1 h2) fun T σ H ⟨F, ρ, c, h, w, e, q⟩ => ⟨F, ρ, c, h, w, e, FinS.seq q⟩
theorem b_one {st : Stmt} {a : En → Hx → SR} (h1 : ES X XW st a) : EB X XW [st] a := pss_one h1
def sNo : En → Hx → SR := fun _ _ => .no
theorem b_never {sts : List Stmt} : EB X XW sts sNo := iB pss_never fun T σ H ⟨F, ρ, c, h, w, e, q⟩ => q.elim
theorem s_never {st : Stmt} : ES X XW st sNo := ⟨fun pins s σ H T I ⟨F, ρ, c, h, w, e, q⟩ => q.elim⟩
def sDo (r : En → Hx → R D) : En → Hx → SR := fun c h => (r c h).toS c fun _ h' => .nx c h'
theorem s_do {e : Expr} {r : En → Hx → R D} (he : EE X XW e r) (hs : swapsWith e none pos.line X.env = pure false := by rfl) : ES X XW (.Expr e pos) (sDo r) :=
  iS (ps_expr he hs) fun T σ H ⟨F, ρ, c, h, w, e, q⟩ => tG_toS w e q fun d h1 v F1 ρ1 H1 x w1 r1 e1 q1 => q1 σ F1 ρ1 H1 .refl w1 e1
def sRet (r : En → Hx → R D) : En → Hx → SR := fun c h => (r c h).toS c fun d h' => .rt d h'
theorem s_ret {e : Expr} {r : En → Hx → R D} (he : EE X XW e r) : ES X XW (.Return (some e) pos) (sRet r) :=
  iS (ps_ret he) fun T σ H ⟨F, ρ, c, h, w, e, q⟩ => tG_toS w e q fun d h1 v F1 ρ1 H1 x w1 r1 e1 q1 => q1 v F1 ρ1 H1 .refl w1 r1
def sRetN : En → Hx → SR := fun c h => .rt .non h
theorem s_retN : ES X XW (.Return none pos) sRetN := iS ps_retN fun T σ H ⟨F, ρ, c, h, w, e, q⟩ => q .non F ρ H .refl w (by unfold Rep; rfl)
def sIf (t : En → Hx → R Bool) (a b : En → Hx → SR) : En → Hx → SR := fun c h => (t c h).toS c fun k h' => if k = true then a c h' else b c h'
theorem s_if {cnd : Expr} {a b : List Stmt} {t : En → Hx → R Bool} {ra rb : En → Hx → SR} (hc : ET X XW cnd t) (ha : EB X XW a ra) (hb : EB X XW b rb) : ES X XW (.If cnd a b pos) (sIf t ra rb) :=
  iS (ps_if hc ha hb) fun T σ H ⟨F, ρ, c, h, w, e, q⟩ => tG_toS w e q fun d h1 v F1 ρ1 H1 x w1 r1 e1 q1 => by
    subst r1
    cases d with
    | true => exact ⟨F1, ρ1, c, h1, w1, e1, q1⟩
    | false => exact ⟨F1, ρ1, c, h1, w1, e1, q1⟩
def sAsg (r : En → Hx → R D) (t : Tg) : En → Hx → SR := fun c h => (r c h).toS c fun d h' => match tgS t d c with
  | some c' => .nx c' h'
  | none => .no
theorem fin_asg {K : PySem.W.Frag} {F1 : Hp} {ρ1 : List Addr} {h1 : Hx} {H1 : Hp} {c : En} {σ : L2.St} {t : Tg} {d : D} {v : V} {T : Ends} (w1 : Wd K F1 ρ1 h1 H1) (e1 : EnvR K F1 ρ1 c σ) (r1 : Rep K F1 ρ1 d v)
    (q1 : FinS K XW F1 ρ1 h1 H1 (match tgS t d c with | some c' => .nx c' h1 | none => .no) T) : gE K t v σ H1 T.nx := by
  cases z : tgS t d c with
  | none => rw [z] at q1; exact q1.elim
  | some c' =>
    rw [z] at q1
    exact ⟨F1, ρ1, c, h1, d, c', w1, e1, r1, z, fun σ' e' _ => q1 σ' F1 ρ1 H1 .refl w1 e'⟩
theorem s_asg {tg e : Expr} {r : En → Hx → R D} {t : Tg} (he : EE X XW e r) (hg : EG X tg t) (hs : swapsWithSole [tg] e pos.line X.env = pure false := by rfl) (hw : swappedStores [tg] e X.env = pure none := by rfl)
    (h1 : (assignEach [tg] X.env).map (·.2) = [assign tg X.env] := by rfl) : ES X XW (.Assign [tg] e pos) (sAsg r t) :=
  iS (ps_asg he hg hs hw h1) fun T σ H ⟨F, ρ, c, h, w, e, q⟩ => tG_toS w e q fun d h1 v F1 ρ1 H1 x w1 r1 e1 q1 => fin_asg w1 e1 r1 q1
theorem s_set (i : Nat) {x : Str} {e : Expr} {pos' : Pos} {r : En → Hx → R D} (hN : X.N.Nodup) (hi : X.N[i]? = some x) (hx : Loc X.env.scope x) (he : EE X XW e r) (hs : swapsWith e (some (.Name x pos')) pos.line X.env = pure false := by rfl)
    (hf : X.fn x = true ∨ X.env.scope.names.lookup x = some .local := by first | exact .inl rfl | exact .inr rfl | assumption) : ES X XW (.Assign [.Name x pos'] e pos) (sAsg r (.nm i)) :=
  iS (ps_set hN hi hx he hs hf) fun T σ H ⟨F, ρ, c, h, w, e, q⟩ => tG_toS w e q fun d h1 v F1 ρ1 H1 x w1 r1 e1 q1 => by
    exact q1 _ F1 ρ1 H1 .refl w1 (e1.set i r1)
def sPar (i j : Nat) (ra rb : En → Hx → R D) : En → Hx → SR := fun c h => (ra c h).toS c fun x h1 => (rb c h1).toS c fun y h2 => .nx ((c.set i (some x)).set j (some y)) h2
theorem s_par (i j : Nat) {x y : Str} {a b : Expr} {ra rb : En → Hx → R D} {px py pt : Pos} {kt k2 pt2} (hc : X.calm = true) (hN : X.N.Nodup) (hi : X.N[i]? = some x) (hj : X.N[j]? = some y) (hij : i ≠ j)
    (hx : X.env.scope.names.lookup x = some .local) (hy : X.env.scope.names.lookup y = some .local) (ha : EE X XW a ra) (hb : EE X XW b rb)
    (hw : swappedStores [.Tuple [.Name x px, .Name y py] kt pt] (.Tuple [a, b] k2 pt2) X.env = pure (some [x, y]))
    (hs : swapsWithSole [.Tuple [.Name x px, .Name y py] kt pt] (.Tuple [a, b] k2 pt2) pos.line X.env = pure false := by rfl)
    (s1 : starEach [a, b] X.env = (false, eval a X.env) :: starEach [b] X.env := by rfl) (s2 : starEach [b] X.env = (false, eval b X.env) :: starEach [] X.env := by rfl) :
    ES X XW (.Assign [.Tuple [.Name x px, .Name y py] kt pt] (.Tuple [a, b] k2 pt2) pos) (sPar i j ra rb) :=
  iS (ps_par hc hN hi hj hij hx hy (pa_cons ha (pa_cons hb pa_nil s2) s1) hw hs) fun T σ H ⟨F, ρ, c, h, w, e, q⟩ =>
    tG_toS w e q fun d h1 v F1 ρ1 H1 x1 w1 r1 e1 q1 => tG_toS w1 e1 q1 fun d2 h2 v2 F2 ρ2 H2 x2 w2 r2 e2 q2 =>
      ⟨v, v2, rfl, q2 _ F2 ρ2 H2 .refl w2 ((e2.set i (x2.rep r1)).set j r2)⟩
end

/-! ### what is walked -/
def lstOf (h : Hx) : D → Option (List D)
  | .lst ds => some ds
  | .ref n => match h[n]? with
    | some (.lst ds) => some ds
    | _ => none
  | _ => none
def seqL (h : Hx) : D → Option (List D)
  | .rol ds => some ds
  | d => lstOf h d
def seqT : D → Option (List D)
  | .tup ds => some ds
  | .rot ds => some ds
  | _ => none
def seqOf (h : Hx) : D → Option (List D)
  | .tup ds => some ds
  | .rot ds => some ds
  | d => seqL h d
section
variable {K : PySem.W.Frag} {F : Hp} {ρ : List Addr} {h : Hx} {H : Hp}
theorem Wd.lstOf (w : Wd K F ρ h H) {d : D} {v : V} {ds : List D} (r : Rep K F ρ d v) (e : lstOf h d = some ds) : ∃ a vs, v = .ref a ∧ H a = some (.lst vs) ∧ Reps K F ρ ds vs := by
  cases d with
  | lst xs =>
    unfold PV.lstOf at e
    cases e
    unfold Rep at r
    obtain ⟨a, vs, h1, h2, h3⟩ := r
    exact ⟨a, vs, h1, w.sub _ _ h2, h3⟩
  | ref n =>
    unfold PV.lstOf at e
    dsimp only at e
    split at e
    · next q =>
      cases e
      unfold Rep at r
      obtain ⟨a, rfl, ha⟩ := r
      obtain ⟨_, vs, hH, hr⟩ := w.ok n a _ ha q
      exact ⟨a, vs, rfl, hH, hr⟩
    · cases e
  | _ => unfold PV.lstOf at e; cases e
theorem Wd.seqL (w : Wd K F ρ h H) {d : D} {v : V} {ds : List D} (r : Rep K F ρ d v) (e : seqL h d = some ds) : ∃ a vs, v = .ref a ∧ SqL K H a vs ∧ Reps K F ρ ds vs := by
  cases d with
  | rol xs =>
    unfold PV.seqL at e
    cases e
    unfold Rep at r
    obtain ⟨a, vs, h1, h2, h3⟩ := r
    exact ⟨a, vs, h1, Sub.sql w.sub h2, h3⟩
  | _ =>
    obtain ⟨a, vs, h1, h2, h3⟩ := w.lstOf r (show PV.lstOf h _ = some ds from e)
    exact ⟨a, vs, h1, .inl (.inl h2), h3⟩
theorem Wd.seqT (w : Wd K F ρ h H) {d : D} {v : V} {ds : List D} (r : Rep K F ρ d v) (e : seqT d = some ds) : ∃ a vs, v = .ref a ∧ SqT K H a vs ∧ Reps K F ρ ds vs := by
  cases d with
  | tup xs =>
    unfold PV.seqT at e
    cases e
    unfold Rep at r
    obtain ⟨a, vs, h1, h2, h3⟩ := r
    exact ⟨a, vs, h1, .inl (.inl (w.sub _ _ h2)), h3⟩
  | rot xs =>
    unfold PV.seqT at e
    cases e
    unfold Rep at r
    obtain ⟨a, vs, h1, h2, h3⟩ := r
    exact ⟨a, vs, h1, Sub.sqt w.sub h2, h3⟩
  | _ => unfold PV.seqT at e; cases e
theorem repsGet : ∀ {ds : List D} {vs : List V} {i : Nat} {d : D}, Reps K F ρ ds vs → ds[i]? = some d → ∃ v, vs[i]? = some v ∧ Rep K F ρ d v
  | [], _, _, _, _, e => by simp at e
  | d :: ds, _, 0, _, h, e => by
    unfold Reps at h
    obtain ⟨v, r, rfl, h1, h2⟩ := h
    simp at e; subst e
    exact ⟨v, rfl, h1⟩
  | d :: ds, _, i + 1, x, h, e => by
    unfold Reps at h
    obtain ⟨v, r, rfl, h1, h2⟩ := h
    obtain ⟨u, q, z⟩ := repsGet (i := i) (d := x) h2 (by simpa using e)
    exact ⟨u, by simpa using q, z⟩
theorem repsGet' : ∀ {ds : List D} {vs : List V} {i : Nat} {v : V}, Reps K F ρ ds vs → vs[i]? = some v → ∃ d, ds[i]? = some d ∧ Rep K F ρ d v
  | [], _, _, _, h, e => by unfold Reps at h; rw [h] at e; simp at e
  | d :: ds, _, 0, _, h, e => by
    unfold Reps at h
    obtain ⟨v, r, rfl, h1, h2⟩ := h
    simp at e; subst e
    exact ⟨d, rfl, h1⟩
  | d :: ds, _, i + 1, x, h, e => by
    unfold Reps at h
    obtain ⟨v, r, rfl, h1, h2⟩ := h
    obtain ⟨u, q, z⟩ := repsGet' (i := i) (v := x) h2 (by simpa using e)
    exact ⟨u, by simpa using q, z⟩
end
/-- what is walked: a list or tuple, ints, pairs of two, a thing with its number, a list from its end, a text -/
inductive Src where | sq (d : D) | rg (lo : Int) (n : Nat) | rc (lo c : Int) (n : Nat) | zp (a b : D) | en (d : D) | rv (d : D) (n : Nat) | tx (z : Str)
def Src.len (h : Hx) : Src → Option Nat
  | .sq d => (seqOf h d).map (·.length)
  | .rg _ n => some n
  | .rc _ _ n => some n
  | .zp a b => (seqOf h a).bind fun xs => (seqOf h b).map fun ys => min xs.length ys.length
  | .en d => (seqOf h d).map (·.length)
  | .rv _ n => some n
  | .tx z => some z.cps.size
def Src.item (h : Hx) (i : Nat) : Src → Option D
  | .sq d => (seqOf h d).bind (·[i]?)
  | .rg lo n => if i < n then some (.int (lo + i)) else none
  | .rc lo c n => if i < n then some (.int (lo + i * c)) else none
  | .zp a b => (seqOf h a).bind fun xs => (seqOf h b).bind fun ys => xs[i]?.bind fun x => ys[i]?.map fun y => .tup [x, y]
  | .en d => (seqOf h d).bind fun xs => xs[i]?.map fun x => .tup [.int i, x]
  | .rv d n => (seqOf h d).bind fun xs => if i < n then xs[n - 1 - i]? else none
  | .tx z => z.cps[i]?.map fun c => .str ⟨#[c]⟩
/-- how a walk of the model follows it -/
structure SrcR (K : PySem.W.Frag) (F : Hp) (ρ : List Addr) (s : Src) (J : It) : Prop where
  go : ∀ (F' : Hp) (t : List Addr) (h' : Hx) (H' : Hp) (i : Nat) (d : D), Sub F F' → Wd K F' (ρ ++ t) h' H' → s.item h' i = some d → J.go i H'
  yld : ∀ (F' : Hp) (t : List Addr) (h' : Hx) (H' : Hp) (i : Nat) (d : D) (x : V) (H2 : Hp), Sub F F' → Wd K F' (ρ ++ t) h' H' → s.item h' i = some d → J.yld i H' x H2 → ∃ F2, Ext F' (ρ ++ t) h' H' F2 (ρ ++ t) h' H2 ∧ Wd K F2 (ρ ++ t) h' H2 ∧ Rep K F2 (ρ ++ t) d x
  stop : ∀ (F' : Hp) (t : List Addr) (h' : Hx) (H' : Hp) (n : Nat), Sub F F' → Wd K F' (ρ ++ t) h' H' → s.len h' = some n → J.stop n H'
def tI (K : PySem.W.Frag) (XW : L2.St → XK) (r : En → Hx → R Src) : TI := fun σ H Q => ∃ F ρ c h, Wd K F ρ h H ∧ EnvR K F ρ c σ ∧ match r c h with
  | .no => False
  | .ok s h' => ∀ J F' ρ' H', Ext F ρ h H F' ρ' h' H' → Wd K F' ρ' h' H' → EnvR K F' ρ' c σ → SrcR K F' ρ' s J → Q J H'
  | .ex x h' => ∀ F' ρ' H', Ext F ρ h H F' ρ' h' H' → Wd K F' ρ' h' H' → XW σ (.ref x) none H'
abbrev EI (X : Cx) (XW : L2.St → XK) (tg e : Expr) (r : En → Hx → R Src) : Prop := PI X tg e (tI X.K XW r)
theorem iI {X : Cx} {tg e : Expr} {t t' : TI} (p : PI X tg e t) (i : ∀ σ H Q, t' σ H Q → t σ H Q) : PI X tg e t' := ⟨fun pins s σ H R I q => p.run pins s σ H R I (i σ H R q)⟩

/-! ### for -/
def forGo (s : Src) (N : Nat) (t : Tg) (b : En → Hx → SR) : Nat → En → Hx → SR
  | 0, c, h => if s.len h = some N then .nx c h else .no
  | m + 1, c, h => match s.item h (N - (m + 1)) with
    | none => .no
    | some d => match tgS t d c with
      | none => .no
      | some c1 => match b c1 h with
        | .nx c2 h2 => forGo s N t b m c2 h2
        | .ct c2 h2 => forGo s N t b m c2 h2
        | .bk c2 h2 => .nx c2 h2
        | .rt d h2 => .rt d h2
        | .ex x c2 h2 => .ex x c2 h2
        | .no => .no
def sFor (r : En → Hx → R Src) (t : Tg) (b : En → Hx → SR) : En → Hx → SR := fun c h => (r c h).toS c fun s h1 => match s.len h1 with
  | none => .no
  | some N => forGo s N t b N c h1
section
variable {X : Cx} {XW : L2.St → XK} {pos : Pos}
theorem s_for {tg iter : Expr} {body : List Stmt} {r : En → Hx → R Src} {t : Tg} {b : En → Hx → SR} (hp : PassesOwn (model X.prog X.w) X.A X.env X.xe) (hc : X.calm = true) (hi : EI X XW tg iter r) (hg : EG X tg t) (hb : EB X XW body b)
    (hs : ∀ x, foldedSetIterable iter X.env x = pure x := by intro _; rfl) :
    ES X XW (.For tg iter body [] pos) (sFor r t b) := by
  refine iS (ps_for hp hc hi hg hb hs) fun T σ H ⟨F, ρ, c, h, w, e, q⟩ => ⟨F, ρ, c, h, w, e, ?_⟩
  unfold sFor at q
  cases z : r c h with
  | no => rw [z] at q; exact q
  | ex x h' => rw [z] at q; exact fun F' ρ' H' x' w' => q σ F' ρ' H' x' w' (e.ext x')
  | ok s h1 =>
    rw [z] at q
    dsimp only [toS_ok] at q
    intro J F1 ρ1 H1 x1 w1 e1 sr
    cases zn : s.len h1 with
    | none => rw [zn] at q; exact q.elim
    | some N =>
      rw [zn] at q
      dsimp only at q
      refine ⟨fun i m σ' H' => i + m = N ∧ ∃ F2 t2 c2 h2, Ext F1 ρ1 h1 H1 F2 (ρ1 ++ t2) h2 H' ∧ Wd X.K F2 (ρ1 ++ t2) h2 H' ∧ EnvR X.K F2 (ρ1 ++ t2) c2 σ' ∧ FinS X.K XW F2 (ρ1 ++ t2) h2 H' (forGo s N t b m c2 h2) T,
        ⟨N, by simp, F1, [], c, h1, by simpa using (Ext.refl : Ext F1 ρ1 h1 H1 F1 ρ1 h1 H1), by simpa using w1, by simpa using e1, by simpa using q.ext x1⟩, fun i m σ' H' hW => ?_⟩
      obtain ⟨im, F2, t2, c2, h2, x2, w2, e2, q2⟩ := hW
      cases m with
      | zero =>
        unfold forGo at q2
        split at q2
        · next hl =>
          simp only [Nat.add_zero] at im; subst im
          exact .inl ⟨sr.stop F2 t2 h2 H' i x2.f w2 hl, q2 σ' F2 _ H' .refl w2 e2⟩
        · exact q2.elim
      | succ m =>
        unfold forGo at q2
        have hi' : N - (m + 1) = i := by omega
        rw [hi'] at q2
        cases zi : s.item h2 i with
        | none => rw [zi] at q2; exact q2.elim
        | some d =>
          rw [zi] at q2
          dsimp only at q2
          cases zt : tgS t d c2 with
          | none => rw [zt] at q2; exact q2.elim
          | some c3 =>
            rw [zt] at q2
            dsimp only at q2
            refine .inr ⟨sr.go F2 t2 h2 H' i d x2.f w2 zi, fun σ4 H4 => (i + 1) + m = N ∧ ∃ F2 t2 c2 h2, Ext F1 ρ1 h1 H1 F2 (ρ1 ++ t2) h2 H4 ∧ Wd X.K F2 (ρ1 ++ t2) h2 H4 ∧ EnvR X.K F2 (ρ1 ++ t2) c2 σ4 ∧ FinS X.K XW F2 (ρ1 ++ t2) h2 H4 (forGo s N t b m c2 h2) T,
              fun σ4 H4 hN => ⟨m, Nat.lt_succ_self m, hN⟩, fun x H3 hy => ?_⟩
            obtain ⟨F3, x3, w3, r3⟩ := sr.yld F2 t2 h2 H' i d x H3 x2.f w2 zi hy
            refine ⟨F3, _, c2, h2, d, c3, w3, e2.ext x3, r3, zt, fun σ5 e5 _ => ⟨F3, _, c3, h2, w3, e5, ?_⟩⟩
            have q3 := q2.ext x3
            have x23 := x2.trans x3
            have next : ∀ {c6 h6 σ6 F6 ρ6 H6}, Ext F3 (ρ1 ++ t2) h2 H3 F6 ρ6 h6 H6 → Wd X.K F6 ρ6 h6 H6 → EnvR X.K F6 ρ6 c6 σ6 → FinS X.K XW F3 (ρ1 ++ t2) h2 H3 (forGo s N t b m c6 h6) T →
                (i + 1) + m = N ∧ ∃ F2 t2 c2 h2, Ext F1 ρ1 h1 H1 F2 (ρ1 ++ t2) h2 H6 ∧ Wd X.K F2 (ρ1 ++ t2) h2 H6 ∧ EnvR X.K F2 (ρ1 ++ t2) c2 σ6 ∧ FinS X.K XW F2 (ρ1 ++ t2) h2 H6 (forGo s N t b m c2 h2) T := by
              intro c6 h6 σ6 F6 ρ6 H6 x6 w6 e6 q6
              obtain ⟨t6, rfl⟩ := x6.r
              exact ⟨by omega, F6, t2 ++ t6, c6, h6, by rw [← List.append_assoc]; exact x23.trans x6, by rw [← List.append_assoc]; exact w6, by rw [← List.append_assoc]; exact e6, by rw [← List.append_assoc]; exact q6.ext x6⟩
            cases zb : b c3 h2 with
            | no => rw [zb] at q3; exact q3
            | nx c6 h6 => rw [zb] at q3; exact fun σ6 F6 ρ6 H6 x6 w6 e6 => next x6 w6 e6 q3
            | ct c6 h6 => rw [zb] at q3; exact fun σ6 F6 ρ6 H6 x6 w6 e6 => next x6 w6 e6 q3
            | bk c6 h6 => rw [zb] at q3; exact q3
            | rt d6 h6 => rw [zb] at q3; exact q3
            | ex x c6 h6 => rw [zb] at q3; exact q3
end

/-! ### while -/
def whN (t : En → Hx → R Bool) (b : En → Hx → SR) : Nat → En → Hx → SR
  | 0, _, _ => .no
  | n + 1, c, h => (t c h).toS c fun k h1 => if k = true then (match b c h1 with
      | .nx c2 h2 => whN t b n c2 h2
      | .ct c2 h2 => whN t b n c2 h2
      | .bk c2 h2 => .nx c2 h2
      | .rt d h2 => .rt d h2
      | .ex x c2 h2 => .ex x c2 h2
      | .no => .no) else .nx c h1
theorem whN_mono {t : En → Hx → R Bool} {b : En → Hx → SR} : ∀ (n : Nat) (c : En) (h : Hx), whN t b n c h ≠ .no → whN t b (n + 1) c h = whN t b n c h
  | 0, c, h, q => absurd rfl q
  | n + 1, c, h, q => by
    rw [whN] at q ⊢
    conv => rhs; rw [whN]
    cases z : t c h with
    | no => rfl
    | ex => rfl
    | ok k h1 =>
      rw [z] at q
      dsimp only [toS_ok] at q ⊢
      cases k with
      | false => rfl
      | true =>
        simp only [if_true] at q ⊢
        cases zb : b c h1 with
        | nx c2 h2 => rw [zb] at q; exact whN_mono n c2 h2 q
        | ct c2 h2 => rw [zb] at q; exact whN_mono n c2 h2 q
        | _ => rfl
theorem whN_le {t : En → Hx → R Bool} {b : En → Hx → SR} {n : Nat} {c : En} {h : Hx} (q : whN t b n c h ≠ .no) : ∀ k, whN t b (n + k) c h = whN t b n c h
  | 0 => rfl
  | k + 1 => by
    have e := whN_le q k
    rw [show n + (k + 1) = (n + k) + 1 from rfl, whN_mono (n + k) c h (by rw [e]; exact q), e]
open Classical in
noncomputable def sWh (t : En → Hx → R Bool) (b : En → Hx → SR) : En → Hx → SR := fun c h => if q : ∃ n, whN t b n c h ≠ .no then whN t b q.choose c h else .no
theorem sWh_at {t : En → Hx → R Bool} {b : En → Hx → SR} {n : Nat} {c : En} {h : Hx} (q : whN t b n c h ≠ .no) : sWh t b c h = whN t b n c h := by
  have z : ∃ n, whN t b n c h ≠ .no := ⟨n, q⟩
  unfold sWh
  rw [dif_pos z]
  have q2 := z.choose_spec
  rcases Nat.le_total z.choose n with l | l
  · obtain ⟨k, e⟩ := Nat.exists_eq_add_of_le l
    rw [e, whN_le q2 k]
  · obtain ⟨k, e⟩ := Nat.exists_eq_add_of_le l
    rw [e, whN_le q k]
theorem sWh_some {t : En → Hx → R Bool} {b : En → Hx → SR} {c : En} {h : Hx} (q : sWh t b c h ≠ .no) : ∃ n, sWh t b c h = whN t b n c h := by
  unfold sWh at q ⊢
  by_cases z : ∃ n, whN t b n c h ≠ .no
  · rw [dif_pos z] at q ⊢; exact ⟨_, rfl⟩
  · rw [dif_neg z] at q; exact absurd rfl q
/-- one turn -/
theorem sWh_eq (t : En → Hx → R Bool) (b : En → Hx → SR) (c : En) (h : Hx) : sWh t b c h = (t c h).toS c fun k h1 => if k = true then (match b c h1 with
      | .nx c2 h2 => sWh t b c2 h2
      | .ct c2 h2 => sWh t b c2 h2
      | .bk c2 h2 => .nx c2 h2
      | .rt d h2 => .rt d h2
      | .ex x c2 h2 => .ex x c2 h2
      | .no => .no) else .nx c h1 := by
  have one : ∀ n, whN t b (n + 1) c h = (t c h).toS c fun k h1 => if k = true then (match b c h1 with
      | .nx c2 h2 => whN t b n c2 h2
      | .ct c2 h2 => whN t b n c2 h2
      | .bk c2 h2 => .nx c2 h2
      | .rt d h2 => .rt d h2
      | .ex x c2 h2 => .ex x c2 h2
      | .no => .no) else .nx c h1 := fun n => by rw [whN]
  have fin : ∀ x : SR, (∀ n, whN t b (n + 1) c h = x) → x = sWh t b c h := fun x hx => by
    by_cases q : x = .no
    · have : sWh t b c h = .no := by
        apply Classical.byContradiction
        intro z
        obtain ⟨n, e⟩ := sWh_some z
        cases n with
        | zero => exact z (e.trans rfl)
        | succ n => exact z (e.trans ((hx n).trans q))
      rw [q, this]
    · rw [sWh_at (n := 1) (by rw [hx 0]; exact q), hx 0]
  cases z : t c h with
  | no => exact (fin _ fun n => by rw [one n, z] <;> rfl).symm
  | ex x h1 => exact (fin _ fun n => by rw [one n, z] <;> rfl).symm
  | ok k h1 =>
    cases k with
    | false => exact (fin _ fun n => by rw [one n, z] <;> rfl).symm
    | true =>
      have step : ∀ c2 h2, (∀ n, whN t b (n + 1) c h = whN t b n c2 h2) → sWh t b c h = sWh t b c2 h2 := fun c2 h2 e => by
        by_cases q : sWh t b c2 h2 = .no
        · rw [q]
          apply Classical.byContradiction
          intro z
          obtain ⟨n, e2⟩ := sWh_some z
          cases n with
          | zero => exact z (e2.trans rfl)
          | succ n =>
            rw [e n] at e2
            exact z (e2.trans ((sWh_at (by rw [← e2]; exact z)).symm.trans q))
        · obtain ⟨n, e2⟩ := sWh_some q
          rw [e2, ← e n]
          exact sWh_at (by rw [e n, ← e2]; exact q)
      simp only [toS_ok, if_true]
      cases zb : b c h1 with
      | nx c2 h2 => exact step c2 h2 fun n => by rw [one n, z]; simp only [toS_ok, if_true]; rw [zb]
      | ct c2 h2 => exact step c2 h2 fun n => by rw [one n, z]; simp only [toS_ok, if_true]; rw [zb]
      | bk c2 h2 => exact (fin _ fun n => by rw [one n, z]; simp only [toS_ok, if_true]; rw [zb]).symm
      | rt c2 h2 => exact (fin _ fun n => by rw [one n, z]; simp only [toS_ok, if_true]; rw [zb]).symm
      | ex x c2 h2 => exact (fin _ fun n => by rw [one n, z]; simp only [toS_ok, if_true]; rw [zb]).symm
      | no => exact (fin _ fun n => by rw [one n, z]; simp only [toS_ok, if_true]; rw [zb]).symm
section
variable {X : Cx} {XW : L2.St → XK} {pos : Pos}
theorem s_while {cnd : Expr} {body : List Stmt} {t : En → Hx → R Bool} {b : En → Hx → SR} (hp : PassesOwn (model X.prog X.w) X.A X.env X.xe) (hc : ET X XW cnd t) (hb : EB X XW body b) : ES X XW (.While cnd body [] pos) (sWh t b) :=
  iS (ps_while hp hc hb) fun T σ H ⟨F, ρ, c, h, w, e, q⟩ => by
    have q' : sWh t b c h ≠ .no := fun z => by rw [z] at q; exact q
    obtain ⟨n, en⟩ := sWh_some q'
    rw [en] at q
    refine ⟨fun m σ H => ∃ F ρ c h, Wd X.K F ρ h H ∧ EnvR X.K F ρ c σ ∧ FinS X.K XW F ρ h H (whN t b m c h) T, ⟨n, F, ρ, c, h, w, e, q⟩, ?_⟩
    rintro m σ H ⟨F, ρ, c, h, w, e, q⟩
    cases m with
    | zero => exact q.elim
    | succ m =>
      rw [whN] at q
      refine tG_toS w e q fun k h1 v F1 ρ1 H1 x1 w1 r1 e1 q1 => ?_
      subst r1
      cases k with
      | false => exact q1 σ F1 ρ1 H1 .refl w1 e1
      | true =>
        simp only [if_true] at q1 ⊢
        refine ⟨fun σ4 H4 => ∃ F ρ c h, Wd X.K F ρ h H4 ∧ EnvR X.K F ρ c σ4 ∧ FinS X.K XW F ρ h H4 (whN t b m c h) T, fun σ4 H4 hN => ⟨m, Nat.lt_succ_self m, hN⟩, F1, ρ1, c, h1, w1, e1, ?_⟩
        cases zb : b c h1 with
        | no => rw [zb] at q1; exact q1
        | nx c6 h6 => rw [zb] at q1; exact fun σ6 F6 ρ6 H6 x6 w6 e6 => ⟨F6, ρ6, c6, h6, w6, e6, q1.ext x6⟩
        | ct c6 h6 => rw [zb] at q1; exact fun σ6 F6 ρ6 H6 x6 w6 e6 => ⟨F6, ρ6, c6, h6, w6, e6, q1.ext x6⟩
        | bk c6 h6 => rw [zb] at q1; exact q1
        | rt d6 h6 => rw [zb] at q1; exact q1
        | ex x c6 h6 => rw [zb] at q1; exact q1
end

/-! ### list comprehensions -/
def wipeC (c : En) : List Nat → En
  | [] => c
  | v :: vs => (wipeC c vs).set v none
theorem EnvR.wipe {K : PySem.W.Frag} {F : Hp} {ρ : List Addr} {c : En} {σ : L2.St} (e : EnvR K F ρ c σ) : ∀ vs : List Nat, EnvR K F ρ (wipeC c vs) (L2.wipe σ vs)
  | [] => e
  | v :: vs => (EnvR.wipe e vs).unset v none
theorem wipe_sub (σ : L2.St) (vs : List Nat) : ∀ ws : List Nat, (∀ i ∈ ws, i ∈ vs) → wipe (wipe σ ws) vs = wipe σ vs
  | [], _ => rfl
  | w :: ws, h => by
    show wipe ((wipe σ ws).set w none) vs = wipe σ vs
    rw [wipe_set _ w none (h w List.mem_cons_self), wipe_sub σ vs ws fun i m => h i (List.mem_cons_of_mem _ m)]
/-- without what stands at p -/
def del (H : Hp) (p : Addr) : Hp := fun b => if b = p then none else H b
theorem del_same {H : Hp} {p : Addr} : del H p p = none := by unfold del; rw [if_pos rfl]
theorem del_ne {H : Hp} {p b : Addr} (h : b ≠ p) : del H p b = H b := by unfold del; rw [if_neg h]
theorem upd_del {H : Hp} {p : Addr} {o : HO} (h : H p = some o) : upd (del H p) p o = H := by
  funext b
  by_cases z : b = p
  · subst z; rw [upd_same, h]
  · rw [upd_ne z, del_ne z]
theorem del_upd {H : Hp} {p : Addr} {o : HO} (h : H p = none) : del (upd H p o) p = H := by
  funext b
  by_cases z : b = p
  · subst z; rw [del_same, h]
  · rw [del_ne z, upd_ne z]
theorem del_upd2 {H : Hp} {p : Addr} {o : HO} : del (upd H p o) p = del H p := by
  funext b
  by_cases z : b = p
  · subst z; rw [del_same, del_same]
  · rw [del_ne z, del_ne z, upd_ne z]
section
variable {K : PySem.W.Frag} {F F' : Hp} {ρ ρ' : List Addr} {h h' : Hx} {H H' : Hp} {p : Addr}
theorem Wd.del (w : Wd K F ρ h H) (hf : F p = none) (hr : p ∉ ρ) : Wd K F ρ h (del H p) := by
  refine ⟨fun a o e => ?_, w.len, w.nd, fun a m => ?_, fun i a m e g => ?_⟩
  · rw [del_ne (show a ≠ p from fun z => by rw [z, hf] at e; cases e)]; exact w.sub a o e
  · rw [del_ne (show a ≠ p from fun z => hr (z ▸ m))]; exact w.has a m
  · have := MOk.mono (t := []) (Sub.refl F) (fun q => q) (del_ne (H := H) (ne_mem e hr)) (w.ok i a m e g)
    simpa using this
theorem Ext.del {o : HO} (x : Ext F ρ h H F' ρ' h' H') (hp : H p = some o) (hr : p ∉ ρ) (hf : F p = none) : F' p = none ∧ p ∉ ρ' ∧ H' p = some o ∧ Ext F ρ h (del H p) F' ρ' h' (del H' p) := by
  have nr : p ∉ ρ' := fun m => by
    have := x.fresh p m hr
    rw [hp] at this; cases this
  refine ⟨x.ff p hf (by rw [hp]; simp) hr, nr, x.fr p o hp hr, x.f, x.r, fun b u e n => ?_, fun b m n => ?_, fun a e hn n => ?_, fun i a e g => ?_⟩
  · have ne : b ≠ p := fun z => by rw [z, del_same] at e; cases e
    rw [del_ne ne] at e ⊢
    exact x.fr b u e n
  · rw [del_ne (show b ≠ p from fun z => nr (z ▸ m))]; exact x.fresh b m n
  · have ne : a ≠ p := fun z => hn (by rw [z, del_same])
    rw [del_ne ne] at hn
    exact x.ff a e hn n
  · have ne : a ≠ p := ne_mem e hr
    rw [del_ne ne, del_ne ne]
    exact x.gn i a e g
end
def lcGo (s : Src) (N : Nat) (t : Tg) (vs : List Nat) (tt : En → Hx → R Bool) (te : En → Hx → R D) : Nat → List D → En → Hx → R (List D)
  | 0, acc, c, h => if s.len h = some N then .ok acc h else .no
  | m + 1, acc, c, h => match s.item h (N - (m + 1)) with
    | none => .no
    | some d => match tgS t d (wipeC c vs) with
      | none => .no
      | some c1 => match tt c1 h with
        | .ok true h2 => (match te c1 h2 with
          | .ok x h3 => lcGo s N t vs tt te m (acc ++ [x]) c h3
          | _ => .no)
        | .ok false h2 => lcGo s N t vs tt te m acc c h2
        | _ => .no
def rLc (r : En → Hx → R Src) (t : Tg) (vs : List Nat) (tt : En → Hx → R Bool) (te : En → Hx → R D) : En → Hx → R (List D) := fun c h => (r c h).bind fun s h1 => match s.len h1 with
  | none => .no
  | some N => if N < sizeLine then lcGo s N t vs tt te N [] c h1 else .no
def XN : L2.St → XK := fun _ _ _ _ => False
abbrev ETs (X : Cx) (XW : L2.St → XK) (e : List Expr) (r : En → Hx → R Bool) : Prop := PTs X e (tG relB X.K XW r)
def tt1 : En → Hx → R Bool := fun _ h => .ok true h
theorem ts_nil {X : Cx} {XW : L2.St → XK} : ETs X XW [] tt1 := ⟨fun pins s σ H Q I ⟨F, ρ, c, h, w, e, q⟩ => pts_nil.run pins s σ H Q I (q true F ρ H .refl w rfl)⟩
theorem ts_one {X : Cx} {XW : L2.St → XK} {e : Expr} {r : En → Hx → R Bool} (h : ET X XW e r) : ETs X XW [e] r := pts_one h
theorem repsApp {K : PySem.W.Frag} {F : Hp} {ρ : List Addr} {d : D} {v : V} (r : Rep K F ρ d v) : ∀ {ds : List D} {vs : List V}, Reps K F ρ ds vs → Reps K F ρ (ds ++ [d]) (vs ++ [v])
  | [], _, h => by
    unfold Reps at h; subst h
    show Reps K F ρ [d] [v]
    unfold Reps
    exact ⟨v, [], rfl, r, by unfold Reps; rfl⟩
  | x :: xs, _, h => by
    unfold Reps at h
    obtain ⟨u, us, rfl, h1, h2⟩ := h
    show Reps K F ρ (x :: (xs ++ [d])) (u :: (us ++ [v]))
    unfold Reps
    exact ⟨u, _, rfl, h1, repsApp r h2⟩
/-- the reading of a comprehension from its word -/
theorem lc_red {K : PySem.W.Frag} {XW : L2.St → XK} {r : En → Hx → R Src} {t : Tg} {vs : List Nat} {tt : En → Hx → R Bool} {te : En → Hx → R D} (ht : ∀ i ∈ t.slots, i ∈ vs) : ∀ σ H Q, tF K XW (rLc r t vs tt te) σ H Q → tLc (tI K XW r) (gE K t) (tG relB K XN tt) (tG (Rep K) K XN te) vs σ H Q := by
  rintro σ H Q ⟨F, ρ, c, h, w, e, q⟩
  refine ⟨F, ρ, c, h, w, e, ?_⟩
  unfold rLc at q
  cases z : r c h with
  | no => rw [z] at q; exact q
  | ex x h' => rw [z] at q; exact q
  | ok s h1 =>
    rw [z] at q
    dsimp only [bind_ok] at q
    intro J F1 ρ1 H1 x1 w1 e1 sr
    cases zn : s.len h1 with
    | none => rw [zn] at q; exact q.elim
    | some N =>
      rw [zn] at q
      dsimp only at q
      by_cases hN : N < sizeLine
      rotate_left
      · rw [if_neg hN] at q; exact q.elim
      rw [if_pos hN] at q
      intro P hP
      have d0 : del (upd H1 P (.lst [])) P = H1 := del_upd hP
      refine ⟨fun i m H' => i + m = N ∧ ∃ F2 t2 h2 acc us, Ext F1 ρ1 h1 H1 F2 (ρ1 ++ t2) h2 (del H' P) ∧ Wd K F2 (ρ1 ++ t2) h2 (del H' P) ∧ H' P = some (.lst us) ∧ Reps K F2 (ρ1 ++ t2) acc us ∧ acc.length ≤ i ∧ FinF K (XW σ) F2 (ρ1 ++ t2) h2 (del H' P) (lcGo s N t vs tt te m acc c h2) Q,
        ⟨N, by simp, F1, [], h1, [], [], by rw [d0]; simpa using (Ext.refl : Ext F1 ρ1 h1 H1 F1 ρ1 h1 H1), by rw [d0]; simpa using w1, upd_same, by unfold Reps; rfl, Nat.le_refl _, by rw [d0]; simpa using q.ext x1⟩, fun i m H' hW => ?_⟩
      obtain ⟨im, F2, t2, h2, acc, us, x2, w2, hD, rs, hl, q2⟩ := hW
      have hup : upd (del H' P) P (.lst us) = H' := upd_del hD
      have oF : F2 P = none := w2.fnone del_same
      have oR : P ∉ ρ1 ++ t2 := w2.out del_same
      have w2' : Wd K F2 (ρ1 ++ t2) h2 H' := by
        rw [← hup]; exact w2.other oF oR
      cases m with
      | zero =>
        unfold lcGo at q2
        split at q2
        · next hle =>
          simp only [Nat.add_zero] at im; subst im
          refine .inl ⟨sr.stop F2 t2 h2 H' i x2.f w2' hle, ?_⟩
          have := q2 us P F2 _ _ .refl w2 rs del_same
          rwa [hup] at this
        · exact q2.elim
      | succ m =>
        unfold lcGo at q2
        have hi' : N - (m + 1) = i := by omega
        rw [hi'] at q2
        cases zi : s.item h2 i with
        | none => rw [zi] at q2; exact q2.elim
        | some d =>
          rw [zi] at q2
          dsimp only at q2
          cases zt : tgS t d (wipeC c vs) with
          | none => rw [zt] at q2; exact q2.elim
          | some c3 =>
            rw [zt] at q2
            dsimp only at q2
            refine .inr ⟨sr.go F2 t2 h2 H' i d x2.f w2' zi, fun H4 => (i + 1) + m = N ∧ ∃ F2 t2 h2 acc us, Ext F1 ρ1 h1 H1 F2 (ρ1 ++ t2) h2 (del H4 P) ∧ Wd K F2 (ρ1 ++ t2) h2 (del H4 P) ∧ H4 P = some (.lst us) ∧ Reps K F2 (ρ1 ++ t2) acc us ∧ acc.length ≤ i + 1 ∧ FinF K (XW σ) F2 (ρ1 ++ t2) h2 (del H4 P) (lcGo s N t vs tt te m acc c h2) Q,
              fun H4 hN => ⟨m, Nat.lt_succ_self m, hN⟩, fun x H3 hy => ?_⟩
            obtain ⟨F3, x3, w3, r3⟩ := sr.yld F2 t2 h2 H' i d x H3 x2.f w2' zi hy
            refine ⟨F3, _, wipeC c vs, h2, d, c3, w3, ((e1.ext (show Ext F1 ρ1 h1 H1 F2 (ρ1 ++ t2) h2 (del H' P) from x2)).wipe vs).ext x3, r3, zt, fun σ5 e5 s5 => ?_⟩
            refine ⟨by rw [s5 vs ht, wipe_sub σ vs vs fun i m => m], ?_⟩
            refine ⟨F3, _, c3, h2, w3, e5, ?_⟩
            cases zt1 : tt c3 h2 with
            | no => rw [zt1] at q2; exact q2
            | ex => rw [zt1] at q2; exact q2.elim
            | ok k h4 =>
              rw [zt1] at q2
              intro k' F4 ρ4 H4 x4 w4 r4
              have r4 : k = k' := r4
              subst r4
              have x24 := x3.trans x4
              obtain ⟨f4, n4, hD4, y4⟩ := x24.del hD oR oF
              have y04 := x2.trans y4
              obtain ⟨t4, rfl⟩ := x4.r
              cases k with
              | false =>
                simp only [Bool.false_eq_true, if_false] at q2 ⊢
                refine ⟨by omega, F4, t2 ++ t4, h4, acc, us, by rw [← List.append_assoc]; exact y04, by rw [← List.append_assoc]; exact w4.del f4 n4, hD4, by rw [← List.append_assoc]; exact x24.reps rs, by omega, ?_⟩
                rw [← List.append_assoc]
                exact q2.ext y4
              | true =>
                simp only [if_true] at q2 ⊢
                refine ⟨F4, _, c3, h4, w4, e5.ext x4, ?_⟩
                cases ze : te c3 h4 with
                | no => rw [ze] at q2; exact q2
                | ex => rw [ze] at q2; exact q2.elim
                | ok y h5 =>
                  rw [ze] at q2
                  intro u F5 ρ5 H5 x5 w5 r5
                  have x25 := x24.trans x5
                  obtain ⟨f5, n5, hD5, y5⟩ := x25.del hD oR oF
                  have y05 := x2.trans y5
                  obtain ⟨t5, rfl⟩ := x5.r
                  refine ⟨us, hD5, by rw [← repsLen rs]; omega, by omega, F5, t2 ++ (t4 ++ t5), h5, acc ++ [y], us ++ [u], ?_, ?_, upd_same, ?_, by rw [List.length_append, List.length_singleton]; omega, ?_⟩
                  · rw [del_upd2, ← List.append_assoc, ← List.append_assoc]; exact y05
                  · rw [del_upd2, ← List.append_assoc, ← List.append_assoc]; exact w5.del f5 n5
                  · rw [← List.append_assoc, ← List.append_assoc]; exact repsApp r5 (x25.reps rs)
                  · rw [del_upd2, ← List.append_assoc, ← List.append_assoc]; exact q2.ext y5
section
variable {X : Cx} {XW : L2.St → XK} {pos : Pos}
theorem f_lc {elt tg iter : Expr} {ifs : List Expr} {scope : Scope} (own : List (Str × Nat)) {r : En → Hx → R Src} {t : Tg} {tt : En → Hx → R Bool} {te : En → Hx → R D} (hc : X.calm = true) (hN : X.N.Nodup) (hi : EI X XW tg iter r) (ok : BlkOk X.N X.env.scope scope own)
    (hg : ∀ (s : Shared) (H : Hp) (C : Addr) (cl : List (Str × Addr)) (fp : List Addr), EG (X.blk s H scope (compEnvC scope cl C X.env) fp) tg t) (ht : ∀ (s : Shared) (H : Hp) (C : Addr) (cl : List (Str × Addr)) (fp : List Addr), ETs (X.blk s H scope (compEnvC scope cl C X.env) fp) XN ifs tt)
    (he : ∀ (s : Shared) (H : Hp) (C : Addr) (cl : List (Str × Addr)) (fp : List Addr), EE (X.blk s H scope (compEnvC scope cl C X.env) fp) XN elt te) (hv : ∀ i ∈ t.slots, i ∈ own.map (·.2) := by decide) (hs : ∀ x, foldedSetIterable iter X.env x = pure x := by intro _; rfl) :
    EF X XW (.ListComp elt [⟨tg, iter, ifs, 0⟩] scope pos) (rLc r t (own.map (·.2)) tt te) := iE (pe_lc hc hN hi ok hg ht he hs) (lc_red hv)
/-- a new list that changes no more; one that may change -/
def rFro (r : En → Hx → R (List D)) : En → Hx → R D := fun c h => (r c h).bind fun ds h' => .ok (.lst ds) h'
def rMut (r : En → Hx → R (List D)) : En → Hx → R D := fun c h => (r c h).bind fun ds h' => .ok (.ref h'.length) (h' ++ [.lst ds])
theorem fro_red {K : PySem.W.Frag} {r : En → Hx → R (List D)} : ∀ σ H Q, tG (Rep K) K XW (rFro r) σ H Q → tF K XW r σ H Q := fun σ H Q ⟨F, ρ, c, h, w, e, q⟩ => ⟨F, ρ, c, h, w, e, by
  unfold rFro at q
  cases z : r c h with
  | no => rw [z] at q; exact q
  | ex => rw [z] at q; exact q
  | ok ds h1 =>
    rw [z] at q
    intro vs p F1 ρ1 H1 x1 w1 r1 np
    obtain ⟨w2, x2⟩ := w1.frozen np (.lst vs)
    refine q _ _ _ _ (x1.trans x2) w2 ?_
    unfold Rep
    exact ⟨p, vs, rfl, upd_same, x2.reps r1⟩⟩
theorem mut_red {K : PySem.W.Frag} {r : En → Hx → R (List D)} : ∀ σ H Q, tG (Rep K) K XW (rMut r) σ H Q → tF K XW r σ H Q := fun σ H Q ⟨F, ρ, c, h, w, e, q⟩ => ⟨F, ρ, c, h, w, e, by
  unfold rMut at q
  cases z : r c h with
  | no => rw [z] at q; exact q
  | ex => rw [z] at q; exact q
  | ok ds h1 =>
    rw [z] at q
    intro vs p F1 ρ1 H1 x1 w1 r1 np
    obtain ⟨w2, x2⟩ := w1.fresh (o := .lst vs) (m := .lst ds) np ⟨w1.fnone np, vs, upd_same, by have := Reps.mono (t := [p]) (Sub.refl F1) r1; exact this⟩
    refine q _ _ _ _ (x1.trans x2) w2 ?_
    unfold Rep
    exact ⟨p, rfl, by rw [List.getElem?_append_right (by rw [w1.len]; exact Nat.le_refl _), w1.len]; simp⟩⟩
theorem e_fro {e : Expr} {r : En → Hx → R (List D)} (h : EF X XW e r) : EE X XW e (rFro r) := iE h fro_red
theorem e_mut {e : Expr} {r : En → Hx → R (List D)} (h : EF X XW e r) : EE X XW e (rMut r) := iE h mut_red
/-- name = [..] -/
theorem s_lcG {elt tg iter : Expr} {ifs : List Expr} {scope : Scope} (own : List (Str × Nat)) (i : Nat) {y : Str} {py spos : Pos} {r : En → Hx → R Src} {t : Tg} {tt : En → Hx → R Bool} {te : En → Hx → R D} {rr : En → Hx → R D} (hc : X.calm = true) (hN : X.N.Nodup)
    (hy : X.N[i]? = some y) (hyl : X.env.scope.names.lookup y = some .local) (hsw : swapsWith (.ListComp elt [⟨tg, iter, ifs, 0⟩] scope pos) (some (.Name y py)) spos.line X.env = pure true) (hi : EI X XW tg iter r) (ok : BlkOk X.N X.env.scope scope own)
    (hg : ∀ (s : Shared) (H : Hp) (C : Addr) (cl : List (Str × Addr)) (fp : List Addr), EG (X.blk s H scope (compEnvC scope cl C X.env) fp) tg t) (ht : ∀ (s : Shared) (H : Hp) (C : Addr) (cl : List (Str × Addr)) (fp : List Addr), ETs (X.blk s H scope (compEnvC scope cl C X.env) fp) XN ifs tt)
    (he : ∀ (s : Shared) (H : Hp) (C : Addr) (cl : List (Str × Addr)) (fp : List Addr), EE (X.blk s H scope (compEnvC scope cl C X.env) fp) XN elt te)
    (red : ∀ σ H Q, tG (Rep X.K) X.K XW rr σ H Q → tF X.K XW (rLc r t (own.map (·.2)) tt te) σ H Q) (hv : ∀ i ∈ t.slots, i ∈ own.map (·.2) := by decide) (hs : ∀ x, foldedSetIterable iter X.env x = pure x := by intro _; rfl) :
    ES X XW (.Assign [.Name y py] (.ListComp elt [⟨tg, iter, ifs, 0⟩] scope pos) spos) (sAsg rr (.nm i)) :=
  iS (ps_setLc hc hN hy hyl hsw hi ok hg ht he hs) fun T σ H ⟨F, ρ, c, h, w, e, q⟩ => lc_red hv σ H _ (red σ H _ (tG_toS w e q fun d h1 v F1 ρ1 H1 x w1 r1 e1 q1 => by
    exact q1 _ F1 ρ1 H1 .refl w1 (e1.set i r1)))
end
end PV
namespace PV
open PySem PySem.Spec PyProof.Rows L2

/-! ### no reference above n -/
mutual
def D.und (n : Nat) : D → Bool
  | .ref m => decide (m < n)
  | .tup ds => D.unds n ds
  | .lst ds => D.unds n ds
  | .rol ds => D.unds n ds
  | .rot ds => D.unds n ds
  | _ => true
def D.unds (n : Nat) : List D → Bool
  | [] => true
  | d :: ds => d.und n && D.unds n ds
end
def MO.und (n : Nat) : MO → Bool
  | .gone => true
  | .lst ds => D.unds n ds
  | .dic kvs => D.unds n (kvs.map (·.2))
  | .ins _ _ ds => D.unds n ds
section
variable {K : PySem.W.Frag} {F F' : Hp} {ρ ρ' : List Addr} {h h' : Hx} {H H' : Hp}
mutual
theorem Rep.take {n : Nat} : ∀ {d : D} {v : V}, d.und n = true → Rep K F ρ d v → Rep K F (ρ.take n) d v
  | .non, _, _, h => by unfold Rep at h ⊢; exact h
  | .bl _, _, _, h => by unfold Rep at h ⊢; exact h
  | .int _, _, _, h => by unfold Rep at h ⊢; exact h
  | .str _, _, _, h => by unfold Rep at h ⊢; exact h
  | .ty _, _, _, h => by unfold Rep at h ⊢; exact h
  | .ob _, _, _, h => by unfold Rep at h ⊢; exact h
  | .tup ds, _, b, h => by
    unfold D.und at b
    unfold Rep at h ⊢
    obtain ⟨a, vs, h1, h2, h3⟩ := h
    exact ⟨a, vs, h1, h2, Reps.take b h3⟩
  | .lst ds, _, b, h => by
    unfold D.und at b
    unfold Rep at h ⊢
    obtain ⟨a, vs, h1, h2, h3⟩ := h
    exact ⟨a, vs, h1, h2, Reps.take b h3⟩
  | .rot ds, _, b, h => by
    unfold D.und at b
    unfold Rep at h ⊢
    obtain ⟨a, vs, h1, h2, h3⟩ := h
    exact ⟨a, vs, h1, h2, Reps.take b h3⟩
  | .rol ds, _, b, h => by
    unfold D.und at b
    unfold Rep at h ⊢
    obtain ⟨a, vs, h1, h2, h3⟩ := h
    exact ⟨a, vs, h1, h2, Reps.take b h3⟩
  | .ref m, _, b, h => by
    unfold D.und at b
    unfold Rep at h ⊢
    obtain ⟨a, h1, h2⟩ := h
    exact ⟨a, h1, by rw [List.getElem?_take_of_lt (of_decide_eq_true b)]; exact h2⟩
theorem Reps.take {n : Nat} : ∀ {ds : List D} {vs : List V}, D.unds n ds = true → Reps K F ρ ds vs → Reps K F (ρ.take n) ds vs
  | [], _, _, h => by unfold Reps at h ⊢; exact h
  | d :: ds, _, b, h => by
    unfold D.unds at b
    unfold Reps at h ⊢
    obtain ⟨v, r, h1, h2, h3⟩ := h
    have b := Bool.and_eq_true_iff.mp b
    exact ⟨v, r, h1, Rep.take b.1 h2, Reps.take b.2 h3⟩
end
theorem MOk.take {n : Nat} {a : Addr} {m : MO} (b : m.und n = true) (r : MOk K F ρ a H m) : MOk K F (ρ.take n) a H m := by
  cases m with
  | gone => trivial
  | lst ds => obtain ⟨q, vs, h1, h2⟩ := r; exact ⟨q, vs, h1, Reps.take b h2⟩
  | dic ds => obtain ⟨q, vs, h1, h3, h2⟩ := r; exact ⟨q, vs, h1, h3, Reps.take b h2⟩
  | ins C nm ds => obtain ⟨q, dx, vs, h1, h3, h4, h2⟩ := r; exact ⟨q, dx, vs, h1, h3, h4, Reps.take b h2⟩
/-- the things from n on are forgotten -/
theorem Wd.cut (w : Wd K F ρ h H) (n : Nat) (b : ∀ m ∈ h.take n, m.und n = true) : Wd K F (ρ.take n) (h.take n) H := by
  refine ⟨w.sub, by simp [w.len], w.nd.sublist (List.take_sublist _ _), fun a m => w.has a (List.mem_of_mem_take m), fun i a m e g => ?_⟩
  have hi : i < n := by
    have := (List.getElem?_eq_some_iff.mp e).1
    rw [List.length_take] at this; omega
  have mm := b m (List.mem_of_getElem? g)
  rw [List.getElem?_take_of_lt hi] at e g
  exact (w.ok i a m e g).take mm
theorem Ext.cut (x : Ext F ρ h H F' ρ' h' H') (n : Nat) (hn : n = ρ.length) : Ext F ρ h H F' (ρ'.take n) (h'.take n) H' := by
  subst hn
  refine ⟨x.f, ⟨[], ?_⟩, x.fr, fun b m n => x.fresh b (List.mem_of_mem_take m) n, x.ff, fun i a e g => ?_⟩
  · obtain ⟨t, rfl⟩ := x.r
    simp
  · obtain ⟨g1, g2⟩ := x.gn i a e g
    exact ⟨g1, by rw [List.getElem?_take_of_lt (List.getElem?_eq_some_iff.mp e).1]; exact g2⟩
end
/-- a call's end: the heap as it is; without what is new; with one new thing of it alone -/
inductive Md where | keep | cut | one
def rEnd (md : Md) (n : Nat) (d : D) (h : Hx) : R D := match md with
  | .keep => .ok d h
  | .cut => if (d.und n && (h.take n).all (MO.und n)) = true then .ok d (h.take n) else .no
  | .one => match d with
    | .ref m => match h[m]? with
      | some o => if (decide (n ≤ m) && o.und n && (h.take n).all (MO.und n)) = true then .ok (.ref n) (h.take n ++ [o]) else .no
      | none => .no
    | d => if (d.und n && (h.take n).all (MO.und n)) = true then .ok d (h.take n) else .no
def rEndX (md : Md) (n : Nat) (x : Addr) (h : Hx) : R D := match md with
  | .keep => .ex x h
  | _ => if ((h.take n).all (MO.und n)) = true then .ex x (h.take n) else .no
def fnOf (md : Md) (n N : Nat) (b : En → Hx → SR) : List D → Hx → R D := fun ds h => if ds.length = n then match b (ds.map some ++ List.replicate (N - ds.length) none) h with
    | .nx _ h' => rEnd md h.length .non h'
    | .rt d h' => rEnd md h.length d h'
    | .ex x _ h' => rEndX md h.length x h'
    | _ => .no
  else .no
section
variable {K : PySem.W.Frag} {E : XK} {F F' F1 : Hp} {ρ ρ' ρ1 : List Addr} {h h' h1 : Hx} {H H' H1 : Hp}
theorem rEnd_ok {md : Md} {d : D} {v : V} {Q : VK} (w : Wd K F ρ h H) (x : Ext F ρ h H F1 ρ1 h1 H1) (w1 : Wd K F1 ρ1 h1 H1) (r : Rep K F1 ρ1 d v) (q : Fin (Rep K) K E F ρ h H (rEnd md h.length d h1) Q) : Q v H1 := by
  have cutCase : ∀ d : D, Rep K F1 ρ1 d v → Fin (Rep K) K E F ρ h H (if (d.und h.length && (h1.take h.length).all (MO.und h.length)) = true then .ok d (h1.take h.length) else .no) Q → Q v H1 := by
    intro d r q
    by_cases b : (d.und h.length && (h1.take h.length).all (MO.und h.length)) = true
    · rw [if_pos b] at q
      have b := Bool.and_eq_true_iff.mp b
      have e : h.length = ρ.length := w.len.symm
      have x2 := x.cut h.length e
      exact q v F1 _ H1 x2 (w1.cut h.length (List.all_eq_true.mp b.2)) (Rep.take b.1 r)
    · rw [if_neg b] at q; exact q.elim
  cases md with
  | keep => exact q v F1 ρ1 H1 x w1 r
  | cut => exact cutCase d r q
  | one =>
    cases d with
    | ref m =>
      unfold rEnd at q
      dsimp only at q
      cases z : h1[m]? with
      | none => rw [z] at q; exact q.elim
      | some o =>
        rw [z] at q
        dsimp only at q
        by_cases b : (decide (h.length ≤ m) && o.und h.length && (h1.take h.length).all (MO.und h.length)) = true
        · rw [if_pos b] at q
          have b := Bool.and_eq_true_iff.mp b
          have b1 := Bool.and_eq_true_iff.mp b.1
          have hm := of_decide_eq_true b1.1
          have e : h.length = ρ.length := w.len.symm
          have x2 := x.cut h.length e
          have w2 := w1.cut h.length (List.all_eq_true.mp b.2)
          unfold Rep at r
          obtain ⟨a, rfl, ha⟩ := r
          have ra : ρ1.take h.length = ρ := by
            obtain ⟨t, rfl⟩ := x.r
            rw [e]; simp
          have hl1 : h.length ≤ h1.length := by
            rw [← w1.len, ← w.len]
            obtain ⟨t, rfl⟩ := x.r
            simp
          have hk : (h1.take h.length).length = ρ.length := by rw [List.length_take, e]; omega
          have na : a ∉ ρ := fun q => by
            obtain ⟨i, hi, e1⟩ := List.mem_iff_getElem.mp q
            obtain ⟨t, rfl⟩ := x.r
            have hai : (ρ ++ t)[i]? = some a := pre_get (by simp [hi, e1])
            obtain ⟨h4, e4⟩ := List.getElem?_eq_some_iff.mp hai
            obtain ⟨h5, e5⟩ := List.getElem?_eq_some_iff.mp ha
            have := (List.getElem_inj w1.nd).mp (e4.trans e5.symm)
            omega
          have fresh : H a = none := x.fresh a (List.mem_of_getElem? ha) na
          refine q (.ref a) F1 (ρ ++ [a]) H1 ⟨x.f, ⟨[a], rfl⟩, x.fr, fun b m n => ?_, x.ff, fun i b e1 g => ?_⟩ ⟨w1.sub, by simp [hk], ?_, fun b m => ?_, fun i b m' e1 g => ?_⟩ (by unfold Rep; exact ⟨a, rfl, by rw [List.getElem?_append_right (by omega)]; simp [e]⟩)
          · rcases List.mem_append.mp m with m | m
            · exact absurd m n
            · simp at m; subst m; exact fresh
          · obtain ⟨g1, g2⟩ := x.gn i b e1 g
            have hi := (List.getElem?_eq_some_iff.mp e1).1
            exact ⟨g1, by rw [List.getElem?_append_left (by omega), List.getElem?_take_of_lt (by omega)]; exact g2⟩
          · refine List.nodup_append.mpr ⟨w.nd, by simp, fun c hc b hb => ?_⟩
            simp at hb; subst hb
            exact fun z => na (z ▸ hc)
          · rcases List.mem_append.mp m with m | m
            · exact w1.has b (by rw [← ra] at m; exact List.mem_of_mem_take m)
            · simp at m; subst m; exact w1.has _ (List.mem_of_getElem? ha)
          · by_cases hi : i < ρ.length
            · rw [List.getElem?_append_left hi] at e1
              rw [List.getElem?_append_left (by omega)] at g
              have := w2.ok i b m' (by rw [ra]; exact e1) g
              rw [ra] at this
              exact MOk.mono (Sub.refl _) (fun q => q) rfl this
            · rw [List.getElem?_append_right (by omega)] at e1 g
              rw [hk] at g
              have zi : i - ρ.length = 0 := by
                have := (List.getElem?_eq_some_iff.mp e1).1
                simp at this; omega
              rw [zi] at e1 g
              simp at e1 g
              subst e1; subst g
              have := (w1.ok m a o ha z).take b1.2
              rw [ra] at this
              exact MOk.mono (Sub.refl _) (fun q => q) rfl this
        · rw [if_neg b] at q; exact q.elim
    | _ => exact cutCase _ r q
theorem rEndX_ok {md : Md} {c : Addr} {Q : VK} (w : Wd K F ρ h H) (x : Ext F ρ h H F1 ρ1 h1 H1) (w1 : Wd K F1 ρ1 h1 H1) (q : Fin (Rep K) K E F ρ h H (rEndX md h.length c h1) Q) : E (.ref c) none H1 := by
  have cutCase : Fin (Rep K) K E F ρ h H (if ((h1.take h.length).all (MO.und h.length)) = true then R.ex c (h1.take h.length) else .no) Q → E (.ref c) none H1 := by
    intro q
    by_cases b : ((h1.take h.length).all (MO.und h.length)) = true
    · rw [if_pos b] at q
      have e : h.length = ρ.length := w.len.symm
      exact q F1 _ H1 (x.cut h.length e) (w1.cut h.length (List.all_eq_true.mp b))
    · rw [if_neg b] at q; exact q.elim
  cases md with
  | keep => exact q F1 ρ1 H1 x w1
  | cut => exact cutCase q
  | one => exact cutCase q
end

/-! ### defs -/
def spOf (K : PySem.W.Frag) (f : List D → Hx → R D) : Sp := fun vs H Q E => ∃ F ρ ds h, Wd K F ρ h H ∧ Reps K F ρ ds vs ∧ Fin (Rep K) K E F ρ h H (f ds h) Q
/-- what a body, a block knows of where it stands -/
structure Cxt (X : Cx) (XW : L2.St → XK) (k : Nat) : Prop where
  calm : X.calm = true
  nd : X.N.Nodup
  pass : ∀ σ, PassesAt (L2.CX X.prog X.w) X σ (XW σ)
  room : Room k X.A
theorem Cxt.blk {X : Cx} {XW : L2.St → XK} {k : Nat} (C : Cxt X XW k) (s : Shared) (H : Hp) (scope : Scope) (cenv : Env) (fp : List Addr) : Cxt (X.blk s H scope cenv fp) XN k :=
  ⟨C.calm, C.nd, fun σ pins H s e s' _ h => by
    obtain ⟨_, _, _, _, _, _, _, _, _, _, _, _, z⟩ := h
    exact z.elim, C.room⟩
section
variable {P : Program} {w : World} {K : PySem.W.Frag} {mg : Str → Option Value} {base : Heap}
theorem repsStart {N : List Str} {F : Hp} {ρ : List Addr} : ∀ {ds : List D} {vs : List V}, Reps K F ρ ds vs → EnvR K F ρ (ds.map some ++ List.replicate (N.length - ds.length) none) (L2.start N vs) := fun {ds vs} h => by
  have hl := repsLen h
  refine ⟨by unfold L2.start; simp [hl], fun i d e => ?_⟩
  by_cases hi : i < ds.length
  · rw [List.getElem?_append_left (by simpa using hi), List.getElem?_map] at e
    cases z : ds[i]? with
    | none => rw [z] at e; cases e
    | some d' =>
      rw [z] at e
      cases e
      obtain ⟨v, hv, r⟩ := repsGet h z
      exact ⟨v, by unfold L2.start; rw [List.getElem?_append_left (by simp; omega), List.getElem?_map, hv] <;> rfl, r⟩
  · rw [List.getElem?_append_right (by simpa using hi), List.getElem?_replicate] at e
    split at e <;> cases e
theorem fn_ok {x qual : Str} {st : Stmt} {f : Addr} {fd : FuncData} {N ps : List Str} {k : Nat} {rs : En → Hx → SR} (md : Md) (Fu : Fun K x qual st f fd) (S : FnScope N ps (defScope st))
    (hbody : ∀ (cdv : Value) (A : Around) (outer : List Env) (s : Shared) (H : Hp) (E : XK), Cxt (cxOf (L2.CX P w) P w K mg base N qual (defScope st) f cdv A outer s H E) (fun _ => E) k →
      PassesOwn (model P w) (A.deeper (envOfC qual (defScope st) s.heap.objs.size f cdv)) (envOfC qual (defScope st) s.heap.objs.size f cdv) (cxOf (L2.CX P w) P w K mg base N qual (defScope st) f cdv A outer s H E).xe →
      Takes (cxOf (L2.CX P w) P w K mg base N qual (defScope st) f cdv A outer s H E) (fun cls d _ H => E cls d H) → EB (cxOf (L2.CX P w) P w K mg base N qual (defScope st) f cdv A outer s H E) (fun _ => E) (defBody st) rs) :
    FnOk P w K mg base (L2.CX P w) (k + 1) f fd ps (spOf K (fnOf md ps.length N.length rs)) := by
  refine Fu.okX S (fun vs H Q E ⟨F, ρ, ds, h, wd, r, q⟩ => ?_) (fun cdv A outer s H vs Q E hr ⟨F, ρ, ds, h, wd, r, q⟩ => ?_)
  · unfold fnOf at q
    by_cases z : ds.length = ps.length
    · rw [← repsLen r, z]
    · rw [if_neg z] at q; exact q.elim
  · have tk : Takes (cxOf (L2.CX P w) P w K mg base N qual (defScope st) f cdv A outer s H E) (fun cls d _ H => E cls d H) := takes_of rfl rfl rfl rfl
    refine ⟨_, hbody cdv A outer s H E ⟨rfl, S.nd, fun σ => passAt tk σ, hr⟩ (passes_of rfl) tk, ?_⟩
    refine ⟨F, ρ, _, h, wd, repsStart r, ?_⟩
    unfold fnOf at q
    by_cases z : ds.length = ps.length
    · rw [if_pos z] at q
      cases zb : rs (ds.map some ++ List.replicate (N.length - ds.length) none) h with
      | no => rw [zb] at q; exact q
      | nx c h1 => rw [zb] at q; exact fun σ F1 ρ1 H1 x1 w1 e1 => rEnd_ok wd x1 w1 (by unfold Rep; rfl) q
      | rt d h1 => rw [zb] at q; exact fun v F1 ρ1 H1 x1 w1 r1 => rEnd_ok wd x1 w1 r1 q
      | bk => rw [zb] at q; exact q.elim
      | ct => rw [zb] at q; exact q.elim
      | ex x c h1 => rw [zb] at q; exact fun σ F1 ρ1 H1 x1 w1 e1 => rEndX_ok wd x1 w1 q
    · rw [if_neg z] at q; exact q.elim
end

/-! ### arguments, calls -/
def aNil : En → Hx → R (List D) := fun _ h => .ok [] h
def aCons (r : En → Hx → R D) (s : En → Hx → R (List D)) : En → Hx → R (List D) := fun c h => (r c h).bind fun d h1 => (s c h1).bind fun ds h2 => .ok (d :: ds) h2
def rCall (g : List D → Hx → R D) (s : En → Hx → R (List D)) : En → Hx → R D := fun c h => (s c h).bind g
section
variable {X : Cx} {XW : L2.St → XK} {pos : Pos}
theorem a_nil : EA X XW [] aNil := iA pa_nil fun σ H Q ⟨F, ρ, c, h, w, e, q⟩ => q [] F ρ H .refl w (by unfold Reps; rfl)
theorem a_cons {e : Expr} {es : List Expr} {r : En → Hx → R D} {s : En → Hx → R (List D)} (he : EE X XW e r) (hr : EA X XW es s) (hs : starEach (e :: es) X.env = (false, eval e X.env) :: starEach es X.env := by rfl) : EA X XW (e :: es) (aCons r s) :=
  iA (pa_cons he hr hs) fun σ H Q ⟨F, ρ, c, h, w, e, q⟩ => tG_bind w e q fun d h1 v F1 ρ1 H1 x1 w1 r1 e1 q1 => tG_bind w1 e1 q1 fun ds h2 vs F2 ρ2 H2 x2 w2 r2 e2 q2 =>
    q2 (v :: vs) F2 ρ2 H2 .refl w2 (by unfold Reps; exact ⟨v, vs, rfl, x2.rep r1, r2⟩)
def rTup (s : En → Hx → R (List D)) : En → Hx → R D := fun c h => (s c h).bind fun ds h1 => if ds.length < 100 then .ok (.tup ds) h1 else .no
theorem e_tup {es : List Expr} {k : Nat} {s : En → Hx → R (List D)} (h : EA X XW es s) : EE X XW (.Tuple es k pos) (rTup s) :=
  iE (pe_tup h) fun σ H Q ⟨F, ρ, c, h, w, e, q⟩ => tG_bind w e q fun ds h1 vs F1 ρ1 H1 x1 w1 r1 e1 q1 => by
    by_cases z : ds.length < 100
    · rw [if_pos z] at q1
      refine ⟨by rw [← repsLen r1]; exact Nat.le_trans (Nat.le_of_lt z) (by decide), fun p np => ?_⟩
      obtain ⟨w2, x2⟩ := w1.frozen np (.tup vs)
      refine q1 _ _ _ _ x2 w2 ?_
      unfold Rep
      exact ⟨p, vs, rfl, upd_same, x2.reps r1⟩
    · rw [if_neg z] at q1; exact q1.elim
def fDis (s : En → Hx → R (List D)) : En → Hx → R (List D) := fun c h => (s c h).bind fun ds h1 => if ds.length < 100 then .ok ds h1 else .no
theorem f_lst {es : List Expr} {s : En → Hx → R (List D)} (h : EA X XW es s) : EF X XW (.List es pos) (fDis s) :=
  iE (pe_lst h) fun σ H Q ⟨F, ρ, c, h, w, e, q⟩ => tG_bind (rel2 := Reps X.K) (Q := fun vs H' => ∀ p, H' p = none → Q (.ref p) (upd H' p (.lst vs))) w e (by
    unfold fDis at q
    cases z : s c h with
    | no => rw [z] at q; exact q
    | ex => rw [z] at q; exact q
    | ok ds h1 =>
      rw [z] at q
      dsimp only [bind_ok] at q ⊢
      show Fin (Reps X.K) X.K (XW σ) F ρ h H (if ds.length < 100 then .ok ds h1 else .no) _
      by_cases zl : ds.length < 100
      · rw [if_pos zl] at q ⊢; exact fun vs F' ρ' H' x' w' r' p np => q vs p F' ρ' H' x' w' r' np
      · rw [if_neg zl] at q; exact q.elim) fun ds h1 vs F1 ρ1 H1 x1 w1 r1 e1 q1 => by
    by_cases z : ds.length < 100
    · rw [if_pos z] at q1
      exact ⟨by rw [← repsLen r1]; exact Nat.le_trans (Nat.le_of_lt z) (by decide), q1 vs F1 ρ1 H1 .refl w1 r1⟩
    · rw [if_neg z] at q1; exact q1.elim
theorem e_call {k l : Nat} {f : Addr} {fd : FuncData} {ps : List Str} {g : List D → Hx → R D} {x : Str} {p : Pos} {e : Expr} {es : List Expr} {s : En → Hx → R (List D)} (C : Cxt X XW l) (hk : k ≤ l) (G : FnOk X.prog X.w X.K X.mg X.base (L2.CX X.prog X.w) k f fd ps (spOf X.K g))
    (hm : X.mg x = some (.ref f)) (hkp : PySem.W.keepIn X.K (.ref f) = true) (hb : Binds X.K fd ps []) (hg : Gl X x) (ha : EA X XW (e :: es) s) (hdb : (x == ("__debug__" : Str)) = false := by decide)
    (he : starEach (e :: es) X.env = (false, eval e X.env) :: starEach es X.env := by rfl) (hpl : (backTo pos (starEach es X.env)).any (·.1) = false := by rfl) : EE X XW (.Call (.Name x p) (e :: es) [] pos) (rCall g s) :=
  iE (pe_callSD (dvs := []) (ds := []) G (C.room.mono hk) hg hm hkp hb .nil C.pass ha hdb he hpl) fun σ H Q ⟨F, ρ, c, h, w, e, q⟩ => tG_bind w e q fun ds h1 vs F1 ρ1 H1 x1 w1 r1 e1 q1 => by
    rw [List.append_nil]
    exact ⟨F1, ρ1, ds, h1, w1, r1, q1⟩
end
end PV
namespace PV
open PySem PySem.Spec PyProof.Rows L2

/-! ### ints -/
def sm (i : Int) : Bool := decide (i.natAbs.log2 < 4000)
def int2 (P : Int → Int → Bool) (f : Int → Int → D) : D → D → Hx → R D
  | .int a, .int b, h => if P a b = true then .ok (f a b) h else .no
  | _, _, _ => .no
section
variable {K : PySem.W.Frag} {F : Hp} {ρ : List Addr} {v : V}
theorem rep_int {i : Int} : Rep K F ρ (.int i) v ↔ v = .int i := by unfold Rep; exact Iff.rfl
theorem rep_bl {i : Bool} : Rep K F ρ (.bl i) v ↔ v = .bl i := by unfold Rep; exact Iff.rfl
theorem rep_str {i : Str} : Rep K F ρ (.str i) v ↔ v = .str i := by unfold Rep; exact Iff.rfl
theorem rep_non : Rep K F ρ .non v ↔ v = .non := by unfold Rep; exact Iff.rfl
theorem rep_ty {i : String} : Rep K F ρ (.ty i) v ↔ v = .ty i := by unfold Rep; exact Iff.rfl
theorem rep_ob {i : Addr} : Rep K F ρ (.ob i) v ↔ v = .ref i := by unfold Rep; exact Iff.rfl
theorem rep_ref {i : Nat} : Rep K F ρ (.ref i) v ↔ ∃ a, v = .ref a ∧ ρ[i]? = some a := by unfold Rep; exact Iff.rfl
theorem rep_rot {ds : List D} : Rep K F ρ (.rot ds) v ↔ ∃ a vs, v = .ref a ∧ SqT K F a vs ∧ Reps K F ρ ds vs := by unfold Rep; exact Iff.rfl
theorem rep_tup {ds : List D} : Rep K F ρ (.tup ds) v ↔ ∃ a vs, v = .ref a ∧ F a = some (.tup vs) ∧ Reps K F ρ ds vs := by unfold Rep; exact Iff.rfl
theorem rep_lst {ds : List D} : Rep K F ρ (.lst ds) v ↔ ∃ a vs, v = .ref a ∧ F a = some (.lst vs) ∧ Reps K F ρ ds vs := by unfold Rep; exact Iff.rfl
theorem rep_rol {ds : List D} : Rep K F ρ (.rol ds) v ↔ ∃ a vs, v = .ref a ∧ SqL K F a vs ∧ Reps K F ρ ds vs := by unfold Rep; exact Iff.rfl
theorem reps_nil {vs : List V} : Reps K F ρ [] vs ↔ vs = [] := by unfold Reps; exact Iff.rfl
theorem reps_cons {d : D} {ds : List D} {vs : List V} : Reps K F ρ (d :: ds) vs ↔ ∃ v r, vs = v :: r ∧ Rep K F ρ d v ∧ Reps K F ρ ds r := by
  conv => lhs; unfold Reps
theorem opS_int {C : Int → Int → Prop} {g : Int → Int → V} {P : Int → Int → Bool} {f : Int → Int → D} (hC : ∀ i j, P i j = true → C i j) (hr : ∀ F ρ i j, P i j = true → Rep K F ρ (f i j) (g i j)) : OpS K (rI C g) (int2 P f) := by
  intro F ρ h H x y v u E Q w rx ry q
  cases x with
  | int a =>
    cases y with
    | int b =>
      unfold int2 at q
      dsimp only at q
      by_cases z : P a b = true
      · rw [if_pos z] at q
        exact ⟨a, b, rep_int.mp rx, rep_int.mp ry, hC a b z, q _ F ρ H .refl w (hr F ρ a b z)⟩
      · rw [if_neg z] at q; exact q.elim
    | _ => exact q.elim
  | _ => exact q.elim
theorem opS_int0 {g : Int → Int → V} {P : Int → Int → Bool} {f : Int → Int → D} (hr : ∀ F ρ i j, P i j = true → Rep K F ρ (f i j) (g i j)) : OpS K (rI0 g) (int2 P f) := fun F ρ h H x y v u E Q w rx ry q => by
  obtain ⟨i, j, e1, e2, _, z⟩ := opS_int (C := fun _ _ => True) (g := g) (fun _ _ _ => True.intro) hr F ρ h H x y v u E Q w rx ry q
  exact ⟨i, j, e1, e2, z⟩
theorem reps_app : ∀ {ds es : List D} {vs us : List V}, Reps K F ρ ds vs → Reps K F ρ es us → Reps K F ρ (ds ++ es) (vs ++ us)
  | [], _, _, _, h, k => by rw [reps_nil.mp h]; exact k
  | d :: ds, es, _, us, h, k => by
    obtain ⟨v, r, rfl, h1, h2⟩ := reps_cons.mp h
    exact reps_cons.mpr ⟨v, r ++ us, rfl, h1, reps_app h2 k⟩
theorem reps_rep {ds : List D} {vs : List V} (h : Reps K F ρ ds vs) : ∀ n, Reps K F ρ (List.replicate n ds).flatten (List.replicate n vs).flatten
  | 0 => reps_nil.mpr rfl
  | n + 1 => by
    rw [List.replicate_succ, List.replicate_succ, List.flatten_cons, List.flatten_cons]
    exact reps_app h (reps_rep h n)
theorem reps_take (n : Nat) : ∀ {ds : List D} {vs : List V}, Reps K F ρ ds vs → Reps K F ρ (ds.take n) (vs.take n) := by
  induction n with
  | zero => intro ds vs h; exact reps_nil.mpr rfl
  | succ n ih =>
    intro ds vs h
    cases ds with
    | nil => rw [reps_nil.mp h]; exact reps_nil.mpr rfl
    | cons d ds =>
      obtain ⟨v, r, rfl, h1, h2⟩ := reps_cons.mp h
      exact reps_cons.mpr ⟨v, r.take n, rfl, h1, ih h2⟩
theorem reps_drop (n : Nat) : ∀ {ds : List D} {vs : List V}, Reps K F ρ ds vs → Reps K F ρ (ds.drop n) (vs.drop n) := by
  induction n with
  | zero => intro ds vs h; exact h
  | succ n ih =>
    intro ds vs h
    cases ds with
    | nil => rw [reps_nil.mp h]; exact reps_nil.mpr rfl
    | cons d ds =>
      obtain ⟨v, r, rfl, h1, h2⟩ := reps_cons.mp h
      exact ih h2
theorem reps_set {d : D} {v : V} (r : Rep K F ρ d v) (j : Nat) : ∀ {ds : List D} {vs : List V}, Reps K F ρ ds vs → Reps K F ρ (ds.set j d) (vs.set j v) := by
  induction j with
  | zero =>
    intro ds vs h
    cases ds with
    | nil => rw [reps_nil.mp h]; exact reps_nil.mpr rfl
    | cons d ds =>
      obtain ⟨u, us, rfl, h1, h2⟩ := reps_cons.mp h
      exact reps_cons.mpr ⟨v, us, rfl, r, h2⟩
  | succ j ih =>
    intro ds vs h
    cases ds with
    | nil => rw [reps_nil.mp h]; exact reps_nil.mpr rfl
    | cons d ds =>
      obtain ⟨u, us, rfl, h1, h2⟩ := reps_cons.mp h
      exact reps_cons.mpr ⟨u, us.set j v, rfl, h1, ih h2⟩
theorem reps_ints {ns : List Int} : ∀ {vs : List V}, Reps K F ρ (ns.map D.int) vs → vs = ns.map V.int := by
  induction ns with
  | nil => intro vs h; exact reps_nil.mp h
  | cons n ns ih =>
    intro vs h
    obtain ⟨v, r, rfl, h1, h2⟩ := reps_cons.mp h
    rw [rep_int.mp h1, ih h2] <;> rfl
theorem reps_bls {ns : List Bool} : ∀ {vs : List V}, Reps K F ρ (ns.map D.bl) vs → vs = ns.map V.bl := by
  induction ns with
  | nil => intro vs h; exact reps_nil.mp h
  | cons n ns ih =>
    intro vs h
    obtain ⟨v, r, rfl, h1, h2⟩ := reps_cons.mp h
    rw [rep_bl.mp h1, ih h2] <;> rfl
theorem reps_strs {ns : List Str} : ∀ {vs : List V}, Reps K F ρ (ns.map D.str) vs → vs = ns.map V.str := by
  induction ns with
  | nil => intro vs h; exact reps_nil.mp h
  | cons n ns ih =>
    intro vs h
    obtain ⟨v, r, rfl, h1, h2⟩ := reps_cons.mp h
    rw [rep_str.mp h1, ih h2] <;> rfl
end
def opSub : D → D → Hx → R D := int2 (fun _ _ => true) fun a b => .int (a - b)
def opMul : D → D → Hx → R D := int2 (fun a b => sm a && sm b) fun a b => .int (a * b)
def opMod : D → D → Hx → R D := int2 (fun _ b => decide (b ≠ 0)) fun a b => .int (a.fmod b)
def opDivP : D → D → Hx → R D := int2 (fun _ b => decide (0 < b) && sm b) fun a b => .int (a / b)
def opDivN : D → D → Hx → R D := int2 (fun _ b => decide (b ≠ 0) && decide (b.natAbs < 1073741824)) fun a b => .int (a.fdiv b)
def opPow : D → D → Hx → R D := int2 (fun a b => decide (0 ≤ b ∧ b ≤ 1000000 ∧ a.natAbs < 2 ^ 64)) fun a b => .int (a ^ b.toNat)
def opShl : D → D → Hx → R D := int2 (fun a b => decide (0 ≤ b ∧ b ≤ 1000000 ∧ a.natAbs < 2 ^ 64)) fun a b => .int (a * 2 ^ b.toNat)
def opShr : D → D → Hx → R D := int2 (fun _ b => decide (0 ≤ b)) fun a b => .int (a / 2 ^ b.toNat)
def opBand : D → D → Hx → R D := int2 (fun _ _ => true) fun a b => .int (Builtin.bitAnd a b)
def opCmp (p : Int → Int → Bool) : D → D → Hx → R D := int2 (fun _ _ => true) fun a b => .bl (p a b)
abbrev opLt := opCmp fun a b => decide (a < b)
abbrev opLe := opCmp fun a b => decide (a ≤ b)
abbrev opGt := opCmp fun a b => decide (b < a)
abbrev opGe := opCmp fun a b => decide (b ≤ a)
def opNeg : D → Hx → R D
  | .int a, h => .ok (.int (-a)) h
  | _, _ => .no
def opAdd : D → D → Hx → R D
  | .int a, .int b, h => .ok (.int (a + b)) h
  | .str a, .str b, h => if a.length + b.length ≤ 1000000 then .ok (.str (a ++ b)) h else .no
  | .tup a, .tup b, h => if a.length + b.length ≤ 1000000 then .ok (.tup (a ++ b)) h else .no
  | x, y, h => match lstOf h x, lstOf h y with
    | some a, some b => if a.length + b.length ≤ 1000000 then .ok (.lst (a ++ b)) h else .no
    | _, _ => .no
theorem mil {n : Nat} (h : n ≤ 1000000) : n ≤ sizeLine := Nat.le_trans h (by decide)
section
variable {X : Cx} {XW : L2.St → XK} {a b : Expr} {ra rb : En → Hx → R D} {pos : Pos}
theorem e_sub (ha : EE X XW a ra) (hb : EE X XW b rb) : EE X XW (.BinOp a .Sub b pos) (r2 opSub ra rb) := e_op op_sub (opS_int0 fun F ρ i j _ => rep_int.mpr rfl) ha hb
theorem e_mul (ha : EE X XW a ra) (hb : EE X XW b rb) : EE X XW (.BinOp a .Mult b pos) (r2 opMul ra rb) := e_op op_mulW (opS_int (fun i j h => by
  have h := Bool.and_eq_true_iff.mp h
  have h1 := of_decide_eq_true h.1
  have h2 := of_decide_eq_true h.2
  unfold CMulW
  omega) fun F ρ i j _ => rep_int.mpr rfl) ha hb
theorem e_mod (ha : EE X XW a ra) (hb : EE X XW b rb) : EE X XW (.BinOp a .Mod b pos) (r2 opMod ra rb) := e_op op_modN (opS_int (fun i j h => of_decide_eq_true h) fun F ρ i j _ => rep_int.mpr rfl) ha hb
theorem e_div (ha : EE X XW a ra) (hb : EE X XW b rb) : EE X XW (.BinOp a .FloorDiv b pos) (r2 opDivP ra rb) := e_op op_fdivW (opS_int (fun i j h => by
  have h := Bool.and_eq_true_iff.mp h
  have h1 := of_decide_eq_true h.1
  have h2 := of_decide_eq_true h.2
  exact ⟨h1, by omega⟩) fun F ρ i j _ => rep_int.mpr rfl) ha hb
theorem e_divN (ha : EE X XW a ra) (hb : EE X XW b rb) : EE X XW (.BinOp a .FloorDiv b pos) (r2 opDivN ra rb) := e_op op_fdivN (opS_int (fun i j h => by
  have h := Bool.and_eq_true_iff.mp h
  exact ⟨of_decide_eq_true h.1, of_decide_eq_true h.2⟩) fun F ρ i j _ => rep_int.mpr rfl) ha hb
theorem e_pow (ha : EE X XW a ra) (hb : EE X XW b rb) : EE X XW (.BinOp a .Pow b pos) (r2 opPow ra rb) := e_op op_pow (opS_int (fun i j h => of_decide_eq_true (p := 0 ≤ j ∧ j ≤ 1000000 ∧ i.natAbs < 2 ^ 64) h) fun F ρ i j _ => rep_int.mpr rfl) ha hb
theorem e_shl (ha : EE X XW a ra) (hb : EE X XW b rb) : EE X XW (.BinOp a .LShift b pos) (r2 opShl ra rb) := e_op op_shl (opS_int (fun i j h => of_decide_eq_true (p := 0 ≤ j ∧ j ≤ 1000000 ∧ i.natAbs < 2 ^ 64) h) fun F ρ i j _ => rep_int.mpr rfl) ha hb
theorem e_shr (ha : EE X XW a ra) (hb : EE X XW b rb) : EE X XW (.BinOp a .RShift b pos) (r2 opShr ra rb) := e_op op_shr (opS_int (fun i j h => of_decide_eq_true h) fun F ρ i j _ => rep_int.mpr rfl) ha hb
theorem e_band (ha : EE X XW a ra) (hb : EE X XW b rb) : EE X XW (.BinOp a .BitAnd b pos) (r2 opBand ra rb) := e_op op_and (opS_int0 fun F ρ i j _ => rep_int.mpr rfl) ha hb
theorem e_neg (ha : EE X XW a ra) : EE X XW (.UnaryOp .USub a pos) (r1 opNeg ra) := e_un un_neg (fun F ρ h H x v E Q w rx q => by
  cases x with
  | int i => exact ⟨i, rep_int.mp rx, q _ F ρ H .refl w (rep_int.mpr rfl)⟩
  | _ => exact q.elim) ha
def rAddU (K : PySem.W.Frag) : R2 := fun x y H Q => rI0 (fun i j => .int (i + j)) x y H Q ∨ ((∃ i j, x = .str i ∧ y = .str j ∧ i.length + j.length ≤ sizeLine ∧ Q (.str (i ++ j)) H) ∨ (rCatA K x y H Q ∨ rCat x y H Q))
theorem op_addU : OpR X (binaryOp .Add) (rAddU X.K) := OpR.or op_add (OpR.or op_add_str (OpR.or op_catA op_cat))
theorem opS_add {K : PySem.W.Frag} : OpS K (rAddU K) opAdd := by
  intro F ρ h H x y v u E Q w rx ry q
  have lists : (match lstOf h x, lstOf h y with
    | some a, some b => Fin (Rep K) K E F ρ h H (if a.length + b.length ≤ 1000000 then .ok (.lst (a ++ b)) h else .no) Q
    | _, _ => False) → rAddU K v u H Q := by
    intro q
    cases z1 : lstOf h x with
    | none => rw [z1] at q; exact q.elim
    | some a =>
      cases z2 : lstOf h y with
      | none => rw [z1, z2] at q; exact q.elim
      | some b =>
        rw [z1, z2] at q
        dsimp only at q
        by_cases z : a.length + b.length ≤ 1000000
        · rw [if_pos z] at q
          obtain ⟨p1, vs1, e1, h1, r1⟩ := w.lstOf rx z1
          obtain ⟨p2, vs2, e2, h2, r2⟩ := w.lstOf ry z2
          refine .inr (.inr (.inr ⟨p1, p2, vs1, vs2, e1, e2, h1, h2, by rw [← repsLen r1, ← repsLen r2]; exact mil z, fun p np => ?_⟩))
          obtain ⟨w2, x2⟩ := w.frozen np (.lst (vs1 ++ vs2))
          exact q _ _ _ _ x2 w2 (rep_lst.mpr ⟨p, _, rfl, upd_same, reps_app (x2.reps r1) (x2.reps r2)⟩)
        · rw [if_neg z] at q; exact q.elim
  have back : Fin (Rep K) K E F ρ h H (match lstOf h x, lstOf h y with
    | some a, some b => if a.length + b.length ≤ 1000000 then .ok (.lst (a ++ b)) h else .no
    | _, _ => .no) Q → rAddU K v u H Q := fun q => lists (by
      cases z1 : lstOf h x with
      | none => rw [z1] at q; exact q
      | some a =>
        cases z2 : lstOf h y with
        | none => rw [z1, z2] at q; exact q
        | some b => rw [z1, z2] at q; exact q)
  cases x with
  | int a =>
    cases y with
    | int b => exact .inl ⟨a, b, rep_int.mp rx, rep_int.mp ry, q _ F ρ H .refl w (rep_int.mpr rfl)⟩
    | _ => exact back q
  | str a =>
    cases y with
    | str b =>
      unfold opAdd at q
      dsimp only at q
      by_cases z : a.length + b.length ≤ 1000000
      · rw [if_pos z] at q
        exact .inr (.inl ⟨a, b, rep_str.mp rx, rep_str.mp ry, mil z, q _ F ρ H .refl w (rep_str.mpr rfl)⟩)
      · rw [if_neg z] at q; exact q.elim
    | _ => exact back q
  | tup a =>
    cases y with
    | tup b =>
      unfold opAdd at q
      dsimp only at q
      by_cases z : a.length + b.length ≤ 1000000
      · rw [if_pos z] at q
        obtain ⟨p1, vs1, e1, h1, r1⟩ := rep_tup.mp rx
        obtain ⟨p2, vs2, e2, h2, r2⟩ := rep_tup.mp ry
        have l1 := repsLen r1
        have l2 := repsLen r2
        refine .inr (.inr (.inl ⟨p1, p2, vs1, vs2, e1, e2, Or.inl (Or.inl (w.sub _ _ h1)), Or.inl (Or.inl (w.sub _ _ h2)), by rw [← l1, ← l2]; exact mil z, fun z1 => ?_, fun _ z2 => ?_, fun _ _ p np => ?_⟩))
        · refine q _ F ρ H .refl w (rep_tup.mpr ⟨p2, vs2, rfl, h2, ?_⟩)
          have : a = [] := by rw [z1] at l1; exact List.length_eq_zero_iff.mp l1
          rw [this]; exact r2
        · refine q _ F ρ H .refl w (rep_tup.mpr ⟨p1, vs1, rfl, h1, ?_⟩)
          have : b = [] := by rw [z2] at l2; exact List.length_eq_zero_iff.mp l2
          rw [this, List.append_nil]; exact r1
        · obtain ⟨w2, x2⟩ := w.frozen np (.tup (vs1 ++ vs2))
          exact q _ _ _ _ x2 w2 (rep_tup.mpr ⟨p, _, rfl, upd_same, reps_app (x2.reps r1) (x2.reps r2)⟩)
      · rw [if_neg z] at q; exact q.elim
    | _ => exact back q
  | _ => exact back q
theorem e_add (ha : EE X XW a ra) (hb : EE X XW b rb) : EE X XW (.BinOp a .Add b pos) (r2 opAdd ra rb) := e_op op_addU opS_add ha hb
/-- [..] * n -/
def fRep (ra rb : En → Hx → R D) : En → Hx → R (List D) := fun c h => (ra c h).bind fun x h1 => (rb c h1).bind fun y h2 => match lstOf h2 x, y with
  | some ds, .int k => if -1000000 ≤ k ∧ k ≤ 1000000 ∧ ds.length * k.toNat ≤ 1000000 then .ok (List.replicate k.toNat ds).flatten h2 else .no
  | _, _ => .no
theorem tF_of {K : PySem.W.Frag} {XW : L2.St → XK} {r : En → Hx → R (List D)} {F : Hp} {ρ : List Addr} {c : En} {h : Hx} {H : Hp} {σ : L2.St} {Q : VK} (q : FinF K (XW σ) F ρ h H (r c h) Q) :
    Fin (Reps K) K (XW σ) F ρ h H (r c h) (fun vs H' => ∀ p, H' p = none → Q (.ref p) (upd H' p (.lst vs))) := by
  cases z : r c h with
  | no => rw [z] at q; exact q
  | ex => rw [z] at q; exact q
  | ok ds h1 => rw [z] at q; exact fun vs F' ρ' H' x w r' p np => q vs p F' ρ' H' x w r' np
theorem f_rep (ha : EE X XW a ra) (hb : EE X XW b rb) : EF X XW (.BinOp a .Mult b pos) (fRep ra rb) :=
  iE (pe_op op_rep ha hb) fun σ H Q ⟨F, ρ, c, h, w, e, q⟩ => tG_bind w e (tF_of q) fun x h1 v F1 ρ1 H1 x1 w1 r1 e1 q1 => tG_bind w1 e1 q1 fun y h2 u F2 ρ2 H2 x2 w2 r2 e2 q2 => by
    cases z1 : lstOf h2 x with
    | none => rw [z1] at q2; exact q2.elim
    | some ds =>
      rw [z1] at q2
      cases y with
      | int k =>
        dsimp only at q2
        by_cases z : -1000000 ≤ k ∧ k ≤ 1000000 ∧ ds.length * k.toNat ≤ 1000000
        · rw [if_pos z] at q2
          obtain ⟨p1, vs1, e1, hh1, rr1⟩ := w2.lstOf (x2.rep r1) z1
          have z0 := z.1
          have z1 := z.2.1
          exact ⟨p1, k, vs1, e1, rep_int.mp r2, hh1, by omega, by omega, by rw [← repsLen rr1]; exact mil z.2.2, fun p np => q2 _ F2 ρ2 H2 .refl w2 (reps_rep rr1 _) p np⟩
        · rw [if_neg z] at q2; exact q2.elim
      | _ => exact q2.elim
end
end PV
namespace PV
open PySem PySem.Spec PyProof.Rows L2

/-! ### data for == -/
mutual
def toP : D → Option PyData
  | .non => some .none
  | .bl b => some (.bool b)
  | .int i => some (.int i)
  | .str x => some (.str x)
  | .tup ds => (toPs ds).map .tuple
  | .lst ds => (toPs ds).map .list
  | _ => none
def toPs : List D → Option (List PyData)
  | [] => some []
  | d :: ds => (toP d).bind fun p => (toPs ds).map fun ps => p :: ps
end
def toPh (h : Hx) (d : D) : Option PyData := match lstOf h d with
  | some ds => (toPs ds).map .list
  | none => toP d
section
variable {K : PySem.W.Frag} {F : Hp} {ρ : List Addr} {h : Hx} {H : Hp}
mutual
theorem dp_of (s : Sub F H) : ∀ {d : D} {v : V} {p : PyData}, Rep K F ρ d v → toP d = some p → Dp K H v p
  | .non, _, _, r, e => by unfold toP at e; cases e; rw [rep_non.mp r]; exact .non
  | .bl b, _, _, r, e => by unfold toP at e; cases e; rw [rep_bl.mp r]; exact .bl b
  | .int b, _, _, r, e => by unfold toP at e; cases e; rw [rep_int.mp r]; exact .int b
  | .str b, _, _, r, e => by unfold toP at e; cases e; rw [rep_str.mp r]; exact .str b
  | .tup ds, _, _, r, e => by
    unfold toP at e
    obtain ⟨a, vs, rfl, h1, h2⟩ := rep_tup.mp r
    cases z : toPs ds with
    | none => rw [z] at e; cases e
    | some ps => rw [z] at e; cases e; exact .tup (.inl (.inl (s _ _ h1))) (dps_of s h2 z)
  | .lst ds, _, _, r, e => by
    unfold toP at e
    obtain ⟨a, vs, rfl, h1, h2⟩ := rep_lst.mp r
    cases z : toPs ds with
    | none => rw [z] at e; cases e
    | some ps => rw [z] at e; cases e; exact .lst (.inl (.inl (s _ _ h1))) (dps_of s h2 z)
  | .rot _, _, _, r, e => by unfold toP at e; cases e
  | .ty _, _, _, r, e => by unfold toP at e; cases e
  | .ob _, _, _, r, e => by unfold toP at e; cases e
  | .rol _, _, _, r, e => by unfold toP at e; cases e
  | .ref _, _, _, r, e => by unfold toP at e; cases e
theorem dps_of (s : Sub F H) : ∀ {ds : List D} {vs : List V} {ps : List PyData}, Reps K F ρ ds vs → toPs ds = some ps → DpAll K H vs ps
  | [], _, _, r, e => by unfold toPs at e; cases e; rw [reps_nil.mp r]; exact .nil
  | d :: ds, _, _, r, e => by
    unfold toPs at e
    obtain ⟨v, vs, rfl, h1, h2⟩ := reps_cons.mp r
    cases z : toP d with
    | none => rw [z] at e; cases e
    | some p =>
      cases z2 : toPs ds with
      | none => rw [z, z2] at e; cases e
      | some ps => rw [z, z2] at e; cases e; exact .cons (dp_of s h1 z) (dps_of s h2 z2)
end
theorem dph_of (w : Wd K F ρ h H) {d : D} {v : V} {p : PyData} (r : Rep K F ρ d v) (e : toPh h d = some p) : Dp K H v p := by
  unfold toPh at e
  cases z : lstOf h d with
  | none => rw [z] at e; exact dp_of w.sub r e
  | some ds =>
    rw [z] at e
    dsimp only at e
    obtain ⟨a, vs, rfl, h1, h2⟩ := w.lstOf r z
    cases z2 : toPs ds with
    | none => rw [z2] at e; cases e
    | some ps => rw [z2] at e; cases e; exact .lst (.inl (.inl h1)) (dps_of w.sub h2 z2)
end
def opEq : D → D → Hx → R D := fun a b h => match toPh h a, toPh h b with
  | some p, some q => if SeqAt.shaped p = true ∧ SeqAt.shaped q = true then .ok (.bl (PyData.eqv p q)) h else .no
  | _, _ => .no
def opNe : D → D → Hx → R D := fun a b h => match toPh h a, toPh h b with
  | some p, some q => if SeqAt.shaped p = true ∧ SeqAt.shaped q = true then .ok (.bl (!PyData.eqv p q)) h else .no
  | _, _ => .no
def isNon : D → Bool
  | .non => true
  | _ => false
def opIsN : D → D → Hx → R D := fun a b h => match b with
  | .non => .ok (.bl (isNon a)) h
  | _ => .no
def opNotN : D → D → Hx → R D := fun a b h => match b with
  | .non => .ok (.bl (!isNon a)) h
  | _ => .no
/-- flat values -/
def flV : D → Option V
  | .non => some .non
  | .bl b => some (.bl b)
  | .int i => some (.int i)
  | .str x => some (.str x)
  | _ => none
def flVs : List D → Option (List V)
  | [] => some []
  | d :: ds => (flV d).bind fun v => (flVs ds).map fun vs => v :: vs
def opIn (neg : Bool) : D → D → Hx → R D := fun x y h => match flV x, (seqOf h y).bind flVs with
  | some v, some vs => .ok (.bl (if neg then !inV v vs else inV v vs)) h
  | _, _ => .no
section
variable {K : PySem.W.Frag} {F : Hp} {ρ : List Addr} {h : Hx} {H : Hp}
theorem flV_of {d : D} {v u : V} (r : Rep K F ρ d v) (e : flV d = some u) : v = u ∧ flatV u = true := by
  cases d with
  | non => cases e; exact ⟨rep_non.mp r, rfl⟩
  | bl b => cases e; exact ⟨rep_bl.mp r, rfl⟩
  | int b => cases e; exact ⟨rep_int.mp r, rfl⟩
  | str b => cases e; exact ⟨rep_str.mp r, rfl⟩
  | _ => cases e
theorem flVs_of : ∀ {ds : List D} {vs us : List V}, Reps K F ρ ds vs → flVs ds = some us → vs = us ∧ us.all flatV = true
  | [], _, _, r, e => by cases e; exact ⟨reps_nil.mp r, rfl⟩
  | d :: ds, _, _, r, e => by
    unfold flVs at e
    obtain ⟨v, vs, rfl, h1, h2⟩ := reps_cons.mp r
    cases z : flV d with
    | none => rw [z] at e; cases e
    | some p =>
      cases z2 : flVs ds with
      | none => rw [z, z2] at e; cases e
      | some ps =>
        rw [z, z2] at e; cases e
        obtain ⟨e1, e2⟩ := flV_of h1 z
        obtain ⟨e3, e4⟩ := flVs_of h2 z2
        exact ⟨by rw [e1, e3], by rw [List.all_cons, e2, e4] <;> rfl⟩
theorem Wd.seqOf (w : Wd K F ρ h H) {d : D} {v : V} {ds : List D} (r : Rep K F ρ d v) (e : seqOf h d = some ds) : ∃ a vs, v = .ref a ∧ (SqL K H a vs ∨ SqT K H a vs) ∧ Reps K F ρ ds vs := by
  cases d with
  | tup xs =>
    obtain ⟨a, vs, h1, h2, h3⟩ := w.seqT r (show PV.seqT _ = some ds from e)
    exact ⟨a, vs, h1, .inr h2, h3⟩
  | rot xs =>
    obtain ⟨a, vs, h1, h2, h3⟩ := w.seqT r (show PV.seqT _ = some ds from e)
    exact ⟨a, vs, h1, .inr h2, h3⟩
  | _ =>
    obtain ⟨a, vs, h1, h2, h3⟩ := w.seqL r (show PV.seqL h _ = some ds from e)
    exact ⟨a, vs, h1, .inl h2, h3⟩
theorem opS_eq : OpS K (rEqD K) opEq := fun F ρ h H x y v u E Q w rx ry q => by
  unfold opEq at q
  cases z1 : toPh h x with
  | none => rw [z1] at q; exact q.elim
  | some p =>
    cases z2 : toPh h y with
    | none => rw [z1, z2] at q; exact q.elim
    | some p' =>
      rw [z1, z2] at q
      dsimp only at q
      by_cases z : SeqAt.shaped p = true ∧ SeqAt.shaped p' = true
      · rw [if_pos z] at q
        exact ⟨p, p', dph_of w rx z1, dph_of w ry z2, z.1, z.2, q _ F ρ H .refl w (rep_bl.mpr rfl)⟩
      · rw [if_neg z] at q; exact q.elim
theorem opS_ne : OpS K (rNeD K) opNe := fun F ρ h H x y v u E Q w rx ry q => by
  unfold opNe at q
  cases z1 : toPh h x with
  | none => rw [z1] at q; exact q.elim
  | some p =>
    cases z2 : toPh h y with
    | none => rw [z1, z2] at q; exact q.elim
    | some p' =>
      rw [z1, z2] at q
      dsimp only at q
      by_cases z : SeqAt.shaped p = true ∧ SeqAt.shaped p' = true
      · rw [if_pos z] at q
        exact ⟨p, p', dph_of w rx z1, dph_of w ry z2, z.1, z.2, q _ F ρ H .refl w (rep_bl.mpr rfl)⟩
      · rw [if_neg z] at q; exact q.elim
theorem opS_in (neg : Bool) : OpS K (rIn K neg) (opIn neg) := fun F ρ h H x y v u E Q w rx ry q => by
  unfold opIn at q
  cases z1 : flV x with
  | none => rw [z1] at q; exact q.elim
  | some p =>
    cases z2 : PV.seqOf h y with
    | none => rw [z1, z2] at q; exact q.elim
    | some ds =>
      cases z3 : flVs ds with
      | none => rw [z1, z2] at q; dsimp only [Option.bind_some] at q; rw [z3] at q; exact q.elim
      | some us =>
        rw [z1, z2] at q
        dsimp only [Option.bind_some] at q
        rw [z3] at q
        obtain ⟨e1, e2⟩ := flV_of rx z1
        obtain ⟨a, vs, e3, h3, r3⟩ := w.seqOf ry z2
        obtain ⟨e4, e5⟩ := flVs_of r3 z3
        subst e4 e1
        exact ⟨a, vs, e3, h3, e2, e5, q _ F ρ H .refl w (rep_bl.mpr rfl)⟩
theorem rep_isN {d : D} {v : V} (r : Rep K F ρ d v) : decide (v = V.non) = isNon d := by
  cases d with
  | non => rw [rep_non.mp r]; rfl
  | bl => rw [rep_bl.mp r]; rfl
  | int => rw [rep_int.mp r]; rfl
  | str => rw [rep_str.mp r]; rfl
  | ty => rw [rep_ty.mp r]; rfl
  | ob => rw [rep_ob.mp r]; rfl
  | tup => obtain ⟨a, vs, rfl, _⟩ := rep_tup.mp r; rfl
  | lst => obtain ⟨a, vs, rfl, _⟩ := rep_lst.mp r; rfl
  | rol => obtain ⟨a, vs, rfl, _⟩ := rep_rol.mp r; rfl
  | rot => obtain ⟨a, vs, rfl, _⟩ := rep_rot.mp r; rfl
  | ref => obtain ⟨a, rfl, _⟩ := rep_ref.mp r; rfl
end
/-! ### tests -/
def rB (r : En → Hx → R D) : En → Hx → R Bool := fun c h => (r c h).bind fun d h' => match d with
  | .bl b => .ok b h'
  | _ => .no
theorem tB_red {K : PySem.W.Frag} {XW : L2.St → XK} {r : En → Hx → R D} : ∀ σ H Q, tG relB K XW (rB r) σ H Q → tG (Rep K) K XW r σ H (fun x H' => ∃ k, x = .bl k ∧ Q k H') := fun σ H Q ⟨F, ρ, c, h, w, e, q⟩ =>
  tG_bind w e q fun d h1 v F1 ρ1 H1 x1 w1 r1 e1 q1 => by
    cases d with
    | bl b => exact ⟨b, rep_bl.mp r1, q1 b F1 ρ1 H1 .refl w1 rfl⟩
    | _ => exact q1.elim
section
variable {X : Cx} {XW : L2.St → XK} {a b : Expr} {ra rb : En → Hx → R D} {pos : Pos}
theorem e_cmp {op : CmpOp} {r : R2} {g : D → D → Hx → R D} (ho : OpR X (compareOp op) r) (hs : OpS X.K r g) (ha : EE X XW a ra) (hb : EE X XW b rb) (hm : behindInMarks op b = false) : EE X XW (.Compare a [op] [b] pos) (r2 g ra rb) := iE (pe_cmpR ho ha hb hm) (t2 hs)
theorem t_cmp {op : CmpOp} {r : R2} {g : D → D → Hx → R D} (ho : OpR X (compareOp op) r) (hs : OpS X.K r g) (ha : EE X XW a ra) (hb : EE X XW b rb) (hm : behindInMarks op b = false) : ET X XW (.Compare a [op] [b] pos) (rB (r2 g ra rb)) :=
  iT (pt_cmpR ho ha hb hm) fun σ H Q q => t2 hs σ H _ (tB_red σ H Q q)
theorem t_val {e : Expr} {r : En → Hx → R D} (h : EE X XW e r) (he : ∀ whole, isTrue e X.env whole = (do let v ← whole; standAt e.pos; holding [v] (truthy v)) := by intro _; rfl) : ET X XW e (rB r) := iT (pt_val h he) tB_red
theorem cmpS {K : PySem.W.Frag} {p : Int → Int → Bool} : OpS K (rI0 fun i j => .bl (p i j)) (opCmp p) := opS_int0 fun F ρ i j _ => rep_bl.mpr rfl
theorem opI_of {op : CmpOp} {p : Int → Int → Bool} (h : ∀ (i j : Int) (t u : Tok) (E : Value → Shared → Prop) (s : Shared) (Q : Value → Shared → Prop), Q (.bool (p i j)) s → wpAny (model X.prog X.w) X.A (compareOp op (.int i t) (.int j u)) Q E s) : OpR X (compareOp op) (rI0 fun i j => .bl (p i j)) := by
  intro pins s σ H x y v u Q I rx ry q
  obtain ⟨i, j, rfl, rfl, q⟩ := q
  obtain ⟨t, rfl⟩ := rx
  obtain ⟨t', rfl⟩ := ry
  exact h i j t t' _ _ _ ⟨.bl (p i j), H, I, rfl, q⟩
theorem c_lt : OpR X (compareOp .Lt) (rI0 fun i j => .bl (decide (i < j))) := opI_of fun _ _ _ _ _ _ _ q => lt_int q
theorem c_le : OpR X (compareOp .LtE) (rI0 fun i j => .bl (decide (i ≤ j))) := opI_of fun _ _ _ _ _ _ _ q => le_int q
theorem c_gt : OpR X (compareOp .Gt) (rI0 fun i j => .bl (decide (j < i))) := opI_of fun _ _ _ _ _ _ _ q => gt_int q
theorem c_ge : OpR X (compareOp .GtE) (rI0 fun i j => .bl (decide (j ≤ i))) := opI_of fun _ _ _ _ _ _ _ q => ge_int q
theorem isnS {K : PySem.W.Frag} : OpS K (fun x y H Q => y = .non ∧ Q (.bl (decide (x = .non))) H) opIsN := fun F ρ h H x y v u E Q w rx ry q => by
  cases y with
  | non => exact ⟨rep_non.mp ry, q _ F ρ H .refl w (rep_bl.mpr (by rw [rep_isN rx]))⟩
  | _ => exact q.elim
theorem notnS {K : PySem.W.Frag} : OpS K (fun x y H Q => y = .non ∧ Q (.bl (!decide (x = .non))) H) opNotN := fun F ρ h H x y v u E Q w rx ry q => by
  cases y with
  | non => exact ⟨rep_non.mp ry, q _ F ρ H .refl w (rep_bl.mpr (by rw [rep_isN rx]))⟩
  | _ => exact q.elim
end

/-! ### chains -/
/-- a op1 b op2 c -/
def rCh (g g' : D → D → Hx → R D) (ra rb rc : En → Hx → R D) : En → Hx → R D := fun c h => (ra c h).bind fun x h1 => (rb c h1).bind fun y h2 => (g x y h2).bind fun z h3 => match z with
  | .bl true => (rc c h3).bind fun u h4 => g' y u h4
  | .bl false => .ok (.bl false) h3
  | _ => .no
def rCh3 (g g' g'' : D → D → Hx → R D) (ra rb rc rd : En → Hx → R D) : En → Hx → R D := fun c h => (ra c h).bind fun x h1 => (rb c h1).bind fun y h2 => (g x y h2).bind fun z h3 => match z with
  | .bl true => (rc c h3).bind fun u h4 => (g' y u h4).bind fun z' h5 => match z' with
    | .bl true => (rd c h5).bind fun t h6 => g'' u t h6
    | .bl false => .ok (.bl false) h5
    | _ => .no
  | .bl false => .ok (.bl false) h3
  | _ => .no
/-- an operation's reading leaves what follows; its word by a bind -/
theorem opS_bind {K : PySem.W.Frag} {XW : L2.St → XK} {γ δ : Type} {rel2 : Hp → List Addr → γ → δ → Prop} {r : R2} {g : D → D → Hx → R D} (hs : OpS K r g) {F : Hp} {ρ : List Addr} {h : Hx} {H : Hp} {x y : D} {v u : V} {c : En} {σ : L2.St} {f : D → Hx → R γ} {Q : δ → Hp → Prop} {Q' : VK}
    (w : Wd K F ρ h H) (e : EnvR K F ρ c σ) (rx : Rep K F ρ x v) (ry : Rep K F ρ y u) (q : Fin rel2 K (XW σ) F ρ h H ((g x y h).bind f) Q)
    (k : ∀ d h1 v F1 ρ1 H1, Ext F ρ h H F1 ρ1 h1 H1 → Wd K F1 ρ1 h1 H1 → Rep K F1 ρ1 d v → EnvR K F1 ρ1 c σ → Fin rel2 K (XW σ) F1 ρ1 h1 H1 (f d h1) Q → Q' v H1) : r v u H Q' := by
  refine hs F ρ h H x y v u (XW σ) Q' w rx ry ?_
  cases z : g x y h with
  | no => rw [z] at q; exact q
  | ex => rw [z] at q; exact q
  | ok d h1 =>
    rw [z] at q
    exact fun v F1 ρ1 H1 x1 w1 r1 => k d h1 v F1 ρ1 H1 x1 w1 r1 (e.ext x1) (q.ext x1)
section
variable {X : Cx} {XW : L2.St → XK} {a b c d : Expr} {ra rb rc rd : En → Hx → R D} {pos : Pos} {op op' op'' : CmpOp} {r r' r'' : R2} {g g' g'' : D → D → Hx → R D}
theorem ch_red {K : PySem.W.Frag} (hs : OpS K r g) (hs' : OpS K r' g') : ∀ σ H Q, tG (Rep K) K XW (rCh g g' ra rb rc) σ H Q → tChain r r' (tG (Rep K) K XW ra) (tG (Rep K) K XW rb) (tG (Rep K) K XW rc) σ H Q := fun σ H Q ⟨F, ρ, c, h, w, e, q⟩ =>
  tG_bind w e q fun x h1 v F1 ρ1 H1 x1 w1 r1 e1 q1 => tG_bind w1 e1 q1 fun y h2 u F2 ρ2 H2 x2 w2 r2 e2 q2 => opS_bind hs w2 e2 (x2.rep r1) r2 q2 fun z h3 zv F3 ρ3 H3 x3 w3 r3 e3 q3 => by
    cases z with
    | bl k =>
      refine ⟨k, rep_bl.mp r3, ?_⟩
      cases k with
      | true => exact iteT (tG_bind w3 e3 q3 fun t h4 tv F4 ρ4 H4 x4 w4 r4 e4 q4 => hs' F4 ρ4 h4 H4 y t u tv (XW σ) Q w4 (x4.rep (x3.rep r2)) r4 q4)
      | false => exact iteF (q3 (.bl false) F3 ρ3 H3 .refl w3 (rep_bl.mpr rfl))
    | _ => exact q3.elim
theorem e_ch (ho : OpR X (compareOp op) r) (hs : OpS X.K r g) (ho' : OpR X (compareOp op') r') (hs' : OpS X.K r' g') (ha : EE X XW a ra) (hb : EE X XW b rb) (hc : EE X XW c rc)
    (hm : lastMarks [op, op'] [b, c] = false := by with_unfolding_all rfl) : EE X XW (.Compare a [op, op'] [b, c] pos) (rCh g g' ra rb rc) := iE (pe_chain ho ho' ha hb hc hm) (ch_red hs hs')
theorem t_ch (ho : OpR X (compareOp op) r) (hs : OpS X.K r g) (ho' : OpR X (compareOp op') r') (hs' : OpS X.K r' g') (ha : EE X XW a ra) (hb : EE X XW b rb) (hc : EE X XW c rc)
    (hm : lastMarks [op, op'] [b, c] = false := by with_unfolding_all rfl) : ET X XW (.Compare a [op, op'] [b, c] pos) (rB (rCh g g' ra rb rc)) := iT (pt_chain ho ho' ha hb hc hm) fun σ H Q q => ch_red hs hs' σ H _ (tB_red σ H Q q)
/-- three comparisons, as a test -/
def tCh3T (r r' r'' : R2) (ta tb tc td : TE) : TT := fun σ H Q => ta σ H fun v H1 => tb σ H1 fun u H2 => r v u H2 fun z H3 => ∃ k, z = .bl k ∧
  if k = true then tc σ H3 (fun t H4 => r' u t H4 fun z' H5 => ∃ k', z' = .bl k' ∧ if k' = true then td σ H5 (fun t' H6 => r'' t t' H6 fun x H7 => ∃ k2, x = .bl k2 ∧ Q k2 H7) else Q false H5) else Q false H3
theorem pt_chain3 {ta tb tc td : TE} (ho : OpR X (compareOp op) r) (ho' : OpR X (compareOp op') r') (ho'' : OpR X (compareOp op'') r'') (ha : PE X a ta) (hb : PE X b tb) (hc : PE X c tc) (hd : PE X d td)
    (hm : lastMarks [op, op', op''] [b, c, d] = false) : PT X (.Compare a [op, op', op''] [b, c, d] pos) (tCh3T r r' r'' ta tb tc td) := by
  refine ⟨fun pins s σ H Q I hq => ?_⟩
  refine isTrue_chain (thn (ha.run pins s σ H _ I hq) fun v0 s1 ⟨v, H1, I1, rv, hk⟩ => test_link (thn (hb.run pins s1 σ H1 _ I1 hk) fun u0 s2 ⟨u, H2, I2, ru, hk2⟩ => thn (ho pins s2 σ H2 v u v0 u0 _ I2 rv ru hk2) fun z0 s3 ⟨z, H3, I3, rz, k, ek, hk3⟩ => ?_)) hm
  subst ek
  cases rz
  refine wpAny_truthy_bool ?_
  cases k with
  | false => exact ite_ff ⟨H3, I3, hk3⟩
  | true =>
    refine ite_tt (test_link (thn (hc.run pins s3 σ H3 _ I3 hk3) fun t0 s4 ⟨t, H4, I4, rt, hk4⟩ => thn (ho' pins s4 σ H4 u t u0 t0 _ I4 ru rt hk4) fun z0' s5 ⟨z', H5, I5, rz', k', ek', hk5⟩ => ?_))
    subst ek'
    cases rz'
    refine wpAny_truthy_bool ?_
    cases k' with
    | false => exact ite_ff ⟨H5, I5, hk5⟩
    | true =>
      refine ite_tt (test_last (thn (hd.run pins s5 σ H5 _ I5 hk5) fun t1 s6 ⟨t', H6, I6, rt', hk6⟩ => thn (ho'' pins s6 σ H6 t t' t0 t1 _ I6 rt rt' hk6) fun z1 s7 ⟨z2, H7, I7, rz2, k2, e2, q7⟩ => ?_))
      subst e2
      cases rz2
      exact wpAny_truthy_bool ⟨H7, I7, q7⟩
theorem ch3_red {K : PySem.W.Frag} (hs : OpS K r g) (hs' : OpS K r' g') (hs'' : OpS K r'' g'') : ∀ σ H Q, tG relB K XW (rB (rCh3 g g' g'' ra rb rc rd)) σ H Q → tCh3T r r' r'' (tG (Rep K) K XW ra) (tG (Rep K) K XW rb) (tG (Rep K) K XW rc) (tG (Rep K) K XW rd) σ H Q := fun σ H Q q => by
  obtain ⟨F, ρ, cc, hh, w, e, q⟩ := tB_red σ H Q q
  exact tG_bind w e q fun x h1 v F1 ρ1 H1 x1 w1 r1 e1 q1 => tG_bind w1 e1 q1 fun y h2 u F2 ρ2 H2 x2 w2 r2 e2 q2 => opS_bind hs w2 e2 (x2.rep r1) r2 q2 fun z h3 zv F3 ρ3 H3 x3 w3 r3 e3 q3 => by
    cases z with
    | bl k =>
      refine ⟨k, rep_bl.mp r3, ?_⟩
      cases k with
      | false =>
        obtain ⟨k2, ek, qk⟩ := q3 (.bl false) F3 ρ3 H3 .refl w3 (rep_bl.mpr rfl)
        cases ek
        exact iteF qk
      | true =>
        refine iteT (tG_bind w3 e3 q3 fun t h4 tv F4 ρ4 H4 x4 w4 r4 e4 q4 => opS_bind hs' w4 e4 (x4.rep (x3.rep r2)) r4 q4 fun z' h5 zv' F5 ρ5 H5 x5 w5 r5 e5 q5 => ?_)
        cases z' with
        | bl k' =>
          refine ⟨k', rep_bl.mp r5, ?_⟩
          cases k' with
          | false =>
            obtain ⟨k2, ek, qk⟩ := q5 (.bl false) F5 ρ5 H5 .refl w5 (rep_bl.mpr rfl)
            cases ek
            exact iteF qk
          | true => exact iteT (tG_bind w5 e5 q5 fun t' h6 tv' F6 ρ6 H6 x6 w6 r6 e6 q6 => hs'' F6 ρ6 h6 H6 t t' tv tv' (XW σ) _ w6 (x6.rep (x5.rep r4)) r6 q6)
        | _ => exact q5.elim
    | _ => exact q3.elim
theorem t_ch3 (ho : OpR X (compareOp op) r) (hs : OpS X.K r g) (ho' : OpR X (compareOp op') r') (hs' : OpS X.K r' g') (ho'' : OpR X (compareOp op'') r'') (hs'' : OpS X.K r'' g'') (ha : EE X XW a ra) (hb : EE X XW b rb) (hc : EE X XW c rc) (hd : EE X XW d rd)
    (hm : lastMarks [op, op', op''] [b, c, d] = false := by with_unfolding_all rfl) : ET X XW (.Compare a [op, op', op''] [b, c, d] pos) (rB (rCh3 g g' g'' ra rb rc rd)) := iT (pt_chain3 ho ho' ho'' ha hb hc hd hm) (ch3_red hs hs' hs'')
end

/-! ### and, or, not, if else -/
def tAndD (r s : En → Hx → R Bool) : En → Hx → R Bool := fun c h => (r c h).bind fun k h1 => if k = true then s c h1 else .ok false h1
def tOrD (r s : En → Hx → R Bool) : En → Hx → R Bool := fun c h => (r c h).bind fun k h1 => if k = true then .ok true h1 else s c h1
def tNotD (r : En → Hx → R Bool) : En → Hx → R Bool := fun c h => (r c h).bind fun k h1 => .ok (!k) h1
def rAndV (r s : En → Hx → R D) : En → Hx → R D := fun c h => (r c h).bind fun k h1 => match k with
  | .bl true => s c h1
  | .bl false => .ok (.bl false) h1
  | _ => .no
def rOrV (r s : En → Hx → R D) : En → Hx → R D := fun c h => (r c h).bind fun k h1 => match k with
  | .bl true => .ok (.bl true) h1
  | .bl false => s c h1
  | _ => .no
def rNotV (r : En → Hx → R D) : En → Hx → R D := fun c h => (r c h).bind fun k h1 => match k with
  | .bl b => .ok (.bl (!b)) h1
  | _ => .no
def rIte (t : En → Hx → R Bool) (r s : En → Hx → R D) : En → Hx → R D := fun c h => (t c h).bind fun k h1 => if k = true then r c h1 else s c h1
section
variable {X : Cx} {XW : L2.St → XK} {a b : Expr} {rest : List Expr} {ra rb : En → Hx → R D} {ta tb tc : En → Hx → R Bool} {pos : Pos}
theorem w_and1 (h : ET X XW a ta) : EW X XW (.BoolOp .And [a] pos) ta := pw_and1 h
theorem w_or1 (h : ET X XW a ta) : EW X XW (.BoolOp .Or [a] pos) ta := pw_or1 h
theorem w_and (h : ET X XW a ta) (k : EW X XW (.BoolOp .And (b :: rest) pos) tb) : EW X XW (.BoolOp .And (a :: b :: rest) pos) (tAndD ta tb) :=
  iW (pw_and h k) fun σ H Q ⟨F, ρ, c, hh, w, e, q⟩ => tG_bind w e q fun d h1 v F1 ρ1 H1 x1 w1 r1 e1 q1 => by
    subst r1
    cases d with
    | true => exact iteT ⟨F1, ρ1, c, h1, w1, e1, q1⟩
    | false => exact iteF (q1 false F1 ρ1 H1 .refl w1 rfl)
theorem w_or (h : ET X XW a ta) (k : EW X XW (.BoolOp .Or (b :: rest) pos) tb) : EW X XW (.BoolOp .Or (a :: b :: rest) pos) (tOrD ta tb) :=
  iW (pw_or h k) fun σ H Q ⟨F, ρ, c, hh, w, e, q⟩ => tG_bind w e q fun d h1 v F1 ρ1 H1 x1 w1 r1 e1 q1 => by
    subst r1
    cases d with
    | true => exact iteT (q1 true F1 ρ1 H1 .refl w1 rfl)
    | false => exact iteF ⟨F1, ρ1, c, h1, w1, e1, q1⟩
theorem t_w {e : Expr} (h : EW X XW e ta) : ET X XW e ta := PW.pt h
theorem t_not (h : ET X XW a ta) : ET X XW (.UnaryOp .Not a pos) (tNotD ta) :=
  iT (pt_not h) fun σ H Q ⟨F, ρ, c, hh, w, e, q⟩ => tG_bind w e q fun d h1 v F1 ρ1 H1 x1 w1 r1 e1 q1 => by
    subst r1
    exact q1 (!d) F1 ρ1 H1 .refl w1 rfl
theorem e_one {op : BoolOp} (h : EE X XW a ra) : EE X XW (.BoolOp op [a] pos) ra := pe_one h
theorem e_and (h : EE X XW a ra) (k : EE X XW (.BoolOp .And (b :: rest) pos) rb) : EE X XW (.BoolOp .And (a :: b :: rest) pos) (rAndV ra rb) :=
  iE (pe_and h k) fun σ H Q ⟨F, ρ, c, hh, w, e, q⟩ => tG_bind w e q fun d h1 v F1 ρ1 H1 x1 w1 r1 e1 q1 => by
    cases d with
    | bl d =>
      refine ⟨d, rep_bl.mp r1, ?_⟩
      cases d with
      | true => exact iteT ⟨F1, ρ1, c, h1, w1, e1, q1⟩
      | false => exact iteF (q1 (.bl false) F1 ρ1 H1 .refl w1 (rep_bl.mpr rfl))
    | _ => exact q1.elim
theorem e_or (h : EE X XW a ra) (k : EE X XW (.BoolOp .Or (b :: rest) pos) rb) : EE X XW (.BoolOp .Or (a :: b :: rest) pos) (rOrV ra rb) :=
  iE (pe_or h k) fun σ H Q ⟨F, ρ, c, hh, w, e, q⟩ => tG_bind w e q fun d h1 v F1 ρ1 H1 x1 w1 r1 e1 q1 => by
    cases d with
    | bl d =>
      refine ⟨d, rep_bl.mp r1, ?_⟩
      cases d with
      | true => exact iteT (q1 (.bl true) F1 ρ1 H1 .refl w1 (rep_bl.mpr rfl))
      | false => exact iteF ⟨F1, ρ1, c, h1, w1, e1, q1⟩
    | _ => exact q1.elim
theorem e_not (h : EE X XW a ra) : EE X XW (.UnaryOp .Not a pos) (rNotV ra) :=
  iE (pe_not h) fun σ H Q ⟨F, ρ, c, hh, w, e, q⟩ => tG_bind w e q fun d h1 v F1 ρ1 H1 x1 w1 r1 e1 q1 => by
    cases d with
    | bl d => exact ⟨d, rep_bl.mp r1, q1 (.bl (!d)) F1 ρ1 H1 .refl w1 (rep_bl.mpr rfl)⟩
    | _ => exact q1.elim
theorem e_ite {t : Expr} (ht : ET X XW t tc) (ha : EE X XW a ra) (hb : EE X XW b rb) : EE X XW (.IfExp t a b pos) (rIte tc ra rb) :=
  iE (pe_ifExp ht ha hb) fun σ H Q ⟨F, ρ, c, hh, w, e, q⟩ => tG_bind w e q fun d h1 v F1 ρ1 H1 x1 w1 r1 e1 q1 => by
    subst r1
    cases d with
    | true => exact iteT ⟨F1, ρ1, c, h1, w1, e1, q1⟩
    | false => exact iteF ⟨F1, ρ1, c, h1, w1, e1, q1⟩
end

/-! ### subscripts, slices -/
def opIx : D → D → Hx → R D := fun x y h => match y with
  | .int i => match x with
    | .str z => if z.length ≤ 1000000 then (match atI z.cps.toList i with
      | some c => .ok (.str ⟨#[c]⟩) h
      | none => .no) else .no
    | d => match (seqOf h d).bind fun ds => atI ds i with
      | some d => .ok d h
      | none => .no
  | _ => .no
theorem atI_reps {K : PySem.W.Frag} {F : Hp} {ρ : List Addr} {ds : List D} {vs : List V} {i : Int} {d : D} (r : Reps K F ρ ds vs) (e : atI ds i = some d) : ∃ v, atI vs i = some v ∧ Rep K F ρ d v := by
  unfold atI at e ⊢
  rw [← repsLen r]
  cases z : ixN ds.length i with
  | none => rw [z] at e; cases e
  | some j =>
    rw [z] at e
    simp only [Option.bind_some] at e ⊢
    exact repsGet r e
theorem opS_ix {K : PySem.W.Frag} : OpS K (rIx K) opIx := fun F ρ h H x y v u E Q w rx ry q => by
  cases y with
  | int i =>
    have gen : (match (PV.seqOf h x).bind fun ds => atI ds i with | some d => Fin (Rep K) K E F ρ h H (.ok d h) Q | none => False) → rIx K v u H Q := fun q => by
      cases z : PV.seqOf h x with
      | none => rw [z] at q; exact q.elim
      | some ds =>
        rw [z] at q
        dsimp only [Option.bind_some] at q
        cases z2 : atI ds i with
        | none => rw [z2] at q; exact q.elim
        | some d =>
          rw [z2] at q
          obtain ⟨a, vs, e1, h1, r1⟩ := w.seqOf rx z
          obtain ⟨dv, e2, r2⟩ := atI_reps r1 z2
          have fin := q dv F ρ H .refl w r2
          rcases h1 with h1 | h1
          · exact .inl ⟨a, vs, i, dv, e1, rep_int.mp ry, h1, e2, fin⟩
          · exact .inr (.inl ⟨a, vs, i, dv, e1, rep_int.mp ry, h1, e2, fin⟩)
    have conv : Fin (Rep K) K E F ρ h H (match (PV.seqOf h x).bind fun ds => atI ds i with | some d => .ok d h | none => .no) Q → rIx K v u H Q := fun q => gen (by
      cases z : (PV.seqOf h x).bind fun ds => atI ds i with
      | none => rw [z] at q; exact q
      | some d => rw [z] at q; exact q)
    cases x with
    | str z =>
      unfold opIx at q
      dsimp only at q
      by_cases zl : z.length ≤ 1000000
      · rw [if_pos zl] at q
        cases za : atI z.cps.toList i with
        | none => rw [za] at q; exact q.elim
        | some cc =>
          rw [za] at q
          exact .inr (.inr ⟨z, i, cc, rep_str.mp rx, rep_int.mp ry, mil zl, za, q _ F ρ H .refl w (rep_str.mpr rfl)⟩)
      · rw [if_neg zl] at q; exact q.elim
    | _ => exact conv q
  | _ => unfold opIx at q; exact q.elim
def cutD {α : Type} (xs : List α) (lo hi : Option Int) : List α := (xs.drop (HT.sIx xs.length 0 lo)).take (HT.sIx xs.length xs.length hi - HT.sIx xs.length 0 lo)
def rPart (r : En → Hx → R D) : En → Hx → R (Option Int) := fun c h => (r c h).bind fun d h1 => match d with
  | .int i => .ok (some i) h1
  | _ => .no
def rNoPart : En → Hx → R (Option Int) := fun _ h => .ok none h
def relO : Hp → List Addr → Option Int → Option Int → Prop := fun _ _ a b => a = b
abbrev EO (X : Cx) (XW : L2.St → XK) (e : Option Expr) (r : En → Hx → R (Option Int)) : Prop := PO X e (tG relO X.K XW r)
theorem iO {X : Cx} {e : Option Expr} {t t' : TO} (p : PO X e t) (i : ∀ σ H Q, t' σ H Q → t σ H Q) : PO X e t' := ⟨fun pins s σ H Q I q => p.run pins s σ H Q I (i σ H Q q)⟩
/-- a slice: of a list a new one, of a tuple, of a text -/
def fSl (re : En → Hx → R D) (rl rh : En → Hx → R (Option Int)) : En → Hx → R (List D) := fun c h => (re c h).bind fun x h1 => (rl c h1).bind fun l h2 => (rh c h2).bind fun u h3 => match seqL h3 x with
  | some ds => .ok (cutD ds l u) h3
  | none => .no
def rSl (re : En → Hx → R D) (rl rh : En → Hx → R (Option Int)) : En → Hx → R D := fun c h => (re c h).bind fun x h1 => (rl c h1).bind fun l h2 => (rh c h2).bind fun u h3 => match x with
  | .tup ds => .ok (.tup (cutD ds l u)) h3
  | x => match seqL h3 x with
    | some ds => .ok (.lst (cutD ds l u)) h3
    | none => .no
section
variable {K : PySem.W.Frag} {F : Hp} {ρ : List Addr}
theorem reps_cut {ds : List D} {vs : List V} (r : Reps K F ρ ds vs) (l u : Option Int) : Reps K F ρ (cutD ds l u) (cutV vs l u) := by
  unfold cutD cutV
  rw [repsLen r]
  exact reps_take _ (reps_drop _ r)
end
section
variable {X : Cx} {XW : L2.St → XK} {a b : Expr} {lo hi : Option Expr} {ra rb : En → Hx → R D} {rl rh : En → Hx → R (Option Int)} {pos p2 : Pos}
theorem e_ix (ha : EE X XW a ra) (hb : EE X XW b rb) (hs : PlainIx b := by exact fun _ _ => rfl) : EE X XW (.Subscript a b pos) (r2 opIx ra rb) := iE (pe_ix ix_seq ha hb hs) (t2 opS_ix)
theorem o_none : EO X XW none rNoPart := iO po_none fun σ H Q ⟨F, ρ, c, h, w, e, q⟩ => q none F ρ H .refl w rfl
theorem o_some (h : EE X XW a ra) : EO X XW (some a) (rPart ra) := iO (po_some h) fun σ H Q ⟨F, ρ, c, h, w, e, q⟩ => tG_bind w e q fun d h1 v F1 ρ1 H1 x1 w1 r1 e1 q1 => by
  cases d with
  | int i => exact ⟨i, rep_int.mp r1, q1 (some i) F1 ρ1 H1 .refl w1 rfl⟩
  | _ => exact q1.elim
theorem f_sl (he : EE X XW a ra) (hl : EO X XW lo rl) (hu : EO X XW hi rh) : EF X XW (.Subscript a (.Slice lo hi none p2) pos) (fSl ra rl rh) :=
  iE (pe_slice sl_list he hl hu) fun σ H Q ⟨F, ρ, c, h, w, e, q⟩ => tG_bind w e (tF_of q) fun x h1 v F1 ρ1 H1 x1 w1 r1 e1 q1 => tG_bind w1 e1 q1 fun l h2 l' F2 ρ2 H2 x2 w2 r2 e2 q2 => tG_bind w2 e2 q2 fun u h3 u' F3 ρ3 H3 x3 w3 r3 e3 q3 => by
    have r2 : l = l' := r2
    have r3 : u = u' := r3
    subst r2 r3
    cases z : seqL h3 x with
    | none => rw [z] at q3; exact q3.elim
    | some ds =>
      rw [z] at q3
      obtain ⟨p, vs, e4, hL, rr⟩ := w3.seqL (x3.rep (x2.rep r1)) z
      exact ⟨p, vs, e4, hL, fun p' np => q3 _ F3 ρ3 H3 .refl w3 (reps_cut rr l u) p' np⟩
theorem e_sl (he : EE X XW a ra) (hl : EO X XW lo rl) (hu : EO X XW hi rh) : EE X XW (.Subscript a (.Slice lo hi none p2) pos) (rSl ra rl rh) :=
  iE (pe_slice (SlR.or sl_list sl_tupA) he hl hu) fun σ H Q ⟨F, ρ, c, h, w, e, q⟩ => tG_bind w e q fun x h1 v F1 ρ1 H1 x1 w1 r1 e1 q1 => tG_bind w1 e1 q1 fun l h2 l' F2 ρ2 H2 x2 w2 r2 e2 q2 => tG_bind w2 e2 q2 fun u h3 u' F3 ρ3 H3 x3 w3 r3 e3 q3 => by
    have r2 : l = l' := r2
    have r3 : u = u' := r3
    subst r2 r3
    have rx := x3.rep (x2.rep r1)
    have lists : (match seqL h3 x with | some ds => Fin (Rep X.K) X.K (XW σ) F3 ρ3 h3 H3 (.ok (.lst (cutD ds l u)) h3) Q | none => False) → rSlL X.K v l u H3 Q := fun q3 => by
      cases z : seqL h3 x with
      | none => rw [z] at q3; exact q3.elim
      | some ds =>
        rw [z] at q3
        obtain ⟨p, vs, e4, hL, rr⟩ := w3.seqL rx z
        refine ⟨p, vs, e4, hL, fun p' np => ?_⟩
        obtain ⟨w4, x4⟩ := w3.frozen np (.lst (cutV vs l u))
        exact q3 _ _ _ _ x4 w4 (rep_lst.mpr ⟨p', _, rfl, upd_same, x4.reps (reps_cut rr l u)⟩)
    have conv : Fin (Rep X.K) X.K (XW σ) F3 ρ3 h3 H3 (match seqL h3 x with | some ds => .ok (.lst (cutD ds l u)) h3 | none => .no) Q → rSlL X.K v l u H3 Q := fun q => lists (by
      cases z : seqL h3 x with
      | none => rw [z] at q; exact q
      | some d => rw [z] at q; exact q)
    cases x with
    | tup ds =>
      right
      obtain ⟨p, vs, e4, hT, rr⟩ := rep_tup.mp rx
      have ll := repsLen rr
      refine ⟨p, vs, e4, .inl (.inl (w3.sub _ _ hT)), fun hw => ?_, fun _ p' np => ?_⟩
      · refine q3 _ F3 ρ3 H3 .refl w3 (rep_tup.mpr ⟨p, vs, rfl, hT, ?_⟩)
        have : cutD ds l u = ds := by
          unfold cutD
          rw [ll, hw.1, hw.2, List.drop_zero, Nat.sub_zero, ← ll, List.take_length]
        rw [this]; exact rr
      · obtain ⟨w4, x4⟩ := w3.frozen np (.tup (cutV vs l u))
        exact q3 _ _ _ _ x4 w4 (rep_tup.mpr ⟨p', _, rfl, upd_same, x4.reps (reps_cut rr l u)⟩)
    | _ => exact .inl (conv q3)
end
end PV
namespace PV
open PySem PySem.Spec PyProof.Rows L2

/-! ### iterables -/
section
variable {K : PySem.W.Frag} {F : Hp} {ρ : List Addr} {a b : Addr} {vs us : List V}
/-- a tracked list, a tuple: the words of what stands at its address -/
theorem sqL_inj {X : Cx} {pins : List (Addr × Obj)} {σ : L2.St} {H : Hp} {s : Shared} (I : L2.Inv X pins σ H s) {p : Addr} {xs ys : List V} (h1 : SqL X.K H p xs) (h2 : SqL X.K H p ys) : xs = ys := I.list_inj h1 h2
end
/-- where a thing that is walked stands, as long as the world grows -/
def Seat (K : PySem.W.Frag) (F : Hp) (ρ : List Addr) (d : D) (a : Addr) (tup : Bool) : Prop := ∀ (F' : Hp) (t : List Addr) (h' : Hx) (H' : Hp) (ds : List D), Sub F F' → Wd K F' (ρ ++ t) h' H' → seqOf h' d = some ds → ∃ vs, (if tup = true then SqT K H' a vs else SqL K H' a vs) ∧ Reps K F' (ρ ++ t) ds vs
theorem ref_inj {a b : Addr} (h : V.ref a = V.ref b) : a = b := V.ref.inj h
theorem seat_of {K : PySem.W.Frag} {F : Hp} {ρ : List Addr} {h : Hx} {H : Hp} (w : Wd K F ρ h H) {d : D} {v : V} {ds : List D} (r : Rep K F ρ d v) (e : seqOf h d = some ds) : ∃ a, v = .ref a ∧ ((Seat K F ρ d a false ∧ ∃ vs, SqL K H a vs ∧ Reps K F ρ ds vs) ∨ (Seat K F ρ d a true ∧ ∃ vs, SqT K H a vs ∧ Reps K F ρ ds vs)) := by
  have lists : ∀ dd, dd = d → PV.seqL h dd = some ds → (∀ h', seqOf h' dd = PV.seqL h' dd) → ∃ a, v = .ref a ∧ ((Seat K F ρ dd a false ∧ ∃ vs, SqL K H a vs ∧ Reps K F ρ ds vs) ∨ (Seat K F ρ dd a true ∧ ∃ vs, SqT K H a vs ∧ Reps K F ρ ds vs)) := by
    intro dd hd el same
    subst hd
    obtain ⟨a, vs, h1, h2, h3⟩ := w.seqL r el
    subst h1
    refine ⟨a, rfl, .inl ⟨fun F' t h' H' ds' sb w' e' => ?_, vs, h2, h3⟩⟩
    obtain ⟨b, us, k1, k2, k3⟩ := w'.seqL (Rep.mono sb r) (by rw [← same]; exact e')
    cases k1
    exact ⟨us, k2, k3⟩
  have tups : ∀ dd, dd = d → PV.seqT dd = some ds → (∀ h', seqOf h' dd = PV.seqT dd) → ∃ a, v = .ref a ∧ ((Seat K F ρ dd a false ∧ ∃ vs, SqL K H a vs ∧ Reps K F ρ ds vs) ∨ (Seat K F ρ dd a true ∧ ∃ vs, SqT K H a vs ∧ Reps K F ρ ds vs)) := by
    intro dd hd el same
    subst hd
    obtain ⟨a, vs, h1, h2, h3⟩ := w.seqT r el
    subst h1
    refine ⟨a, rfl, .inr ⟨fun F' t h' H' ds' sb w' e' => ?_, vs, h2, h3⟩⟩
    obtain ⟨b, us, k1, k2, k3⟩ := w'.seqT (Rep.mono sb r) (by rw [← same h']; exact e')
    cases k1
    exact ⟨us, k2, k3⟩
  cases d with
  | tup xs => exact tups _ rfl e fun _ => rfl
  | rot xs => exact tups _ rfl e fun _ => rfl
  | _ => exact lists _ rfl e fun _ => rfl
section
variable {K : PySem.W.Frag} {F : Hp} {ρ : List Addr} {a b : Addr} {d d2 : D}
theorem bind_some' {α β : Type} {o : Option α} {f : α → Option β} {y : β} (e : o.bind f = some y) : ∃ x, o = some x ∧ f x = some y := by
  cases o with
  | none => cases e
  | some x => exact ⟨x, rfl, e⟩
theorem map_some' {α β : Type} {o : Option α} {f : α → β} {y : β} (e : o.map f = some y) : ∃ x, o = some x ∧ f x = y := by
  cases o with
  | none => cases e
  | some x => exact ⟨x, rfl, Option.some.inj e⟩
theorem src_l (s : Seat K F ρ d a false) : SrcR K F ρ (.sq d) (Itl K a) := by
  refine ⟨fun F' t h' H' i x sb w e => ?_, fun F' t h' H' i x v H2 sb w e y => ?_, fun F' t h' H' n sb w e => ?_⟩
  · obtain ⟨ds, e1, e2⟩ := bind_some' (show (seqOf h' d).bind (·[i]?) = some x from e)
    obtain ⟨vs, h1, h2⟩ := s F' t h' H' ds sb w e1
    obtain ⟨u, hu, _⟩ := repsGet h2 e2
    exact ⟨vs, u, h1, hu⟩
  · obtain ⟨ds, e1, e2⟩ := bind_some' (show (seqOf h' d).bind (·[i]?) = some x from e)
    obtain ⟨vs, h1, h2⟩ := s F' t h' H' ds sb w e1
    obtain ⟨u, hu, r⟩ := repsGet h2 e2
    obtain ⟨rfl, y⟩ := y
    have := (y vs h1).symm.trans hu
    cases this
    exact ⟨F', .refl, w, r⟩
  · obtain ⟨ds, e1, e2⟩ := map_some' (show (seqOf h' d).map (·.length) = some n from e)
    obtain ⟨vs, h1, h2⟩ := s F' t h' H' ds sb w e1
    exact ⟨vs, h1, by rw [← repsLen h2]; omega⟩
theorem src_t (s : Seat K F ρ d a true) : SrcR K F ρ (.sq d) (Itt K a) := by
  refine ⟨fun F' t h' H' i x sb w e => ?_, fun F' t h' H' i x v H2 sb w e y => ?_, fun F' t h' H' n sb w e => ?_⟩
  · obtain ⟨ds, e1, e2⟩ := bind_some' (show (seqOf h' d).bind (·[i]?) = some x from e)
    obtain ⟨vs, h1, h2⟩ := s F' t h' H' ds sb w e1
    obtain ⟨u, hu, _⟩ := repsGet h2 e2
    exact ⟨vs, u, h1, hu⟩
  · obtain ⟨ds, e1, e2⟩ := bind_some' (show (seqOf h' d).bind (·[i]?) = some x from e)
    obtain ⟨vs, h1, h2⟩ := s F' t h' H' ds sb w e1
    obtain ⟨u, hu, r⟩ := repsGet h2 e2
    obtain ⟨rfl, y⟩ := y
    have := (y vs h1).symm.trans hu
    cases this
    exact ⟨F', .refl, w, r⟩
  · obtain ⟨ds, e1, e2⟩ := map_some' (show (seqOf h' d).map (·.length) = some n from e)
    obtain ⟨vs, h1, h2⟩ := s F' t h' H' ds sb w e1
    exact ⟨vs, h1, by rw [← repsLen h2]; omega⟩
theorem src_rg {lo : Int} {n : Nat} : SrcR K F ρ (.rg lo n) (Itr lo n) := by
  have it : ∀ {h' : Hx} {i : Nat} {x : D}, Src.item h' i (.rg lo n) = some x → i < n ∧ x = .int (lo + i) := fun {h' i x} e => by
    unfold Src.item at e
    dsimp only at e
    by_cases z : i < n
    · rw [if_pos z] at e; cases e; exact ⟨z, rfl⟩
    · rw [if_neg z] at e; cases e
  refine ⟨fun F' t h' H' i x sb w e => (it e).1, fun F' t h' H' i x v H2 sb w e y => ?_, fun F' t h' H' m sb w e => ?_⟩
  · obtain ⟨rfl, rfl⟩ := y
    rw [(it e).2]
    exact ⟨F', .refl, w, rep_int.mpr rfl⟩
  · have : n = m := Option.some.inj e
    exact Nat.le_of_eq this
theorem src_rc {lo c : Int} {n : Nat} : SrcR K F ρ (.rc lo c n) (Itc lo c n) := by
  have it : ∀ {h' : Hx} {i : Nat} {x : D}, Src.item h' i (.rc lo c n) = some x → i < n ∧ x = .int (lo + i * c) := fun {h' i x} e => by
    unfold Src.item at e
    dsimp only at e
    by_cases z : i < n
    · rw [if_pos z] at e; cases e; exact ⟨z, rfl⟩
    · rw [if_neg z] at e; cases e
  refine ⟨fun F' t h' H' i x sb w e => (it e).1, fun F' t h' H' i x v H2 sb w e y => ?_, fun F' t h' H' m sb w e => ?_⟩
  · obtain ⟨rfl, rfl⟩ := y
    rw [(it e).2]
    exact ⟨F', .refl, w, rep_int.mpr rfl⟩
  · have : n = m := Option.some.inj e
    exact Nat.le_of_eq this
theorem src_tx {z : Str} : SrcR K F ρ (.tx z) (Its z) := by
  refine ⟨fun F' t h' H' i x sb w e => ?_, fun F' t h' H' i x v H2 sb w e y => ?_, fun F' t h' H' m sb w e => ?_⟩
  · obtain ⟨c, e1, e2⟩ := map_some' (show z.cps[i]?.map _ = some x from e)
    exact (Array.getElem?_eq_some_iff.mp e1).1
  · obtain ⟨c, e1, e2⟩ := map_some' (show z.cps[i]?.map _ = some x from e)
    obtain ⟨rfl, c', e3, rfl⟩ := y
    rw [e1] at e3
    cases e3
    subst e2
    exact ⟨F', .refl, w, rep_str.mpr rfl⟩
  · have : z.cps.size = m := Option.some.inj e
    exact Nat.le_of_eq this
theorem src_rvl {n : Nat} (s : Seat K F ρ d a false) : SrcR K F ρ (.rv d n) (Itv K a n) := by
  have it : ∀ {h' : Hx} {i : Nat} {x : D}, Src.item h' i (.rv d n) = some x → ∃ ds, seqOf h' d = some ds ∧ i < n ∧ ds[n - 1 - i]? = some x := fun {h' i x} e => by
    obtain ⟨ds, e1, e2⟩ := bind_some' (show (seqOf h' d).bind _ = some x from e)
    by_cases z : i < n
    · rw [if_pos z] at e2; exact ⟨ds, e1, z, e2⟩
    · rw [if_neg z] at e2; cases e2
  refine ⟨fun F' t h' H' i x sb w e => ?_, fun F' t h' H' i x v H2 sb w e y => ?_, fun F' t h' H' m sb w e => ?_⟩
  · obtain ⟨ds, e1, hi, e2⟩ := it e
    obtain ⟨vs, h1, h2⟩ := s F' t h' H' ds sb w e1
    obtain ⟨u, hu, _⟩ := repsGet h2 e2
    exact ⟨hi, vs, u, h1, hu⟩
  · obtain ⟨ds, e1, hi, e2⟩ := it e
    obtain ⟨vs, h1, h2⟩ := s F' t h' H' ds sb w e1
    obtain ⟨u, hu, r⟩ := repsGet h2 e2
    obtain ⟨rfl, y⟩ := y
    have := (y vs h1).symm.trans hu
    cases this
    exact ⟨F', .refl, w, r⟩
  · have : n = m := Option.some.inj e
    exact Nat.le_of_eq this
theorem src_rvt {n : Nat} (s : Seat K F ρ d a true) : SrcR K F ρ (.rv d n) (RT.ItvT K a n) := by
  have it : ∀ {h' : Hx} {i : Nat} {x : D}, Src.item h' i (.rv d n) = some x → ∃ ds, seqOf h' d = some ds ∧ i < n ∧ ds[n - 1 - i]? = some x := fun {h' i x} e => by
    obtain ⟨ds, e1, e2⟩ := bind_some' (show (seqOf h' d).bind _ = some x from e)
    by_cases z : i < n
    · rw [if_pos z] at e2; exact ⟨ds, e1, z, e2⟩
    · rw [if_neg z] at e2; cases e2
  refine ⟨fun F' t h' H' i x sb w e => ?_, fun F' t h' H' i x v H2 sb w e y => ?_, fun F' t h' H' m sb w e => ?_⟩
  · obtain ⟨ds, e1, hi, e2⟩ := it e
    obtain ⟨vs, h1, h2⟩ := s F' t h' H' ds sb w e1
    obtain ⟨u, hu, _⟩ := repsGet h2 e2
    exact ⟨hi, vs, u, h1, hu⟩
  · obtain ⟨ds, e1, hi, e2⟩ := it e
    obtain ⟨vs, h1, h2⟩ := s F' t h' H' ds sb w e1
    obtain ⟨u, hu, r⟩ := repsGet h2 e2
    obtain ⟨rfl, y⟩ := y
    have := (y vs h1).symm.trans hu
    cases this
    exact ⟨F', .refl, w, r⟩
  · have : n = m := Option.some.inj e
    exact Nat.le_of_eq this
/-- a new pair -/
theorem pair_new {F' : Hp} {ρ' : List Addr} {h' : Hx} {H' : Hp} {T : Addr} {x y : D} {vx vy : V} (w : Wd K F' ρ' h' H') (nT : H' T = none) (rx : Rep K F' ρ' x vx) (ry : Rep K F' ρ' y vy) :
    ∃ F2, Ext F' ρ' h' H' F2 ρ' h' (upd H' T (.tup [vx, vy])) ∧ Wd K F2 ρ' h' (upd H' T (.tup [vx, vy])) ∧ Rep K F2 ρ' (.tup [x, y]) (.ref T) := by
  obtain ⟨w2, x2⟩ := w.frozen nT (.tup [vx, vy])
  exact ⟨_, x2, w2, rep_tup.mpr ⟨T, _, rfl, upd_same, reps_cons.mpr ⟨_, _, rfl, x2.rep rx, reps_cons.mpr ⟨_, _, rfl, x2.rep ry, reps_nil.mpr rfl⟩⟩⟩⟩
theorem src_en (s : Seat K F ρ d a false) : SrcR K F ρ (.en d) (Ite K a) := by
  have it : ∀ {h' : Hx} {i : Nat} {x : D}, Src.item h' i (.en d) = some x → ∃ ds y, seqOf h' d = some ds ∧ ds[i]? = some y ∧ x = .tup [.int i, y] := fun {h' i x} e => by
    obtain ⟨ds, e1, e2⟩ := bind_some' (show (seqOf h' d).bind _ = some x from e)
    obtain ⟨y, e3, e4⟩ := map_some' e2
    exact ⟨ds, y, e1, e3, e4.symm⟩
  refine ⟨fun F' t h' H' i x sb w e => ?_, fun F' t h' H' i x v H2 sb w e y => ?_, fun F' t h' H' n sb w e => ?_⟩
  · obtain ⟨ds, y, e1, e2, _⟩ := it e
    obtain ⟨vs, h1, h2⟩ := s F' t h' H' ds sb w e1
    obtain ⟨u, hu, _⟩ := repsGet h2 e2
    exact ⟨vs, u, h1, hu⟩
  · obtain ⟨ds, y', e1, e2, rfl⟩ := it e
    obtain ⟨vs, h1, h2⟩ := s F' t h' H' ds sb w e1
    obtain ⟨u, hu, r⟩ := repsGet h2 e2
    obtain ⟨T, x1, rfl, nT, rfl, fx⟩ := y
    have := (fx vs h1).symm.trans hu
    cases this
    exact pair_new w nT (rep_int.mpr rfl) r
  · obtain ⟨ds, e1, e2⟩ := map_some' (show (seqOf h' d).map (·.length) = some n from e)
    obtain ⟨vs, h1, h2⟩ := s F' t h' H' ds sb w e1
    exact ⟨vs, h1, by rw [← repsLen h2]; omega⟩
theorem src_zp (s : Seat K F ρ d a false) (s2 : Seat K F ρ d2 b false) : SrcR K F ρ (.zp d d2) (Itz K a b) := by
  have it : ∀ {h' : Hx} {i : Nat} {x : D}, Src.item h' i (.zp d d2) = some x → ∃ ds es y z, seqOf h' d = some ds ∧ seqOf h' d2 = some es ∧ ds[i]? = some y ∧ es[i]? = some z ∧ x = .tup [y, z] := fun {h' i x} e => by
    obtain ⟨ds, e1, e2⟩ := bind_some' (show (seqOf h' d).bind _ = some x from e)
    obtain ⟨es, e3, e4⟩ := bind_some' e2
    obtain ⟨y, e5, e6⟩ := bind_some' e4
    obtain ⟨z, e7, e8⟩ := map_some' e6
    exact ⟨ds, es, y, z, e1, e3, e5, e7, e8.symm⟩
  refine ⟨fun F' t h' H' i x sb w e => ?_, fun F' t h' H' i x v H2 sb w e y => ?_, fun F' t h' H' n sb w e => ?_⟩
  · obtain ⟨ds, es, y, z, e1, e2, e3, e4, _⟩ := it e
    obtain ⟨vs, h1, h2⟩ := s F' t h' H' ds sb w e1
    obtain ⟨us, k1, k2⟩ := s2 F' t h' H' es sb w e2
    obtain ⟨u, hu, _⟩ := repsGet h2 e3
    obtain ⟨u2, hu2, _⟩ := repsGet k2 e4
    exact ⟨vs, us, u, u2, h1, k1, hu, hu2⟩
  · obtain ⟨ds, es, y1, z1, e1, e2, e3, e4, rfl⟩ := it e
    obtain ⟨vs, h1, h2⟩ := s F' t h' H' ds sb w e1
    obtain ⟨us, k1, k2⟩ := s2 F' t h' H' es sb w e2
    obtain ⟨u, hu, r⟩ := repsGet h2 e3
    obtain ⟨u2, hu2, r2⟩ := repsGet k2 e4
    obtain ⟨T, x1, x2, rfl, nT, rfl, fx, fy⟩ := y
    have q1 := (fx vs h1).symm.trans hu
    have q2 := (fy us k1).symm.trans hu2
    cases q1
    cases q2
    exact pair_new w nT r r2
  · obtain ⟨ds, e1, e2⟩ := bind_some' (show (seqOf h' d).bind _ = some n from e)
    obtain ⟨es, e3, e4⟩ := map_some' e2
    obtain ⟨vs, h1, h2⟩ := s F' t h' H' ds sb w e1
    obtain ⟨us, k1, k2⟩ := s2 F' t h' H' es sb w e3
    refine ⟨vs, us, h1, k1, ?_⟩
    rw [← repsLen h2, ← repsLen k2]
    omega
end
def iOf {α : Type} (ra : En → Hx → R α) (f : α → Hx → Option Src) : En → Hx → R Src := fun c h => (ra c h).bind fun d h1 => match f d h1 with
  | some s => .ok s h1
  | none => .no
def fSq (d : D) (h : Hx) : Option Src := (seqOf h d).map fun _ => .sq d
def fTx (d : D) (_ : Hx) : Option Src := match d with
  | .str z => some (.tx z)
  | _ => none
def smallR (i : Int) : Bool := decide (-1000000 ≤ i) && decide (i ≤ 1000000)
def fRg1 (ds : List D) (_ : Hx) : Option Src := match ds with
  | [.int n] => if smallR n = true then some (.rg 0 n.toNat) else none
  | _ => none
def fRg2 (ds : List D) (_ : Hx) : Option Src := match ds with
  | [.int a, .int b] => if smallR a = true ∧ smallR b = true then some (.rg a (b - a).toNat) else none
  | _ => none
def fEn (ds : List D) (h : Hx) : Option Src := match ds with
  | [d] => (lstOf h d).map fun _ => .en d
  | _ => none
def fZp (ds : List D) (h : Hx) : Option Src := match ds with
  | [d, e] => (lstOf h d).bind fun _ => (lstOf h e).map fun _ => .zp d e
  | _ => none
def fRv (d : D) (h : Hx) : Option Src := (seqOf h d).map fun ds => .rv d ds.length
/-- from a part's reading to a source's -/
theorem tI_bind {K : PySem.W.Frag} {XW : L2.St → XK} {α β : Type} {rel : Hp → List Addr → α → β → Prop} {ra : En → Hx → R α} {f : α → Hx → Option Src} {σ : L2.St} {H : Hp} {Q : It → Hp → Prop} {Q' : β → Hp → Prop} (q : tI K XW (iOf ra f) σ H Q)
    (k : ∀ d h1 v F1 ρ1 H1 s, Wd K F1 ρ1 h1 H1 → rel F1 ρ1 d v → f d h1 = some s → (∀ J, SrcR K F1 ρ1 s J → Q J H1) → Q' v H1) : tG rel K XW ra σ H Q' := by
  obtain ⟨F, ρ, c, h, w, e, q⟩ := q
  refine ⟨F, ρ, c, h, w, e, ?_⟩
  unfold iOf at q
  cases z : ra c h with
  | no => rw [z] at q; exact q
  | ex => rw [z] at q; exact q
  | ok d h1 =>
    rw [z] at q
    dsimp only [bind_ok] at q
    intro v F1 ρ1 H1 x1 w1 r1
    cases zf : f d h1 with
    | none => rw [zf] at q; exact q.elim
    | some s =>
      rw [zf] at q
      exact k d h1 v F1 ρ1 H1 s w1 r1 zf fun J sr => q J F1 ρ1 H1 x1 w1 (e.ext x1) sr
section
variable {X : Cx} {XW : L2.St → XK} {tg a : Expr} {ra : En → Hx → R D} {p pos : Pos}
theorem PI.or {tg e : Expr} {t t' : TI} (a : PI X tg e t) (b : PI X tg e t') : PI X tg e (fun σ H R => t σ H R ∨ t' σ H R) := ⟨fun pins s σ H R I q => q.elim (a.run pins s σ H R I) (b.run pins s σ H R I)⟩
theorem seatL {K : PySem.W.Frag} {F : Hp} {ρ : List Addr} {d : D} {a : Addr} (r : Rep K F ρ d (.ref a)) (same : ∀ h', seqOf h' d = PV.seqL h' d) : Seat K F ρ d a false := fun F' t h' H' ds' sb w' e' => by
  obtain ⟨b, us, k1, k2, k3⟩ := w'.seqL (Rep.mono sb r) (by rw [← same]; exact e')
  cases k1
  exact ⟨us, k2, k3⟩
theorem seatT {K : PySem.W.Frag} {F : Hp} {ρ : List Addr} {d : D} {a : Addr} (r : Rep K F ρ d (.ref a)) (same : ∀ h', seqOf h' d = PV.seqT d) : Seat K F ρ d a true := fun F' t h' H' ds' sb w' e' => by
  obtain ⟨b, us, k1, k2, k3⟩ := w'.seqT (Rep.mono sb r) (by rw [← same h']; exact e')
  cases k1
  exact ⟨us, k2, k3⟩
theorem smallR_ok {i : Int} (h : smallR i = true) : -(2 ^ 62) ≤ i ∧ i < 2 ^ 62 := by
  have h := Bool.and_eq_true_iff.mp h
  have h1 := of_decide_eq_true h.1
  have h2 := of_decide_eq_true h.2
  omega
def isTp : D → Bool
  | .tup _ => true
  | .rot _ => true
  | _ => false
theorem sameL {d : D} (h : isTp d = false) : ∀ h', seqOf h' d = PV.seqL h' d := fun h' => by cases d <;> first | rfl | cases h
theorem sameT {d : D} (h : isTp d = true) : ∀ h', seqOf h' d = PV.seqT d := fun h' => by cases d <;> first | rfl | cases h
/-- which of two readings serves is known ahead, by the data -/
theorem tI_or {K : PySem.W.Frag} {XW : L2.St → XK} {α β : Type} {rel : Hp → List Addr → α → β → Prop} {ra : En → Hx → R α} {f : α → Hx → Option Src} {σ : L2.St} {H : Hp} {Q : It → Hp → Prop} {Q1 Q2 : β → Hp → Prop} (t : α → Bool) (q : tI K XW (iOf ra f) σ H Q)
    (k1 : ∀ d h1 v F1 ρ1 H1 s, t d = false → Wd K F1 ρ1 h1 H1 → rel F1 ρ1 d v → f d h1 = some s → (∀ J, SrcR K F1 ρ1 s J → Q J H1) → Q1 v H1)
    (k2 : ∀ d h1 v F1 ρ1 H1 s, t d = true → Wd K F1 ρ1 h1 H1 → rel F1 ρ1 d v → f d h1 = some s → (∀ J, SrcR K F1 ρ1 s J → Q J H1) → Q2 v H1) : tG rel K XW ra σ H Q1 ∨ tG rel K XW ra σ H Q2 := by
  obtain ⟨F, ρ, c, h, w, e, q⟩ := q
  unfold iOf at q
  cases z : ra c h with
  | no => rw [z] at q; exact q.elim
  | ex => rw [z] at q; exact .inl ⟨F, ρ, c, h, w, e, by rw [z]; exact q⟩
  | ok d h1 =>
    rw [z] at q
    dsimp only [bind_ok] at q
    cases zf : f d h1 with
    | none => rw [zf] at q; exact q.elim
    | some s =>
      rw [zf] at q
      cases zt : t d with
      | false => exact .inl ⟨F, ρ, c, h, w, e, by rw [z]; exact fun v F1 ρ1 H1 x1 w1 r1 => k1 d h1 v F1 ρ1 H1 s zt w1 r1 zf fun J sr => q J F1 ρ1 H1 x1 w1 (e.ext x1) sr⟩
      | true => exact .inr ⟨F, ρ, c, h, w, e, by rw [z]; exact fun v F1 ρ1 H1 x1 w1 r1 => k2 d h1 v F1 ρ1 H1 s zt w1 r1 zf fun J sr => q J F1 ρ1 H1 x1 w1 (e.ext x1) sr⟩
theorem i_sq (ha : EE X XW a ra) : EI X XW tg a (iOf ra fSq) := iI (PI.or (pi_list ha) (pi_tup ha)) fun σ H R q => tI_or isTp q
  (fun d h1 v F1 ρ1 H1 s ht w1 r1 es q1 => by
    obtain ⟨ds, e1, rfl⟩ := map_some' es
    obtain ⟨p, vs, rfl, h2, h3⟩ := w1.seqL r1 (by rw [← sameL ht]; exact e1)
    exact ⟨p, rfl, ⟨vs, h2⟩, q1 _ (src_l (seatL r1 (sameL ht)))⟩)
  (fun d h1 v F1 ρ1 H1 s ht w1 r1 es q1 => by
    obtain ⟨ds, e1, rfl⟩ := map_some' es
    obtain ⟨p, vs, rfl, h2, h3⟩ := w1.seqT r1 (by rw [← sameT ht h1]; exact e1)
    exact ⟨p, rfl, ⟨vs, h2⟩, q1 _ (src_t (seatT r1 (sameT ht)))⟩)
theorem i_tx (ha : EE X XW a ra) : EI X XW tg a (iOf ra fTx) := iI (pi_str ha) fun σ H R q => tI_bind q fun d h1 v F1 ρ1 H1 s w1 r1 es q1 => by
  cases d with
  | str z => cases es; exact ⟨z, rep_str.mp r1, q1 _ src_tx⟩
  | _ => cases es
theorem i_rg1 {s : En → Hx → R (List D)} (hg : Gl X "range") (hm : X.mg "range" = none) (ha : EA X XW [a] s) (hs : starEach [a] X.env = [(false, eval a X.env)] := by rfl) : EI X XW tg (.Call (.Name "range" p) [a] [] pos) (iOf s fRg1) :=
  iI (pi_range1 hg hm ha hs) fun σ H R q => tI_bind q fun ds h1 v F1 ρ1 H1 s w1 r1 es q1 => by
    unfold fRg1 at es
    split at es
    · next n =>
      obtain ⟨u, us, rfl, k1, k2⟩ := reps_cons.mp r1
      rw [reps_nil.mp k2, rep_int.mp k1]
      by_cases z : smallR n = true
      · rw [if_pos z] at es
        cases es
        exact ⟨n, rfl, (smallR_ok z).1, (smallR_ok z).2, q1 _ src_rg⟩
      · rw [if_neg z] at es; cases es
    · cases es
theorem i_rg2 {b : Expr} {s : En → Hx → R (List D)} (hg : Gl X "range") (hm : X.mg "range" = none) (ha : EA X XW [a, b] s) (hs : starEach [a, b] X.env = [(false, eval a X.env), (false, eval b X.env)] := by rfl) (hs2 : starEach [b] X.env = [(false, eval b X.env)] := by rfl) : EI X XW tg (.Call (.Name "range" p) [a, b] [] pos) (iOf s fRg2) :=
  iI (pi_range2 hg hm ha hs hs2) fun σ H R q => tI_bind q fun ds h1 v F1 ρ1 H1 s w1 r1 es q1 => by
    unfold fRg2 at es
    split at es
    · next n m =>
      obtain ⟨u, us, rfl, k1, k2⟩ := reps_cons.mp r1
      obtain ⟨u', us', rfl, k3, k4⟩ := reps_cons.mp k2
      rw [reps_nil.mp k4, rep_int.mp k1, rep_int.mp k3]
      by_cases z : smallR n = true ∧ smallR m = true
      · rw [if_pos z] at es
        cases es
        exact ⟨n, m, rfl, ⟨(smallR_ok z.1).1, (smallR_ok z.1).2, (smallR_ok z.2).1, (smallR_ok z.2).2⟩, q1 _ src_rg⟩
      · rw [if_neg z] at es; cases es
    · cases es
theorem i_en {s : En → Hx → R (List D)} {tpos : Pos} {elts : List Expr} {kk : Nat} (hg : Gl X "enumerate") (hm : X.mg "enumerate" = none) (ha : EA X XW [a] s) (hs : starEach [a] X.env = [(false, eval a X.env)] := by rfl) : EI X XW (.Tuple elts kk tpos) (.Call (.Name "enumerate" p) [a] [] pos) (iOf s fEn) :=
  iI (pi_enum hg hm ha hs) fun σ H R q => tI_bind q fun ds h1 v F1 ρ1 H1 s w1 r1 es q1 => by
    unfold fEn at es
    split at es
    · next d =>
      obtain ⟨xs, e1, rfl⟩ := map_some' es
      obtain ⟨u, us, rfl, k1, k2⟩ := reps_cons.mp r1
      have sl : PV.seqL h1 d = some xs := by cases d <;> first | exact e1 | cases e1
      have tp : isTp d = false := by cases d <;> first | rfl | cases e1
      obtain ⟨p, vs, rfl, h2, h3⟩ := w1.seqL k1 sl
      rw [reps_nil.mp k2]
      exact ⟨p, vs, rfl, h2, q1 _ (src_en (seatL k1 (sameL tp)))⟩
    · cases es
theorem i_zp {b : Expr} {s : En → Hx → R (List D)} {tpos : Pos} {elts : List Expr} {kk : Nat} (hg : Gl X "zip") (hm : X.mg "zip" = none) (ha : EA X XW [a, b] s)
    (hs : starEach [a, b] X.env = (false, eval a X.env) :: starEach [b] X.env := by rfl) (hpl : (backTo pos (starEach [b] X.env)).any (·.1) = false := by rfl) : EI X XW (.Tuple elts kk tpos) (.Call (.Name "zip" p) [a, b] [] pos) (iOf s fZp) :=
  iI (pi_zip hg hm ha hs hpl) fun σ H R q => tI_bind q fun ds h1 v F1 ρ1 H1 s w1 r1 es q1 => by
    unfold fZp at es
    split at es
    · next d e =>
      obtain ⟨xs, e1, es⟩ := bind_some' es
      obtain ⟨ys, e2, rfl⟩ := map_some' es
      obtain ⟨u, us, rfl, k1, k2⟩ := reps_cons.mp r1
      obtain ⟨u', us', rfl, k3, k4⟩ := reps_cons.mp k2
      have sl : PV.seqL h1 d = some xs := by cases d <;> first | exact e1 | cases e1
      have tp : isTp d = false := by cases d <;> first | rfl | cases e1
      have sl2 : PV.seqL h1 e = some ys := by cases e <;> first | exact e2 | cases e2
      have tp2 : isTp e = false := by cases e <;> first | rfl | cases e2
      obtain ⟨p, vs, rfl, h2, h3⟩ := w1.seqL k1 sl
      obtain ⟨p2, vs2, rfl, h4, h5⟩ := w1.seqL k3 sl2
      rw [reps_nil.mp k4]
      exact ⟨p, p2, vs, vs2, rfl, h2, h4, q1 _ (src_zp (seatL k1 (sameL tp)) (seatL k3 (sameL tp2)))⟩
    · cases es
theorem i_rv (hg : Gl X "reversed") (hm : X.mg "reversed" = none) (ha : EE X XW a ra) (hs : starEach [a] X.env = (false, eval a X.env) :: starEach [] X.env := by rfl) : EI X XW tg (.Call (.Name "reversed" p) [a] [] pos) (iOf ra fRv) :=
  iI (RT.pi_revA hg hm ha hs) fun σ H R q => tI_bind q fun d h1 v F1 ρ1 H1 s w1 r1 es q1 => by
    obtain ⟨ds, e1, rfl⟩ := map_some' es
    cases ht : isTp d with
    | false =>
      obtain ⟨p, vs, rfl, h2, h3⟩ := w1.seqL r1 (by rw [← sameL ht]; exact e1)
      exact ⟨p, vs, rfl, .inl ⟨h2, by rw [← repsLen h3]; exact q1 _ (src_rvl (seatL r1 (sameL ht)))⟩⟩
    | true =>
      obtain ⟨p, vs, rfl, h2, h3⟩ := w1.seqT r1 (by rw [← sameT ht h1]; exact e1)
      exact ⟨p, vs, rfl, .inr ⟨h2, by rw [← repsLen h3]; exact q1 _ (src_rvt (seatT r1 (sameT ht)))⟩⟩
end
end PV
namespace PV
open PySem PySem.Spec PyProof.Rows L2

/-! ### calls of built-in functions -/
def CalS (K : PySem.W.Frag) (r : List V → Hp → VK → Prop) (g : List D → Hx → R D) : Prop := ∀ (F : Hp) (ρ : List Addr) (h : Hx) (H : Hp) (ds : List D) (vs : List V) (E : XK) (Q : VK), Wd K F ρ h H → Reps K F ρ ds vs → Fin (Rep K) K E F ρ h H (g ds h) Q → r vs H Q
/-- .. that give a new list -/
def CalF (K : PySem.W.Frag) (r : List V → Hp → VK → Prop) (g : List D → Hx → R (List D)) : Prop := ∀ (F : Hp) (ρ : List Addr) (h : Hx) (H : Hp) (ds : List D) (vs : List V) (E : XK) (Q : VK), Wd K F ρ h H → Reps K F ρ ds vs → FinF K E F ρ h H (g ds h) Q → r vs H Q
def fCall (g : List D → Hx → R (List D)) (s : En → Hx → R (List D)) : En → Hx → R (List D) := fun c h => (s c h).bind g
section
variable {X : Cx} {XW : L2.St → XK} {x : Str} {p pos : Pos} {e : Expr} {es : List Expr} {id : String} {r : List V → Hp → VK → Prop} {s : En → Hx → R (List D)}
theorem e_cb {g : List D → Hx → R D} (hc : CallR X (.builtin id) r) (hs : CalS X.K r g) (hm : X.mg x = none) (hv : bootBuiltins x = some (.builtin id)) (hg : Gl X x) (ha : EA X XW (e :: es) s) (hn : x ≠ "__name__" := by decide) (hdb : (x == ("__debug__" : Str)) = false := by decide)
    (he : starEach (e :: es) X.env = (false, eval e X.env) :: starEach es X.env := by rfl) (hpl : (backTo pos (starEach es X.env)).any (·.1) = false := by rfl) : EE X XW (.Call (.Name x p) (e :: es) [] pos) (rCall g s) :=
  iE (pe_callB hc hg hm hv ha hn hdb he hpl) fun σ H Q ⟨F, ρ, c, h, w, e, q⟩ => tG_bind w e q fun ds h1 vs F1 ρ1 H1 x1 w1 r1 e1 q1 => hs F1 ρ1 h1 H1 ds vs (XW σ) Q w1 r1 q1
theorem f_cb {g : List D → Hx → R (List D)} (hc : CallR X (.builtin id) r) (hs : CalF X.K r g) (hm : X.mg x = none) (hv : bootBuiltins x = some (.builtin id)) (hg : Gl X x) (ha : EA X XW (e :: es) s) (hn : x ≠ "__name__" := by decide) (hdb : (x == ("__debug__" : Str)) = false := by decide)
    (he : starEach (e :: es) X.env = (false, eval e X.env) :: starEach es X.env := by rfl) (hpl : (backTo pos (starEach es X.env)).any (·.1) = false := by rfl) : EF X XW (.Call (.Name x p) (e :: es) [] pos) (fCall g s) :=
  iE (pe_callB hc hg hm hv ha hn hdb he hpl) fun σ H Q ⟨F, ρ, c, h, w, e, q⟩ => tG_bind w e (tF_of q) fun ds h1 vs F1 ρ1 H1 x1 w1 r1 e1 q1 => hs F1 ρ1 h1 H1 ds vs (XW σ) Q w1 r1 (by
    cases z : g ds h1 with
    | no => rw [z] at q1; exact q1
    | ex => rw [z] at q1; exact q1
    | ok ds h2 => rw [z] at q1; exact fun vs p F' ρ' H' x w r np => q1 vs F' ρ' H' x w r p np)
theorem e_ct {g : List D → Hx → R D} (hc : CallR X (.type id) r) (hs : CalS X.K r g) (hm : X.mg x = none) (hv : bootBuiltins x = some (.type id)) (hg : Gl X x) (ha : EA X XW (e :: es) s) (hn : x ≠ "__name__" := by decide) (hdb : (x == ("__debug__" : Str)) = false := by decide)
    (he : starEach (e :: es) X.env = (false, eval e X.env) :: starEach es X.env := by rfl) (hpl : (backTo pos (starEach es X.env)).any (·.1) = false := by rfl) : EE X XW (.Call (.Name x p) (e :: es) [] pos) (rCall g s) :=
  iE (pe_callTy hc hg hm hv ha hn hdb he hpl) fun σ H Q ⟨F, ρ, c, h, w, e, q⟩ => tG_bind w e q fun ds h1 vs F1 ρ1 H1 x1 w1 r1 e1 q1 => hs F1 ρ1 h1 H1 ds vs (XW σ) Q w1 r1 q1
theorem f_ct {g : List D → Hx → R (List D)} (hc : CallR X (.type id) r) (hs : CalF X.K r g) (hm : X.mg x = none) (hv : bootBuiltins x = some (.type id)) (hg : Gl X x) (ha : EA X XW (e :: es) s) (hn : x ≠ "__name__" := by decide) (hdb : (x == ("__debug__" : Str)) = false := by decide)
    (he : starEach (e :: es) X.env = (false, eval e X.env) :: starEach es X.env := by rfl) (hpl : (backTo pos (starEach es X.env)).any (·.1) = false := by rfl) : EF X XW (.Call (.Name x p) (e :: es) [] pos) (fCall g s) :=
  iE (pe_callTy hc hg hm hv ha hn hdb he hpl) fun σ H Q ⟨F, ρ, c, h, w, e, q⟩ => tG_bind w e (tF_of q) fun ds h1 vs F1 ρ1 H1 x1 w1 r1 e1 q1 => hs F1 ρ1 h1 H1 ds vs (XW σ) Q w1 r1 (by
    cases z : g ds h1 with
    | no => rw [z] at q1; exact q1
    | ex => rw [z] at q1; exact q1
    | ok ds h2 => rw [z] at q1; exact fun vs p F' ρ' H' x w r np => q1 vs F' ρ' H' x w r p np)
/-- a built-in type's name as a value -/
theorem e_ty {n : String} (hm : X.mg x = none) (hv : bootBuiltins x = some (.type n)) (hg : Gl X x) (hn : x ≠ "__name__" := by decide) (hd : (x == ("__debug__" : Str)) = false := by decide) : EE X XW (.Name x pos) (rC (.ty n)) := ec (pe_bltn (v := .ty n) hg hm hv rfl hn hd) fun _ _ => rep_ty.mpr rfl
/-- a module's constant, a class -/
theorem e_glob {v : V} {u : Value} {d : D} (hm : X.mg x = some u) (r : RelV v u) (rd : ∀ F ρ, Rep X.K F ρ d v) (hg : Gl X x) (hd : (x == ("__debug__" : Str)) = false := by decide) : EE X XW (.Name x pos) (rC d) := ec (pe_glob hg hm r hd) rd
end
def gLen : List D → Hx → R D
  | [.str z], h => if z.length ≤ 1000000 then .ok (.int z.length) h else .no
  | [d], h => match seqOf h d with
    | some ds => .ok (.int ds.length) h
    | none => .no
  | _, _ => .no
theorem one_reps {K : PySem.W.Frag} {F : Hp} {ρ : List Addr} {d : D} {vs : List V} (r : Reps K F ρ [d] vs) : ∃ v, vs = [v] ∧ Rep K F ρ d v := by
  obtain ⟨u, us, rfl, k1, k2⟩ := reps_cons.mp r
  rw [reps_nil.mp k2]
  exact ⟨u, rfl, k1⟩
theorem two_reps {K : PySem.W.Frag} {F : Hp} {ρ : List Addr} {d e : D} {vs : List V} (r : Reps K F ρ [d, e] vs) : ∃ v u, vs = [v, u] ∧ Rep K F ρ d v ∧ Rep K F ρ e u := by
  obtain ⟨u, us, rfl, k1, k2⟩ := reps_cons.mp r
  obtain ⟨u', rfl, k3⟩ := one_reps k2
  exact ⟨u, u', rfl, k1, k3⟩
theorem cs_len {K : PySem.W.Frag} : CalS K (fun xs H Q => ∃ x n, xs = [x] ∧ LenV K x H n ∧ Q (.int n) H) gLen := by
  intro F ρ h H ds vs E Q w r q
  unfold gLen at q
  split at q
  · next z =>
    obtain ⟨v, rfl, k⟩ := one_reps r
    by_cases zl : z.length ≤ 1000000
    · rw [if_pos zl] at q
      rw [rep_str.mp k]
      exact ⟨_, _, rfl, ⟨mil zl, rfl⟩, q _ F ρ H .refl w (rep_int.mpr rfl)⟩
    · rw [if_neg zl] at q; exact q.elim
  · next d h ne =>
    obtain ⟨v, rfl, k⟩ := one_reps r
    split at q
    · next ds e =>
      obtain ⟨a, vs, rfl, h2, h3⟩ := w.seqOf k e
      refine ⟨_, vs.length, rfl, ?_, q _ F ρ H .refl w (rep_int.mpr (by rw [repsLen h3]))⟩
      rcases h2 with h2 | h2
      · exact .inl ⟨vs, h2, rfl⟩
      · exact .inr ⟨vs, h2, rfl⟩
    · exact q.elim
  · exact q.elim
def intsOf : List D → Option (List Int)
  | [] => some []
  | .int i :: ds => (intsOf ds).map (i :: ·)
  | _ => none
theorem intsOf_map : ∀ ns : List Int, intsOf (ns.map D.int) = some ns
  | [] => rfl
  | n :: ns => by show (intsOf (ns.map D.int)).map (n :: ·) = _; rw [intsOf_map ns] <;> rfl
theorem of_intsOf : ∀ {ds : List D} {ns : List Int}, intsOf ds = some ns → ds = ns.map D.int
  | [], _, e => by cases e; rfl
  | .int i :: ds, _, e => by
    obtain ⟨ms, e1, rfl⟩ := map_some' (show (intsOf ds).map (i :: ·) = some _ from e)
    rw [of_intsOf e1] <;> rfl
  | .non :: _, _, e => by cases e
  | .bl _ :: _, _, e => by cases e
  | .str _ :: _, _, e => by cases e
  | .ty _ :: _, _, e => by cases e
  | .ob _ :: _, _, e => by cases e
  | .tup _ :: _, _, e => by cases e
  | .lst _ :: _, _, e => by cases e
  | .rol _ :: _, _, e => by cases e
  | .rot _ :: _, _, e => by cases e
  | .ref _ :: _, _, e => by cases e
def blsOf : List D → Option (List Bool)
  | [] => some []
  | .bl i :: ds => (blsOf ds).map (i :: ·)
  | _ => none
theorem blsOf_map : ∀ ns : List Bool, blsOf (ns.map D.bl) = some ns
  | [] => rfl
  | n :: ns => by show (blsOf (ns.map D.bl)).map (n :: ·) = _; rw [blsOf_map ns] <;> rfl
theorem of_blsOf : ∀ {ds : List D} {ns : List Bool}, blsOf ds = some ns → ds = ns.map D.bl
  | [], _, e => by cases e; rfl
  | .bl i :: ds, _, e => by
    obtain ⟨ms, e1, rfl⟩ := map_some' (show (blsOf ds).map (i :: ·) = some _ from e)
    rw [of_blsOf e1] <;> rfl
  | .non :: _, _, e => by cases e
  | .int _ :: _, _, e => by cases e
  | .str _ :: _, _, e => by cases e
  | .ty _ :: _, _, e => by cases e
  | .ob _ :: _, _, e => by cases e
  | .tup _ :: _, _, e => by cases e
  | .lst _ :: _, _, e => by cases e
  | .rol _ :: _, _, e => by cases e
  | .rot _ :: _, _, e => by cases e
  | .ref _ :: _, _, e => by cases e
/-- the ints of a list that is read -/
def intsL (h : Hx) (d : D) : Option (List Int) := (seqL h d).bind intsOf
theorem Wd.intsL {K : PySem.W.Frag} {F : Hp} {ρ : List Addr} {h : Hx} {H : Hp} (w : Wd K F ρ h H) {d : D} {v : V} {ns : List Int} (r : Rep K F ρ d v) (e : intsL h d = some ns) : ∃ a, v = .ref a ∧ SqL K H a (ns.map V.int) := by
  obtain ⟨ds, e1, e2⟩ := bind_some' e
  obtain ⟨a, vs, rfl, h2, h3⟩ := w.seqL r e1
  rw [of_intsOf e2] at h3
  rw [reps_ints h3] at h2
  exact ⟨a, rfl, h2⟩
def gSum : List D → Hx → R D
  | [d], h => match intsL h d with
    | some ns => .ok (.int ns.sum) h
    | none => .no
  | _, _ => .no
theorem cs_sum {K : PySem.W.Frag} : CalS K (rSum K) gSum := by
  intro F ρ h H ds vs E Q w r q
  unfold gSum at q
  split at q
  · obtain ⟨v, rfl, k⟩ := one_reps r
    split at q
    · next ns e =>
      obtain ⟨a, rfl, h2⟩ := w.intsL k e
      exact ⟨a, ns, rfl, h2, q _ F ρ H .refl w (rep_int.mpr rfl)⟩
    · exact q.elim
  · exact q.elim
def gAbs : List D → Hx → R D
  | [.int i], h => .ok (.int (if i < 0 then -i else i)) h
  | _, _ => .no
theorem cs_abs {K : PySem.W.Frag} : CalS K (fun xs H Q => ∃ i, xs = [.int i] ∧ Q (.int (if i < 0 then -i else i)) H) gAbs := by
  intro F ρ h H ds vs E Q w r q
  unfold gAbs at q
  split at q
  · next i =>
    obtain ⟨v, rfl, k⟩ := one_reps r
    rw [rep_int.mp k]
    exact ⟨i, rfl, q _ F ρ H .refl w (rep_int.mpr rfl)⟩
  · exact q.elim
def gMax2 : List D → Hx → R D
  | [.int i, .int j], h => .ok (.int (if j > i then j else i)) h
  | _, _ => .no
def gMin2 : List D → Hx → R D
  | [.int i, .int j], h => .ok (.int (if j < i then j else i)) h
  | _, _ => .no
theorem cs_max2 {K : PySem.W.Frag} : CalS K (fun xs H Q => ∃ i j, xs = [.int i, .int j] ∧ Q (.int (if j > i then j else i)) H) gMax2 := by
  intro F ρ h H ds vs E Q w r q
  unfold gMax2 at q
  split at q
  · next i j =>
    obtain ⟨v, u, rfl, k, k2⟩ := two_reps r
    rw [rep_int.mp k, rep_int.mp k2]
    exact ⟨i, j, rfl, q _ F ρ H .refl w (rep_int.mpr rfl)⟩
  · exact q.elim
theorem cs_min2 {K : PySem.W.Frag} : CalS K (fun xs H Q => ∃ i j, xs = [.int i, .int j] ∧ Q (.int (if j < i then j else i)) H) gMin2 := by
  intro F ρ h H ds vs E Q w r q
  unfold gMin2 at q
  split at q
  · next i j =>
    obtain ⟨v, u, rfl, k, k2⟩ := two_reps r
    rw [rep_int.mp k, rep_int.mp k2]
    exact ⟨i, j, rfl, q _ F ρ H .refl w (rep_int.mpr rfl)⟩
  · exact q.elim
def gMax1 : List D → Hx → R D
  | [d], h => match (intsL h d).bind (·.max?) with
    | some m => .ok (.int m) h
    | none => .no
  | _, _ => .no
def gMin1 : List D → Hx → R D
  | [d], h => match (intsL h d).bind (·.min?) with
    | some m => .ok (.int m) h
    | none => .no
  | _, _ => .no
theorem cs_max1 {K : PySem.W.Frag} : CalS K (rMax K) gMax1 := by
  intro F ρ h H ds vs E Q w r q
  unfold gMax1 at q
  split at q
  · obtain ⟨v, rfl, k⟩ := one_reps r
    split at q
    · next m e =>
      obtain ⟨ns, e1, e2⟩ := bind_some' e
      obtain ⟨a, rfl, h2⟩ := w.intsL k e1
      have hm := List.max?_eq_some_iff.mp e2
      refine ⟨a, ns, rfl, h2, ?_, fun y hy hy2 => ?_⟩
      · cases ns with
        | nil => cases e2
        | cons => simp
      · have : y = m := Int.le_antisymm (hm.2 y hy) (hy2 m hm.1)
        subst this
        exact q _ F ρ H .refl w (rep_int.mpr rfl)
    · exact q.elim
  · exact q.elim
theorem cs_min1 {K : PySem.W.Frag} : CalS K (rMin K) gMin1 := by
  intro F ρ h H ds vs E Q w r q
  unfold gMin1 at q
  split at q
  · obtain ⟨v, rfl, k⟩ := one_reps r
    split at q
    · next m e =>
      obtain ⟨ns, e1, e2⟩ := bind_some' e
      obtain ⟨a, rfl, h2⟩ := w.intsL k e1
      have hm := List.min?_eq_some_iff.mp e2
      refine ⟨a, ns, rfl, h2, ?_, fun y hy hy2 => ?_⟩
      · cases ns with
        | nil => cases e2
        | cons => simp
      · have : y = m := Int.le_antisymm (hy2 m hm.1) (hm.2 y hy)
        subst this
        exact q _ F ρ H .refl w (rep_int.mpr rfl)
    · exact q.elim
  · exact q.elim
def gAll : List D → Hx → R D
  | [d], h => match (seqL h d).bind blsOf with
    | some ns => .ok (.bl (ns.all id)) h
    | none => .no
  | _, _ => .no
def gAny : List D → Hx → R D
  | [d], h => match (seqL h d).bind blsOf with
    | some ns => .ok (.bl (ns.any id)) h
    | none => .no
  | _, _ => .no
theorem cs_all {K : PySem.W.Frag} : CalS K (rAll K) gAll := by
  intro F ρ h H ds vs E Q w r q
  unfold gAll at q
  split at q
  · obtain ⟨v, rfl, k⟩ := one_reps r
    split at q
    · next ns e =>
      obtain ⟨ds, e1, e2⟩ := bind_some' e
      obtain ⟨a, vs, rfl, h2, h3⟩ := w.seqL k e1
      rw [of_blsOf e2] at h3
      rw [reps_bls h3] at h2
      exact ⟨a, ns, rfl, h2, q _ F ρ H .refl w (rep_bl.mpr rfl)⟩
    · exact q.elim
  · exact q.elim
theorem cs_any {K : PySem.W.Frag} : CalS K (rAny K) gAny := by
  intro F ρ h H ds vs E Q w r q
  unfold gAny at q
  split at q
  · obtain ⟨v, rfl, k⟩ := one_reps r
    split at q
    · next ns e =>
      obtain ⟨ds, e1, e2⟩ := bind_some' e
      obtain ⟨a, vs, rfl, h2, h3⟩ := w.seqL k e1
      rw [of_blsOf e2] at h3
      rw [reps_bls h3] at h2
      exact ⟨a, ns, rfl, h2, q _ F ρ H .refl w (rep_bl.mpr rfl)⟩
    · exact q.elim
  · exact q.elim
def gInt : List D → Hx → R D
  | [.int i], h => .ok (.int i) h
  | [.bl b], h => .ok (.int (if b then 1 else 0)) h
  | _, _ => .no
theorem cs_int {K : PySem.W.Frag} : CalS K (fun xs H Q => (∃ i, xs = [.int i] ∧ Q (.int i) H) ∨ ∃ k, xs = [.bl k] ∧ Q (.int (if k then 1 else 0)) H) gInt := by
  intro F ρ h H ds vs E Q w r q
  unfold gInt at q
  split at q
  · next i =>
    obtain ⟨v, rfl, k⟩ := one_reps r
    rw [rep_int.mp k]
    exact .inl ⟨i, rfl, q _ F ρ H .refl w (rep_int.mpr rfl)⟩
  · next i =>
    obtain ⟨v, rfl, k⟩ := one_reps r
    rw [rep_bl.mp k]
    exact .inr ⟨i, rfl, q _ F ρ H .refl w (rep_int.mpr rfl)⟩
  · exact q.elim
/-- list(xs), tuple(xs) -/
def gList : List D → Hx → R (List D)
  | [d], h => match seqOf h d with
    | some ds => .ok ds h
    | none => .no
  | _, _ => .no
theorem cf_list {K : PySem.W.Frag} : CalF K (fun xs H Q => ∃ p ys, xs = [.ref p] ∧ (SqL K H p ys ∨ SqT K H p ys) ∧ ∀ l, H l = none → Q (.ref l) (upd H l (.lst ys))) gList := by
  intro F ρ h H ds vs E Q w r q
  unfold gList at q
  split at q
  · obtain ⟨v, rfl, k⟩ := one_reps r
    split at q
    · next ns e =>
      obtain ⟨a, vs, rfl, h2, h3⟩ := w.seqOf k e
      exact ⟨a, vs, rfl, h2, fun l nl => q vs l F ρ H .refl w h3 nl⟩
    · exact q.elim
  · exact q.elim
def gTup : List D → Hx → R D
  | [.tup ds], h => .ok (.tup ds) h
  | [d], h => match seqL h d with
    | some ds => .ok (.tup ds) h
    | none => .no
  | _, _ => .no
theorem cs_tup {K : PySem.W.Frag} : CalS K (fun xs H Q => ∃ p ys, xs = [.ref p] ∧ ((SqL K H p ys ∧ ∀ l, H l = none → Q (.ref l) (upd H l (.tup ys))) ∨ (SqT K H p ys ∧ Q (.ref p) H))) gTup := by
  intro F ρ h H ds vs E Q w r q
  unfold gTup at q
  split at q
  · next ds =>
    obtain ⟨v, rfl, k⟩ := one_reps r
    obtain ⟨a, vs, rfl, h2, h3⟩ := rep_tup.mp k
    exact ⟨a, vs, rfl, .inr ⟨.inl (.inl (w.sub _ _ h2)), q _ F ρ H .refl w k⟩⟩
  · obtain ⟨v, rfl, k⟩ := one_reps r
    split at q
    · next ns e =>
      obtain ⟨a, vs, rfl, h2, h3⟩ := w.seqL k e
      refine ⟨a, vs, rfl, .inl ⟨h2, fun l nl => ?_⟩⟩
      obtain ⟨w2, x2⟩ := w.frozen nl (.tup vs)
      exact q _ _ _ _ x2 w2 (rep_tup.mpr ⟨l, vs, rfl, upd_same, x2.reps h3⟩)
    · exact q.elim
  · exact q.elim
/-- isinstance(x, T) -/
def tyOf (h : Hx) : D → Option String
  | .non => some "NoneType"
  | .bl _ => some "bool"
  | .int _ => some "int"
  | .str _ => some "str"
  | .tup _ => some "tuple"
  | .lst _ => some "list"
  | .ref n => match h[n]? with
    | some (.lst _) => some "list"
    | some (.dic _) => some "dict"
    | _ => none
  | _ => none
def gIsi : List D → Hx → R D
  | [d, .ty n], h => match (tyOf h d).bind fun t => kitB t n with
    | some b => .ok (.bl b) h
    | none => .no
  | _, _ => .no
theorem Wd.tyX {K : PySem.W.Frag} {F : Hp} {ρ : List Addr} {h : Hx} {H : Hp} (w : Wd K F ρ h H) {d : D} {v : V} {t : String} (r : Rep K F ρ d v) (e : tyOf h d = some t) : TyX K H v (.type t) := by
  cases d with
  | non => cases e; rw [rep_non.mp r]; exact .base .non
  | bl b => cases e; rw [rep_bl.mp r]; exact .base (.bl b)
  | int b => cases e; rw [rep_int.mp r]; exact .base (.int b)
  | str b => cases e; rw [rep_str.mp r]; exact .base (.str b)
  | tup b => cases e; obtain ⟨a, vs, rfl, h2, h3⟩ := rep_tup.mp r; exact .base (.tup (w.sub _ _ h2))
  | lst b => cases e; obtain ⟨a, vs, rfl, h2, h3⟩ := rep_lst.mp r; exact .base (.lst (w.sub _ _ h2))
  | ref n =>
    obtain ⟨a, rfl, ha⟩ := rep_ref.mp r
    unfold tyOf at e
    dsimp only at e
    split at e
    · next ds hl => cases e; obtain ⟨_, vs, h2, _⟩ := w.ok n a _ ha hl; exact .base (.lst h2)
    · next ds hl => cases e; obtain ⟨_, vs, h2, _⟩ := w.ok n a _ ha hl; exact .base (.dK h2)
    · cases e
  | _ => cases e
theorem cs_isi {K : PySem.W.Frag} : CalS K (rIsi K) gIsi := by
  intro F ρ h H ds vs E Q w r q
  unfold gIsi at q
  split at q
  · next d n =>
    obtain ⟨v, u, rfl, k, k2⟩ := two_reps r
    rw [rep_ty.mp k2]
    split at q
    · next b e =>
      obtain ⟨t, e1, e2⟩ := bind_some' e
      exact ⟨v, .ty n, .type t, .type n, b, rfl, .ty n, w.tyX k e1, kit_ty e2, q _ F ρ H .refl w (rep_bl.mpr rfl)⟩
    · exact q.elim
  · exact q.elim
/-- sorted of ints, of pairs of ints -/
def srtI (ns : List Int) : List Int := ns.mergeSort fun a b => decide (a ≤ b)
theorem srtI_perm (ns : List Int) : (srtI ns).Perm ns := List.mergeSort_perm ns _
theorem srtI_pw (ns : List Int) : (srtI ns).Pairwise (· ≤ ·) := by
  have := List.pairwise_mergeSort (le := fun a b : Int => decide (a ≤ b)) (fun a b c h1 h2 => decide_eq_true (Int.le_trans (of_decide_eq_true h1) (of_decide_eq_true h2))) (fun a b => by simp; omega) ns
  exact this.imp fun h => of_decide_eq_true h
theorem perm_uniq {α : Type} {le : α → α → Prop} (anti : ∀ a b, le a b → le b a → a = b) : ∀ {l m : List α}, l.Perm m → l.Pairwise le → m.Pairwise le → l = m
  | [], m, p, _, _ => by rw [p.nil_eq]
  | x :: l, m, p, h1, h2 => by
    cases m with
    | nil => exact absurd p.length_eq (by simp)
    | cons y m =>
      have e : x = y := by
        rcases List.mem_cons.mp (p.mem_iff.mp (List.mem_cons_self (a := x) (l := l))) with q | q
        · exact q
        · rcases List.mem_cons.mp (p.mem_iff.mpr (List.mem_cons_self (a := y) (l := m))) with q2 | q2
          · exact q2.symm
          · exact anti _ _ ((List.pairwise_cons.mp h1).1 y q2) ((List.pairwise_cons.mp h2).1 x q)
      subst e
      rw [perm_uniq anti (List.perm_cons x |>.mp p) (List.pairwise_cons.mp h1).2 (List.pairwise_cons.mp h2).2]
theorem srtI_uniq {ns ms : List Int} (p : ms.Perm ns) (h : ms.Pairwise (· ≤ ·)) : ms = srtI ns := perm_uniq (fun _ _ => Int.le_antisymm) (p.trans (srtI_perm ns).symm) h (srtI_pw ns)
def gSortI : List D → Hx → R (List D)
  | [d], h => match intsL h d with
    | some ns => .ok ((srtI ns).map D.int) h
    | none => .no
  | _, _ => .no
theorem reps_of_ints {K : PySem.W.Frag} {F : Hp} {ρ : List Addr} : ∀ ns : List Int, Reps K F ρ (ns.map D.int) (ns.map V.int)
  | [] => reps_nil.mpr rfl
  | n :: ns => reps_cons.mpr ⟨_, _, rfl, rep_int.mpr rfl, reps_of_ints ns⟩
theorem cf_sortI {K : PySem.W.Frag} : CalF K (rSortedI K) gSortI := by
  intro F ρ h H ds vs E Q w r q
  unfold gSortI at q
  split at q
  · obtain ⟨v, rfl, k⟩ := one_reps r
    split at q
    · next ns e =>
      obtain ⟨a, rfl, h2⟩ := w.intsL k e
      refine ⟨a, ns, rfl, h2, fun ms p pm pw np => ?_⟩
      rw [srtI_uniq pm pw]
      exact q _ p F ρ H .refl w (reps_of_ints _) np
    · exact q.elim
  · exact q.elim
def pairD (p : Int × Int) : D := .tup [.int p.1, .int p.2]
def pairOf : D → Option (Int × Int)
  | .tup [.int a, .int b] => some (a, b)
  | _ => none
def pairsOf : List D → Option (List (Int × Int))
  | [] => some []
  | d :: ds => (pairOf d).bind fun p => (pairsOf ds).map (p :: ·)
theorem pairsOf_map : ∀ ns : List (Int × Int), pairsOf (ns.map pairD) = some ns
  | [] => rfl
  | n :: ns => by show (pairOf (pairD n)).bind _ = _; rw [pairsOf_map ns] <;> rfl
theorem of_pairOf {d : D} {p : Int × Int} (e : pairOf d = some p) : d = pairD p := by
  unfold pairOf at e
  split at e
  · cases e; rfl
  · cases e
theorem of_pairsOf : ∀ {ds : List D} {ns : List (Int × Int)}, pairsOf ds = some ns → ds = ns.map pairD
  | [], _, e => by cases e; rfl
  | d :: ds, _, e => by
    obtain ⟨p, e1, e2⟩ := bind_some' (show (pairOf d).bind _ = some _ from e)
    obtain ⟨ms, e3, rfl⟩ := map_some' e2
    rw [of_pairOf e1, of_pairsOf e3] <;> rfl
/-- a before b or alike -/
def leP (a b : Int × Int) : Bool := decide (a.1 < b.1) || (decide (a.1 = b.1) && decide (a.2 ≤ b.2))
theorem leP_iff {a b : Int × Int} : leP a b = true ↔ a.1 < b.1 ∨ (a.1 = b.1 ∧ a.2 ≤ b.2) := by unfold leP; simp
def srtP (ns : List (Int × Int)) : List (Int × Int) := ns.mergeSort leP
theorem srtP_perm (ns : List (Int × Int)) : (srtP ns).Perm ns := List.mergeSort_perm ns _
theorem srtP_pw (ns : List (Int × Int)) : (srtP ns).Pairwise fun a b => leP a b = true :=
  List.pairwise_mergeSort (le := leP) (fun a b c h1 h2 => by rw [leP_iff] at *; omega) (fun a b => by
    by_cases h : leP a b = true
    · simp [h]
    · have : leP b a = true := by rw [leP_iff] at *; omega
      simp [this]) ns
theorem srtP_uniq {ns ms : List (Int × Int)} (p : ms.Perm ns) (h : ms.Pairwise fun a b => leP a b = true) : ms = srtP ns :=
  perm_uniq (le := fun a b => leP a b = true) (fun a b h1 h2 => by
    rw [leP_iff] at h1 h2
    exact Prod.ext (by omega) (by omega)) (p.trans (srtP_perm ns).symm) h (srtP_pw ns)
def gSortP : List D → Hx → R (List D)
  | [d], h => match (seqL h d).bind pairsOf with
    | some ns => .ok ((srtP ns).map pairD) h
    | none => .no
  | _, _ => .no

theorem pairs_back {K : PySem.W.Frag} {F : Hp} {ρ : List Addr} : ∀ {ns : List (Int × Int)} {vs : List V}, Reps K F ρ (ns.map pairD) vs → ∀ x ∈ vs, ∃ t p, x = V.ref t ∧ F t = some (.tup [.int p.1, .int p.2]) ∧ p ∈ ns
  | [], _, h, x, m => by rw [reps_nil.mp h] at m; cases m
  | n :: ns, _, h, x, m => by
    obtain ⟨v, r, rfl, h1, h2⟩ := reps_cons.mp h
    rcases List.mem_cons.mp m with e | m
    · subst e
      obtain ⟨a, us, rfl, k1, k2⟩ := rep_tup.mp h1
      obtain ⟨u, u', rfl, k3, k4⟩ := two_reps k2
      rw [rep_int.mp k3, rep_int.mp k4] at k1
      exact ⟨a, n, rfl, k1, List.mem_cons_self⟩
    · obtain ⟨t, p, e1, e2, e3⟩ := pairs_back h2 x m
      exact ⟨t, p, e1, e2, List.mem_cons_of_mem _ e3⟩
open Classical in
/-- the pair that stands behind a value -/
noncomputable def keyP (F : Hp) (v : V) : Int × Int := match v with
  | .ref t => match F t with
    | some (.tup [.int a, .int b]) => (a, b)
    | _ => (0, 0)
  | _ => (0, 0)
theorem keyP_at {F : Hp} {t : Addr} {p : Int × Int} (h : F t = some (.tup [.int p.1, .int p.2])) : keyP F (.ref t) = p := by
  unfold keyP
  dsimp only
  rw [h]
theorem keys_pairs {K : PySem.W.Frag} {F : Hp} {ρ : List Addr} : ∀ {ns : List (Int × Int)} {vs : List V}, Reps K F ρ (ns.map pairD) vs → vs.map (keyP F) = ns
  | [], _, h => by rw [reps_nil.mp h] <;> rfl
  | n :: ns, _, h => by
    obtain ⟨v, r, rfl, h1, h2⟩ := reps_cons.mp h
    obtain ⟨a, us, rfl, k1, k2⟩ := rep_tup.mp h1
    obtain ⟨u, u', rfl, k3, k4⟩ := two_reps k2
    rw [rep_int.mp k3, rep_int.mp k4] at k1
    rw [List.map_cons, keyP_at (p := n) k1, keys_pairs h2]
theorem pairs_reps {K : PySem.W.Frag} {F : Hp} {ρ : List Addr} : ∀ {vs : List V}, (∀ x ∈ vs, ∃ (t : Addr) (p : Int × Int), x = V.ref t ∧ F t = some (.tup [.int p.1, .int p.2])) → Reps K F ρ ((vs.map (keyP F)).map pairD) vs
  | [], _ => reps_nil.mpr rfl
  | v :: vs, h => by
    obtain ⟨t, p, rfl, e⟩ := h v List.mem_cons_self
    refine reps_cons.mpr ⟨_, _, rfl, ?_, pairs_reps fun x m => h x (List.mem_cons_of_mem _ m)⟩
    rw [keyP_at e]
    exact rep_tup.mpr ⟨t, _, rfl, e, reps_cons.mpr ⟨_, _, rfl, rep_int.mpr rfl, reps_cons.mpr ⟨_, _, rfl, rep_int.mpr rfl, reps_nil.mpr rfl⟩⟩⟩
theorem cf_sortP {K : PySem.W.Frag} : CalF K (rSortedPO K) gSortP := by
  intro F ρ h H ds vs E Q w r q
  unfold gSortP at q
  split at q
  · obtain ⟨v, rfl, k⟩ := one_reps r
    split at q
    · next ns e =>
      obtain ⟨ds, e1, e2⟩ := bind_some' e
      obtain ⟨a, xs, rfl, h2, h3⟩ := w.seqL k e1
      rw [of_pairsOf e2] at h3
      have hb := pairs_back h3
      have hk := keys_pairs h3
      refine ⟨a, xs, keyP F, rfl, h2, fun x m => ?_, fun ys p h5 h6 np => ?_⟩
      · obtain ⟨t, p, e1, e2, _⟩ := hb x m
        exact ⟨t, e1, by rw [e1, keyP_at e2]; exact w.sub _ _ e2⟩
      · have hy : Reps K F ρ ((ys.map (keyP F)).map pairD) ys := pairs_reps fun x m => by
          obtain ⟨t, p, e1, e2, _⟩ := hb x (h6.perm.mem_iff.mp m)
          exact ⟨t, p, e1, e2⟩
        have : ys.map (keyP F) = srtP ns := srtP_uniq (by rw [← hk]; exact h6.perm.map _) (List.pairwise_map.mpr (h5.imp fun {x y} z => by
          have := SrtO.lexB_no.mp z
          rw [leP_iff]
          omega))
        rw [this] at hy
        exact q _ p F ρ H .refl w hy np
    · exact q.elim
  · exact q.elim
/-- list(range(..)) -/
def fLrg1 (r : En → Hx → R D) : En → Hx → R (List D) := fun c h => (r c h).bind fun d h1 => match d with
  | .int n => if smallR n = true then .ok ((List.range n.toNat).map fun (i : Nat) => D.int i) h1 else .no
  | _ => .no
def fLrg2 (r s : En → Hx → R D) : En → Hx → R (List D) := fun c h => (r c h).bind fun d h1 => (s c h1).bind fun e h2 => match d, e with
  | .int a, .int b => if smallR a = true ∧ smallR b = true then .ok ((List.range (b - a).toNat).map fun (i : Nat) => D.int (a + i)) h2 else .no
  | _, _ => .no
theorem reps_rg {K : PySem.W.Frag} {F : Hp} {ρ : List Addr} (f : Nat → Int) : ∀ l : List Nat, Reps K F ρ (l.map fun i => D.int (f i)) (l.map fun i => V.int (f i))
  | [] => reps_nil.mpr rfl
  | _ :: l => reps_cons.mpr ⟨_, _, rfl, rep_int.mpr rfl, reps_rg f l⟩
theorem rgOk_small {a b : Int} (h1 : smallR a = true) (h2 : smallR b = true) : RgOk a b := by
  have h1 := Bool.and_eq_true_iff.mp h1
  have h2 := Bool.and_eq_true_iff.mp h2
  have a1 := of_decide_eq_true h1.1
  have a2 := of_decide_eq_true h1.2
  have b1 := of_decide_eq_true h2.1
  have b2 := of_decide_eq_true h2.2
  exact ⟨by omega, by omega, by omega, by omega, by omega⟩
section
variable {X : Cx} {XW : L2.St → XK} {a b : Expr} {ra rb : En → Hx → R D} {p p2 pos pos2 : Pos}
theorem f_lrg1 (hc : X.calm = true) (hml : X.mg "list" = none) (hmr : X.mg "range" = none) (hgl : Gl X "list") (hgr : Gl X "range") (ha : EE X XW a ra) (na : starEach [a] X.env = (false, eval a X.env) :: starEach [] X.env := by rfl)
    (na2 : starEach [Expr.Call (.Name "range" p) [a] [] pos] X.env = (false, eval (Expr.Call (.Name "range" p) [a] [] pos) X.env) :: starEach [] X.env := by rfl) : EF X XW (.Call (.Name "list" p2) [.Call (.Name "range" p) [a] [] pos] [] pos2) (fLrg1 ra) :=
  iE (pe_listRg hc hgl hml (prg_1 hgr hmr ha na) na2) fun σ H Q ⟨F, ρ, c, h, w, e, q⟩ => tG_bind w e (tF_of q) fun d h1 v F1 ρ1 H1 x1 w1 r1 e1 q1 => by
    cases d with
    | int n =>
      dsimp only at q1
      by_cases z : smallR n = true
      · rw [if_pos z] at q1
        refine ⟨n, rep_int.mp r1, rgOk_small (by decide) z, fun p np => ?_⟩
        have := q1 _ F1 ρ1 H1 .refl w1 (reps_rg (fun i => (i : Int)) _) p np
        unfold rgV
        simpa using this
      · rw [if_neg z] at q1; exact q1.elim
    | _ => exact q1.elim
theorem f_lrg2 (hc : X.calm = true) (hml : X.mg "list" = none) (hmr : X.mg "range" = none) (hgl : Gl X "list") (hgr : Gl X "range") (ha : EE X XW a ra) (hb : EE X XW b rb) (na : starEach [a, b] X.env = (false, eval a X.env) :: starEach [b] X.env := by rfl)
    (nb : starEach [b] X.env = (false, eval b X.env) :: starEach [] X.env := by rfl) (hp : (backTo pos (starEach [b] X.env)).any (·.1) = false := by rfl)
    (na2 : starEach [Expr.Call (.Name "range" p) [a, b] [] pos] X.env = (false, eval (Expr.Call (.Name "range" p) [a, b] [] pos) X.env) :: starEach [] X.env := by rfl) : EF X XW (.Call (.Name "list" p2) [.Call (.Name "range" p) [a, b] [] pos] [] pos2) (fLrg2 ra rb) :=
  iE (pe_listRg hc hgl hml (prg_2 hgr hmr ha hb na nb hp) na2) fun σ H Q ⟨F, ρ, c, h, w, e, q⟩ => tG_bind w e (tF_of q) fun d h1 v F1 ρ1 H1 x1 w1 r1 e1 q1 => tG_bind w1 e1 q1 fun d2 h2 v2 F2 ρ2 H2 x2 w2 r2 e2 q2 => by
    cases d with
    | int n =>
      cases d2 with
      | int m =>
        dsimp only at q2
        by_cases z : smallR n = true ∧ smallR m = true
        · rw [if_pos z] at q2
          exact ⟨n, m, rep_int.mp r1, rep_int.mp r2, rgOk_small z.1 z.2, fun p np => q2 _ F2 ρ2 H2 .refl w2 (reps_rg (fun i => n + (i : Int)) _) p np⟩
        · rw [if_neg z] at q2; exact q2.elim
      | _ => exact q2.elim
    | _ => exact q2.elim
end
end PV
namespace PV
open PySem PySem.Spec PyProof.Rows L2

/-! ### methods of lists -/
def rBM (g : D → List D → Hx → R D) (ro : En → Hx → R D) (s : En → Hx → R (List D)) : En → Hx → R D := fun c h => (ro c h).bind fun o h1 => match lstOf h1 o with
  | some _ => (s c h1).bind fun ds h2 => g o ds h2
  | none => .no
def MetS (K : PySem.W.Frag) (r : V → List V → Hp → VK → Prop) (g : D → List D → Hx → R D) : Prop := ∀ (F : Hp) (ρ : List Addr) (h : Hx) (H : Hp) (o : D) (v : V) (ds : List D) (vs : List V) (E : XK) (Q : VK), Wd K F ρ h H → Rep K F ρ o v → Reps K F ρ ds vs → Fin (Rep K) K E F ρ h H (g o ds h) Q → r v vs H Q
theorem tyV_list {K : PySem.W.Frag} {H : Hp} {a : Addr} {vs : List V} (h : H a = some (.lst vs)) : tyV K "list" (.ref a) H := Or.inl ⟨rfl, vs, .inl (.inl h)⟩
section
variable {X : Cx} {XW : L2.St → XK} {o e : Expr} {es : List Expr} {ro : En → Hx → R D} {s : En → Hx → R (List D)} {name : Str} {apos cpos : Pos} {id : String} {r : V → List V → Hp → VK → Prop} {g : D → List D → Hx → R D}
theorem e_bm (slot : Slot "list" name id) (hty : typeOf (.builtin id) = pure (.type "method_descriptor")) (hm : MtR X id r) (hs : MetS X.K r g) (ho : EE X XW o ro) (ha : EA X XW (e :: es) s)
    (hbase : attributeBase o name X.env (eval o X.env) = eval o X.env := by rfl)
    (hfew : ((backTo cpos (starEach (e :: es) X.env)).all (fun x => !x.1) && (backToKw cpos (keywordEach [] X.env)).all (fun x => x.1.isSome)
      && decide ((e :: es).length + ([] : List Keyword).length + (if ([] : List Keyword).isEmpty then 0 else 1) < 30)) = true := by rfl)
    (hline : (apos.endLine == cpos.line) = true := by rfl) (hst : starEach (e :: es) X.env = (false, eval e X.env) :: starEach es X.env := by rfl) (hplain : (backTo cpos (starEach es X.env)).any (·.1) = false := by rfl) :
    EE X XW (.Call (.Attribute o name apos) (e :: es) [] cpos) (rBM g ro s) :=
  iE (pe_bm PySem.F.plainAttrs_list slot hty hm ho ha hbase hfew hline hst hplain) fun σ H Q ⟨F, ρ, c, h, w, ev, q⟩ => tG_bind w ev q fun x h1 v F1 ρ1 H1 x1 w1 r1 e1 q1 => by
    split at q1
    · next ds hl =>
      obtain ⟨a, vs, rfl, hh, _⟩ := w1.lstOf r1 hl
      exact ⟨tyV_list hh, tG_bind w1 e1 q1 fun ds h2 vs F2 ρ2 H2 x2 w2 r2 e2 q2 => hs F2 ρ2 h2 H2 x _ ds vs (XW σ) Q w2 (x2.rep r1) r2 q2⟩
    · exact q1.elim
theorem e_bm0 (slot : Slot "list" name id) (hty : typeOf (.builtin id) = pure (.type "method_descriptor")) (hm : MtR X id r) (hs : MetS X.K r g) (ho : EE X XW o ro)
    (hbase : attributeBase o name X.env (eval o X.env) = eval o X.env := by rfl) (hline : (apos.endLine == cpos.line) = true := by rfl) :
    EE X XW (.Call (.Attribute o name apos) [] [] cpos) (rBM g ro aNil) :=
  iE (pe_bm0 PySem.F.plainAttrs_list slot hty hm ho hbase hline) fun σ H Q ⟨F, ρ, c, h, w, ev, q⟩ => tG_bind w ev q fun x h1 v F1 ρ1 H1 x1 w1 r1 e1 q1 => by
    split at q1
    · next ds hl =>
      obtain ⟨a, vs, rfl, hh, _⟩ := w1.lstOf r1 hl
      exact ⟨tyV_list hh, hs F1 ρ1 h1 H1 x _ [] [] (XW σ) Q w1 r1 (reps_nil.mpr rfl) q1⟩
    · exact q1.elim
end
/-- the list that may change at n -/
def mutL (h : Hx) : D → Option (Nat × List D)
  | .ref n => match h[n]? with
    | some (.lst ds) => some (n, ds)
    | _ => none
  | _ => none
theorem Wd.mutL {K : PySem.W.Frag} {F : Hp} {ρ : List Addr} {h : Hx} {H : Hp} (w : Wd K F ρ h H) {d : D} {v : V} {n : Nat} {ds : List D} (r : Rep K F ρ d v) (e : mutL h d = some (n, ds)) : ∃ a vs, v = .ref a ∧ ρ[n]? = some a ∧ h[n]? = some (.lst ds) ∧ H a = some (.lst vs) ∧ Reps K F ρ ds vs := by
  cases d with
  | ref m =>
    unfold PV.mutL at e
    dsimp only at e
    split at e
    · next xs hl =>
      cases e
      obtain ⟨a, rfl, ha⟩ := rep_ref.mp r
      obtain ⟨_, vs, hH, hr⟩ := w.ok n a _ ha hl
      exact ⟨a, vs, rfl, ha, hl, hH, hr⟩
    · cases e
  | _ => cases e
/-- the list at n is written -/
theorem Wd.putL {K : PySem.W.Frag} {F : Hp} {ρ : List Addr} {h : Hx} {H : Hp} (w : Wd K F ρ h H) {n : Nat} {a : Addr} {ds ds' : List D} {vs' : List V} (hp : ρ[n]? = some a) (hl : h[n]? = some (.lst ds)) (r : Reps K F ρ ds' vs') :
    Wd K F ρ (h.set n (.lst ds')) (upd H a (.lst vs')) ∧ Ext F ρ h H F ρ (h.set n (.lst ds')) (upd H a (.lst vs')) :=
  w.write hp hl (by intro z; cases z) ⟨((w.ok n a _ hp hl).live (by intro z; cases z)).1, vs', upd_same, r⟩
def mApp (o : D) (ds : List D) (h : Hx) : R D := match ds with
  | [d] => (match mutL h o with
    | some (n, xs) => if xs.length < 1000000 then .ok .non (h.set n (.lst (xs ++ [d]))) else .no
    | none => .no)
  | _ => .no
theorem ms_app {K : PySem.W.Frag} : MetS K rAppend mApp := by
  intro F ρ h H o v ds vs E Q w ro r q
  unfold mApp at q
  split at q
  · next d =>
    obtain ⟨u, rfl, k⟩ := one_reps r
    split at q
    · next n xs e =>
      obtain ⟨a, us, rfl, ha, hl, hH, hr⟩ := w.mutL ro e
      by_cases z : xs.length < 1000000
      · rw [if_pos z] at q
        obtain ⟨w2, x2⟩ := w.putL ha hl (reps_app hr (reps_cons.mpr ⟨_, _, rfl, k, reps_nil.mpr rfl⟩))
        exact ⟨a, us, u, rfl, rfl, hH, by rw [← repsLen hr]; exact Nat.lt_of_lt_of_le z (by decide), q _ _ _ _ x2 w2 (rep_non.mpr rfl)⟩
      · rw [if_neg z] at q; exact q.elim
    · exact q.elim
  · exact q.elim
def mExt (o : D) (ds : List D) (h : Hx) : R D := match ds with
  | [d] => (match mutL h o, lstOf h d with
    | some (n, xs), some ys => if xs.length + ys.length < 1000000 then .ok .non (h.set n (.lst (xs ++ ys))) else .no
    | _, _ => .no)
  | _ => .no
theorem ms_ext {K : PySem.W.Frag} : MetS K rExtend mExt := by
  intro F ρ h H o v ds vs E Q w ro r q
  unfold mExt at q
  split at q
  · next d =>
    obtain ⟨u, rfl, k⟩ := one_reps r
    split at q
    · next n xs ys e e2 =>
      obtain ⟨a, us, rfl, ha, hl, hH, hr⟩ := w.mutL ro e
      obtain ⟨b, ws, rfl, hb, hr2⟩ := w.lstOf k e2
      by_cases z : xs.length + ys.length < 1000000
      · rw [if_pos z] at q
        obtain ⟨w2, x2⟩ := w.putL ha hl (reps_app hr hr2)
        exact ⟨a, b, us, ws, rfl, rfl, hH, hb, by rw [← repsLen hr, ← repsLen hr2]; exact mil (Nat.le_of_lt z), q _ _ _ _ x2 w2 (rep_non.mpr rfl)⟩
      · rw [if_neg z] at q; exact q.elim
    · exact q.elim
  · exact q.elim
theorem reps_dropLast {K : PySem.W.Frag} {F : Hp} {ρ : List Addr} {ds : List D} {vs : List V} (r : Reps K F ρ ds vs) : Reps K F ρ ds.dropLast vs.dropLast := by
  rw [List.dropLast_eq_take, List.dropLast_eq_take, repsLen r]
  exact reps_take _ r
def mPop (o : D) (ds : List D) (h : Hx) : R D := match ds with
  | [] => (match mutL h o with
    | some (n, xs) => (match xs[xs.length - 1]? with
      | some d => .ok d (h.set n (.lst xs.dropLast))
      | none => .no)
    | none => .no)
  | _ => .no
theorem ms_pop {K : PySem.W.Frag} : MetS K rPop mPop := by
  intro F ρ h H o v ds vs E Q w ro r q
  unfold mPop at q
  split at q
  · split at q
    · next n xs e =>
      obtain ⟨a, us, rfl, ha, hl, hH, hr⟩ := w.mutL ro e
      split at q
      · next d hd =>
        obtain ⟨u, hu, k⟩ := repsGet hr hd
        obtain ⟨w2, x2⟩ := w.putL ha hl (reps_dropLast hr)
        exact ⟨a, us, u, rfl, reps_nil.mp r, hH, by rw [← repsLen hr]; exact hu, q _ _ _ _ x2 w2 (x2.rep k)⟩
      · exact q.elim
    · exact q.elim
  · exact q.elim
def mClear (o : D) (ds : List D) (h : Hx) : R D := match ds with
  | [] => (match mutL h o with
    | some (n, xs) => .ok .non (h.set n (.lst []))
    | none => .no)
  | _ => .no
theorem ms_clear {K : PySem.W.Frag} : MetS K rClear mClear := by
  intro F ρ h H o v ds vs E Q w ro r q
  unfold mClear at q
  split at q
  · split at q
    · next n xs e =>
      obtain ⟨a, us, rfl, ha, hl, hH, hr⟩ := w.mutL ro e
      obtain ⟨w2, x2⟩ := w.putL ha hl (ds' := []) (vs' := []) (reps_nil.mpr rfl)
      exact ⟨a, us, rfl, reps_nil.mp r, hH, q _ _ _ _ x2 w2 (rep_non.mpr rfl)⟩
    · exact q.elim
  · exact q.elim
theorem reps_reverse {K : PySem.W.Frag} {F : Hp} {ρ : List Addr} : ∀ {ds : List D} {vs : List V}, Reps K F ρ ds vs → Reps K F ρ ds.reverse vs.reverse
  | [], _, h => by rw [reps_nil.mp h]; exact reps_nil.mpr rfl
  | d :: ds, _, h => by
    obtain ⟨v, r, rfl, h1, h2⟩ := reps_cons.mp h
    rw [List.reverse_cons, List.reverse_cons]
    exact reps_app (reps_reverse h2) (reps_cons.mpr ⟨_, _, rfl, h1, reps_nil.mpr rfl⟩)
def mRev (o : D) (ds : List D) (h : Hx) : R D := match ds with
  | [] => (match mutL h o with
    | some (n, xs) => .ok .non (h.set n (.lst xs.reverse))
    | none => .no)
  | _ => .no
theorem ms_rev {K : PySem.W.Frag} : MetS K rReverse mRev := by
  intro F ρ h H o v ds vs E Q w ro r q
  unfold mRev at q
  split at q
  · split at q
    · next n xs e =>
      obtain ⟨a, us, rfl, ha, hl, hH, hr⟩ := w.mutL ro e
      obtain ⟨w2, x2⟩ := w.putL ha hl (reps_reverse hr)
      exact ⟨a, us, rfl, reps_nil.mp r, hH, q _ _ _ _ x2 w2 (rep_non.mpr rfl)⟩
    · exact q.elim
  · exact q.elim
/-- xs.count(n) of ints -/
def mCnt (o : D) (ds : List D) (h : Hx) : R D := match ds with
  | [.int k] => (match intsL h o with
    | some ns => .ok (.int (ns.count k : Nat)) h
    | none => .no)
  | _ => .no
theorem ms_cnt {K : PySem.W.Frag} : MetS K (rCntI K) mCnt := by
  intro F ρ h H o v ds vs E Q w ro r q
  unfold mCnt at q
  split at q
  · next k =>
    obtain ⟨u, rfl, kk⟩ := one_reps r
    split at q
    · next ns e =>
      obtain ⟨a, rfl, h2⟩ := w.intsL ro e
      rw [rep_int.mp kk]
      exact ⟨a, ns, k, rfl, rfl, h2, q _ F ρ H .refl w (rep_int.mpr rfl)⟩
    · exact q.elim
  · exact q.elim
section
variable {X : Cx} {XW : L2.St → XK} {o e : Expr} {ro : En → Hx → R D} {s : En → Hx → R (List D)} {apos cpos : Pos}
theorem m_append (ho : EE X XW o ro) (ha : EA X XW [e] s) (hbase : attributeBase o "append" X.env (eval o X.env) = eval o X.env := by rfl)
    (hfew : ((backTo cpos (starEach [e] X.env)).all (fun x => !x.1) && (backToKw cpos (keywordEach [] X.env)).all (fun x => x.1.isSome) && decide (([e] : List Expr).length + ([] : List Keyword).length + (if ([] : List Keyword).isEmpty then 0 else 1) < 30)) = true := by rfl)
    (hline : (apos.endLine == cpos.line) = true := by rfl) (hst : starEach [e] X.env = (false, eval e X.env) :: starEach [] X.env := by rfl) : EE X XW (.Call (.Attribute o "append" apos) [e] [] cpos) (rBM mApp ro s) :=
  e_bm PySem.F.slot_list_append PySem.F.type_list_append mt_append ms_app ho ha hbase hfew hline hst rfl
theorem m_extend (ho : EE X XW o ro) (ha : EA X XW [e] s) (hbase : attributeBase o "extend" X.env (eval o X.env) = eval o X.env := by rfl)
    (hfew : ((backTo cpos (starEach [e] X.env)).all (fun x => !x.1) && (backToKw cpos (keywordEach [] X.env)).all (fun x => x.1.isSome) && decide (([e] : List Expr).length + ([] : List Keyword).length + (if ([] : List Keyword).isEmpty then 0 else 1) < 30)) = true := by rfl)
    (hline : (apos.endLine == cpos.line) = true := by rfl) (hst : starEach [e] X.env = (false, eval e X.env) :: starEach [] X.env := by rfl) : EE X XW (.Call (.Attribute o "extend" apos) [e] [] cpos) (rBM mExt ro s) :=
  e_bm PySem.F.slot_list_extend PySem.F.type_list_extend mt_extend ms_ext ho ha hbase hfew hline hst rfl
theorem m_pop (ho : EE X XW o ro) (hbase : attributeBase o "pop" X.env (eval o X.env) = eval o X.env := by rfl) (hline : (apos.endLine == cpos.line) = true := by rfl) : EE X XW (.Call (.Attribute o "pop" apos) [] [] cpos) (rBM mPop ro aNil) :=
  e_bm0 PySem.F.slot_list_pop PySem.F.type_list_pop mt_pop ms_pop ho hbase hline
theorem m_clear (ho : EE X XW o ro) (hbase : attributeBase o "clear" X.env (eval o X.env) = eval o X.env := by rfl) (hline : (apos.endLine == cpos.line) = true := by rfl) : EE X XW (.Call (.Attribute o "clear" apos) [] [] cpos) (rBM mClear ro aNil) :=
  e_bm0 PySem.F.slot_list_clear PySem.F.type_list_clear mt_clear ms_clear ho hbase hline
theorem m_reverse (ho : EE X XW o ro) (hbase : attributeBase o "reverse" X.env (eval o X.env) = eval o X.env := by rfl) (hline : (apos.endLine == cpos.line) = true := by rfl) : EE X XW (.Call (.Attribute o "reverse" apos) [] [] cpos) (rBM mRev ro aNil) :=
  e_bm0 PySem.F.slot_list_reverse PySem.F.type_list_reverse mt_reverse ms_rev ho hbase hline
theorem m_count (ho : EE X XW o ro) (ha : EA X XW [e] s) (hbase : attributeBase o "count" X.env (eval o X.env) = eval o X.env := by rfl)
    (hfew : ((backTo cpos (starEach [e] X.env)).all (fun x => !x.1) && (backToKw cpos (keywordEach [] X.env)).all (fun x => x.1.isSome) && decide (([e] : List Expr).length + ([] : List Keyword).length + (if ([] : List Keyword).isEmpty then 0 else 1) < 30)) = true := by rfl)
    (hline : (apos.endLine == cpos.line) = true := by rfl) (hst : starEach [e] X.env = (false, eval e X.env) :: starEach [] X.env := by rfl) : EE X XW (.Call (.Attribute o "count" apos) [e] [] cpos) (rBM mCnt ro s) :=
  e_bm PySem.F.slot_list_count PySem.F.type_list_count mt_lcount ms_cnt ho ha hbase hfew hline hst rfl
end
end PV
namespace PV
open PySem PySem.Spec PyProof.Rows L2

/-! ### xs[i] = e -/
def sPut (ro ri re : En → Hx → R D) : En → Hx → SR := fun c h => (re c h).toS c fun d h1 => (ro c h1).toS c fun o h2 => (ri c h2).toS c fun i h3 => match i with
  | .int k => (match mutL h3 o with
    | some (n, xs) => (match ixN xs.length k with
      | some j => .nx c (h3.set n (.lst (xs.set j d)))
      | none => .no)
    | none => .no)
  | _ => .no
section
variable {X : Cx} {XW : L2.St → XK} {o i e : Expr} {ro ri re : En → Hx → R D} {pos pos' : Pos}
theorem s_put (ho : EE X XW o ro) (hi : EE X XW i ri) (he : EE X XW e re)
    (ha : ∀ v, assign (.Subscript o i pos') X.env v = (do
      let ov ← holding [v] (eval o X.env)
      let iv ← holding [v, ov] (eval i X.env)
      standAt pos'
      holding [v, ov, iv] (setItem ov iv v)
      release [v, ov, iv] []) := by intro _; rfl)
    (hs : swapsWithSole [.Subscript o i pos'] e pos.line X.env = pure false := by rfl) (hw : swappedStores [.Subscript o i pos'] e X.env = pure none := by rfl)
    (h1 : (assignEach [.Subscript o i pos'] X.env).map (·.2) = [assign (.Subscript o i pos') X.env] := by rfl) : ES X XW (.Assign [.Subscript o i pos'] e pos) (sPut ro ri re) :=
  iS (ps_asg he (pg_sub ho hi set_list ha) hs hw h1) fun T σ H ⟨F, ρ, c, h, w, ev, q⟩ => tG_toS w ev q fun d h1 v F1 ρ1 H1 x1 w1 r1 e1 q1 => tG_toS w1 e1 q1 fun od h2 ov F2 ρ2 H2 x2 w2 r2 e2 q2 => tG_toS w2 e2 q2 fun k h3 iv F3 ρ3 H3 x3 w3 r3 e3 q3 => by
    cases k with
    | int k =>
      dsimp only at q3
      split at q3
      · next n xs hm =>
        obtain ⟨a, us, rfl, ha, hl, hH, hr⟩ := w3.mutL (x3.rep r2) hm
        split at q3
        · next j hj =>
          obtain ⟨w4, x4⟩ := w3.putL ha hl (reps_set (x3.rep (x2.rep r1)) j hr)
          exact ⟨a, us, k, j, rfl, rep_int.mp r3, hH, by rw [← repsLen hr]; exact hj, q3 σ _ _ _ x4 w4 (e3.ext x4)⟩
        · exact q3.elim
      · exact q3.elim
    | _ => exact q3.elim
end

/-! ### instances -/
def fldD (C : Addr) (nm : List Str) (i : Nat) (o : D) (h : Hx) : R D := match o with
  | .ref n => match h[n]? with
    | some (.ins C' nm' ds) => if C' = C ∧ nm' = nm then (match ds[i]? with
      | some d => .ok d h
      | none => .no) else .no
    | _ => .no
  | _ => .no
theorem lookup_zip {α : Type} : ∀ {ns : List Str} {vs : List α} {i : Nat} {f : Str} {v : α}, ns.Nodup → ns[i]? = some f → vs[i]? = some v → (ns.zip vs).lookup f = some v
  | [], _, _, _, _, _, h, _ => by simp at h
  | _ :: _, [], _, _, _, _, _, h => by simp at h
  | n :: ns, u :: vs, 0, f, v, _, h1, h2 => by
    simp at h1 h2
    subst h1 h2
    simp [List.lookup]
  | n :: ns, u :: vs, i + 1, f, v, nd, h1, h2 => by
    have hn : (f == n) = false := by
      rw [beq_eq_false_iff_ne]
      intro e
      subst e
      exact (List.nodup_cons.mp nd).1 (List.mem_of_getElem? (by simpa using h1))
    show (List.lookup f ((n, u) :: ns.zip vs)) = some v
    unfold List.lookup
    rw [hn]
    exact lookup_zip (List.nodup_cons.mp nd).2 (by simpa using h1) (by simpa using h2)
theorem zip_of {α β : Type} : ∀ {ws : List (α × β)}, (ws.map (·.1)).zip (ws.map (·.2)) = ws
  | [] => rfl
  | w :: ws => by rw [List.map_cons, List.map_cons, List.zip_cons_cons, zip_of]
/-- what an instance's attribute holds -/
theorem ins_look {K : PySem.W.Frag} {F : Hp} {ρ : List Addr} {nm : List Str} {ds : List D} {ws : List (Str × V)} {i : Nat} {f : Str} {d : D} (nd : nm.Nodup) (h1 : ws.map (·.1) = nm.take ds.length) (hr : Reps K F ρ ds (ws.map (·.2))) (hf : nm[i]? = some f) (hd : ds[i]? = some d) :
    ∃ v, ws.lookup f = some v ∧ Rep K F ρ d v := by
  obtain ⟨v, hv, r⟩ := repsGet hr hd
  refine ⟨v, ?_, r⟩
  have := lookup_zip (ns := ws.map (·.1)) (vs := ws.map (·.2)) (i := i) (f := f) (v := v) (by rw [h1]; exact nd.sublist (List.take_sublist _ _)) (by rw [h1, List.getElem?_take_of_lt (List.getElem?_eq_some_iff.mp hd).1]; exact hf) hv
  rwa [zip_of] at this
def putD (C : Addr) (nm : List Str) (i : Nat) (o v : D) (h : Hx) : Option Hx := match o with
  | .ref n => match h[n]? with
    | some (.ins C' nm' ds) => if C' = C ∧ nm' = nm then (if i < ds.length then some (h.set n (.ins C nm (ds.set i v))) else if i = ds.length then some (h.set n (.ins C nm (ds ++ [v]))) else none) else none
    | _ => none
  | _ => none
def rFld (C : Addr) (nm : List Str) (i : Nat) (ro : En → Hx → R D) : En → Hx → R D := fun c h => (ro c h).bind fun o h1 => fldD C nm i o h1
def sFldD (C : Addr) (nm : List Str) (i : Nat) (ro re : En → Hx → R D) : En → Hx → SR := fun c h => (re c h).toS c fun d h1 => (ro c h1).toS c fun o h2 => match putD C nm i o d h2 with
  | some h3 => .nx c h3
  | none => .no
/-- putF on a row of names without doubles -/
theorem putF_at {f : Str} {v : V} : ∀ {ws : List (Str × V)} {i : Nat}, (ws.map (·.1)).Nodup → (ws.map (·.1))[i]? = some f → (putF f v ws).map (·.1) = ws.map (·.1) ∧ (putF f v ws).map (·.2) = (ws.map (·.2)).set i v
  | [], _, _, h => by simp at h
  | (g, x) :: ws, 0, _, h => by
    simp at h
    subst h
    unfold putF
    rw [if_pos rfl]
    exact ⟨rfl, rfl⟩
  | (g, x) :: ws, i + 1, nd, h => by
    have nd := List.nodup_cons.mp nd
    have ne : ¬ g = f := fun e => nd.1 (by rw [e]; exact List.mem_of_getElem? (by simpa using h))
    obtain ⟨e1, e2⟩ := putF_at (v := v) (i := i) nd.2 (by simpa using h)
    unfold putF
    rw [if_neg ne]
    exact ⟨by rw [List.map_cons, e1] <;> rfl, by rw [List.map_cons, e2] <;> rfl⟩
theorem putF_new {f : Str} {v : V} : ∀ {ws : List (Str × V)}, f ∉ ws.map (·.1) → putF f v ws = ws ++ [(f, v)]
  | [], _ => rfl
  | (g, x) :: ws, h => by
    have ne : ¬ g = f := fun e => h (by rw [e]; exact List.mem_cons_self)
    unfold putF
    rw [if_neg ne, putF_new fun m => h (List.mem_cons_of_mem _ m)]
    rfl
section
variable {X : Cx} {XW : L2.St → XK} {o e : Expr} {f : Str} {pos pos' : Pos} {ro re : En → Hx → R D}
theorem e_fld (C : Addr) (nm : List Str) (i : Nat) (hC : Cls X.K C) (hn : NoAttr X.K C f) (nd : nm.Nodup) (hf : nm[i]? = some f) (ho : EE X XW o ro) (hb : attributeBase o f X.env (eval o X.env) = eval o X.env := by rfl) : EE X XW (.Attribute o f pos) (rFld C nm i ro) :=
  iE (pe_fld ho hb) fun σ H Q ⟨F, ρ, c, h, w, ev, q⟩ => tG_bind w ev q fun x h1 v F1 ρ1 H1 x1 w1 r1 e1 q1 => by
    unfold fldD at q1
    split at q1
    · next n =>
      split at q1
      · next C' nm' ds hl =>
        by_cases z : C' = C ∧ nm' = nm
        · rw [if_pos z] at q1
          obtain ⟨rfl, rfl⟩ := z
          split at q1
          · next d hd =>
            obtain ⟨a, rfl, ha⟩ := rep_ref.mp r1
            obtain ⟨_, dx, ws, hH, hk, hle, hr⟩ := w1.ok n a _ ha hl
            obtain ⟨u, hu, r⟩ := ins_look nd hk hr hf hd
            exact ⟨a, C', dx, ws, u, rfl, hH, hC, hn, hu, q1 u F1 ρ1 H1 .refl w1 r⟩
          · exact q1.elim
        · rw [if_neg z] at q1; exact q1.elim
      · exact q1.elim
    · exact q1.elim
theorem s_fld (C : Addr) (nm : List Str) (i : Nat) (hC : Cls X.K C) (hn : NoAttr X.K C f) (nd : nm.Nodup) (hf : nm[i]? = some f) (hl1 : nm.length < 1000) (ho : EE X XW o ro) (he : EE X XW e re) (hs : swapsWith e (some (.Attribute o f pos')) pos.line X.env = pure false := by rfl) :
    ES X XW (.Assign [.Attribute o f pos'] e pos) (sFldD C nm i ro re) :=
  iS (ps_fld ho he hs) fun T σ H ⟨F, ρ, c, h, w, ev, q⟩ => tG_toS w ev q fun d h1 v F1 ρ1 H1 x1 w1 r1 e1 q1 => tG_toS w1 e1 q1 fun x h2 ov F2 ρ2 H2 x2 w2 r2 e2 q2 => by
    cases zp : putD C nm i x d h2 with
    | none => rw [zp] at q2; exact q2.elim
    | some h3 =>
      rw [zp] at q2
      dsimp only at q2
      unfold putD at zp
      split at zp
      · next n =>
        split at zp
        · next C' nm' ds hl =>
          by_cases z : C' = C ∧ nm' = nm
          · rw [if_pos z] at zp
            obtain ⟨rfl, rfl⟩ := z
            obtain ⟨a, rfl, ha⟩ := rep_ref.mp r2
            obtain ⟨hF, dx, ws, hH, hk, hle, hr⟩ := w2.ok n a _ ha hl
            have lw : ws.length = ds.length := by
              have := repsLen hr
              rw [List.length_map] at this; exact this.symm
            have ndw : (ws.map (·.1)).Nodup := by rw [hk]; exact nd.sublist (List.take_sublist _ _)
            refine ⟨a, C', dx, ws, rfl, hH, hC, hn, by omega, ?_⟩
            by_cases z1 : i < ds.length
            · rw [if_pos z1] at zp
              cases zp
              obtain ⟨p1, p2⟩ := putF_at (f := f) (v := v) (i := i) ndw (by rw [hk, List.getElem?_take_of_lt z1]; exact hf)
              obtain ⟨w4, x4⟩ := w2.write (o := .ins C' dx (putF f v ws)) (m' := .ins C' nm' (ds.set i d)) ha hl (by intro z; cases z) ⟨hF, dx, _, upd_same, by rw [p1, hk, List.length_set], by rw [List.length_set]; exact hle, by rw [p2]; exact reps_set (x2.rep r1) i hr⟩
              exact q2 σ _ _ _ x4 w4 (e2.ext x4)
            · rw [if_neg z1] at zp
              by_cases z2 : i = ds.length
              · rw [if_pos z2] at zp
                cases zp
                have hi : i < nm'.length := (List.getElem?_eq_some_iff.mp hf).1
                have nf : f ∉ ws.map (·.1) := fun m => by
                  rw [hk] at m
                  obtain ⟨j, hj, ej⟩ := List.mem_iff_getElem.mp m
                  rw [List.length_take] at hj
                  have e3 : nm'[j]? = some f := by
                    rw [← ej, List.getElem_take]
                    exact List.getElem?_eq_getElem (by omega)
                  obtain ⟨h5, e5⟩ := List.getElem?_eq_some_iff.mp e3
                  obtain ⟨h6, e6⟩ := List.getElem?_eq_some_iff.mp hf
                  have := (List.getElem_inj nd).mp (e5.trans e6.symm)
                  omega
                have pn := putF_new (v := v) nf
                obtain ⟨w4, x4⟩ := w2.write (o := .ins C' dx (putF f v ws)) (m' := .ins C' nm' (ds ++ [d])) ha hl (by intro z; cases z) ⟨hF, dx, _, upd_same, by
                  rw [pn, List.map_append, hk, List.length_append, List.length_singleton]
                  rw [show ds.length + 1 = i + 1 by omega, List.take_add_one, hf, z2] <;> rfl, by rw [List.length_append, List.length_singleton]; omega, by
                  rw [pn, List.map_append]
                  exact reps_app hr (reps_cons.mpr ⟨_, _, rfl, x2.rep r1, reps_nil.mpr rfl⟩)⟩
                exact q2 σ _ _ _ x4 w4 (e2.ext x4)
              · rw [if_neg z2] at zp; cases zp
          · rw [if_neg z] at zp; cases zp
        · cases zp
      · cases zp
end

/-! ### methods of own classes; instances made -/
def rMeth (C : Addr) (nm : List Str) (m : Str) (g : List D → Hx → R D) (ro : En → Hx → R D) (s : En → Hx → R (List D)) : En → Hx → R D := fun c h => (ro c h).bind fun o h1 => match o with
  | .ref n => (match h1[n]? with
    | some (.ins C' nm' _) => if C' = C ∧ nm' = nm then (s c h1).bind fun ds h2 => g (o :: ds) h2 else .no
    | _ => .no)
  | _ => .no
theorem lookup_none {α : Type} {f : Str} : ∀ {ws : List (Str × α)}, f ∉ ws.map (·.1) → ws.lookup f = none
  | [], _ => rfl
  | (g, x) :: ws, h => by
    have hn : (f == g) = false := by
      rw [beq_eq_false_iff_ne]
      intro e
      exact h (by rw [e]; exact List.mem_cons_self)
    unfold List.lookup
    rw [hn]
    exact lookup_none fun m => h (List.mem_cons_of_mem _ m)
section
variable {X : Cx} {XW : L2.St → XK} {k l : Nat} {f C : Addr} {fd : FuncData} {ps : List Str} {g : List D → Hx → R D} {x m : Str} {p pos apos : Pos} {e o : Expr} {es : List Expr} {ro : En → Hx → R D} {s : En → Hx → R (List D)}
/-- what a call of a def asks, at the slots -/
theorem run_sp {pins : List (Addr × Obj)} {σ : L2.St} {H : Hp} {t : Shared} {Q : VK} {us : List Value} {vs : List V} {ds : List D} {F : Hp} {ρ : List Addr} {h : Hx} (C : Cxt X XW l) (hk : k ≤ l) (G : FnOk X.prog X.w X.K X.mg X.base (L2.CX X.prog X.w) k f fd ps (spOf X.K g)) (hb : Binds X.K fd ps [])
    (I : L2.Inv X pins σ H t) (r : Vals vs us) (w : Wd X.K F ρ h H) (rr : Reps X.K F ρ ds vs) (q : Fin (Rep X.K) X.K (XW σ) F ρ h H (g ds h) Q) : wpAny (model X.prog X.w) X.A (call (.ref f) us) (EP X pins σ Q) X.xe t :=
  run_fnSD (E := XW) (dvs := []) (ds := []) G (C.room.mono hk) hb .nil (C.pass σ) I r (by rw [List.append_nil]; exact ⟨F, ρ, ds, h, w, rr, q⟩)
theorem e_meth {pl : Sem Bool} (nm : List Str) (Cc : Cxt X XW l) (hk : k ≤ l) (hC : Cls X.K C) (hm : Meth X.K C m f) (hmn : m ∉ nm) (G : FnOk X.prog X.w X.K X.mg X.base (L2.CX X.prog X.w) k f fd ps (spOf X.K g)) (hb : Binds X.K fd ps []) (ho : EE X XW o ro) (ha : EA X XW (e :: es) s)
    (hst : starEach (e :: es) X.env = (false, eval e X.env) :: starEach es X.env := by rfl) (hpl : (backTo pos (starEach es X.env)).any (·.1) = false := by rfl)
    (ht : eval (.Call (.Attribute o m apos) (e :: es) [] pos) X.env = (do
      let ov ← eval o X.env
      standAt apos.atName
      let (f, first) ← holding [ov] (getMethod ov m pl)
      callWith pos f first (backTo pos (starEach (e :: es) X.env)) (backToKw pos (keywordEach [] X.env))) := by rfl) :
    EE X XW (.Call (.Attribute o m apos) (e :: es) [] pos) (rMeth C nm m g ro s) := by
  refine ⟨fun pins t σ H Q I ⟨F, ρ, c, h, w, ev, q⟩ => ?_⟩
  have step := tG_bind (rel := Rep X.K) (ra := ro) (Q' := fun v H1 => ∃ a dx fs, v = V.ref a ∧ H1 a = some (.ins C dx fs) ∧ fs.lookup m = none ∧ ∃ n F1 ρ1 h1 c1, Wd X.K F1 ρ1 h1 H1 ∧ EnvR X.K F1 ρ1 c1 σ ∧ Rep X.K F1 ρ1 (.ref n) (.ref a) ∧ Fin (Rep X.K) X.K (XW σ) F1 ρ1 h1 H1 ((s c1 h1).bind fun ds h2 => g (.ref n :: ds) h2) Q) w ev q fun x h1 v F1 ρ1 H1 x1 w1 r1 e1 q1 => by
    split at q1
    · next n =>
      split at q1
      · next C' nm' ds hl =>
        by_cases z : C' = C ∧ nm' = nm
        · rw [if_pos z] at q1
          obtain ⟨rfl, rfl⟩ := z
          obtain ⟨a, rfl, ha⟩ := rep_ref.mp r1
          obtain ⟨_, dx, ws, hH, hk, hle, hr⟩ := w1.ok n a _ ha hl
          exact ⟨a, dx, ws, rfl, hH, lookup_none (by rw [hk]; exact fun z => hmn (List.mem_of_mem_take z)), n, F1, ρ1, h1, c, w1, e1, r1, q1⟩
        · rw [if_neg z] at q1; exact q1.elim
      · exact q1.elim
    · exact q1.elim
  refine PySem.W.methodCall_KW (pl := pl) (thn (ho.run pins t σ H _ I step) fun u s1 ⟨v, H1, I1, rx, a, dx, fs, ex, ea, hlk, n, F1, ρ1, h1, c1, w1, e1, rn, q1⟩ => ?_) ht
  subst ex
  obtain rfl : u = Value.ref a := rx
  refine getmeth_ok I1 ea hC hm hlk ?_
  have args := tG_bind (rel := Reps X.K) (ra := s) (Q' := fun vs H2 => ∃ ds F2 ρ2 h2, Wd X.K F2 ρ2 h2 H2 ∧ Reps X.K F2 ρ2 (.ref n :: ds) (.ref a :: vs) ∧ Fin (Rep X.K) X.K (XW σ) F2 ρ2 h2 H2 (g (.ref n :: ds) h2) Q) w1 e1 q1 fun ds h2 vs F2 ρ2 H2 x2 w2 r2 e2 q2 => ⟨ds, F2, ρ2, h2, w2, reps_cons.mpr ⟨_, _, rfl, x2.rep rn, r2⟩, q2⟩
  refine PySem.W.callWith_K (first := [.ref a]) (h₀ := X.base) I.ok.mod.kin hm.kp (thn (ha.run pos pins s1 σ H1 _ I1 args) fun us s2 ⟨vs, H2, I2, r, ds, F2, ρ2, h2, w2, rr, q2⟩ => ⟨I2.kIn, ?_⟩) hst hpl
  exact run_sp (us := .ref a :: us) (vs := .ref a :: vs) Cc hk G hb I2 (.cons rfl r) w2 rr q2
theorem e_meth0 {pl : Sem Bool} (nm : List Str) (Cc : Cxt X XW l) (hk : k ≤ l) (hC : Cls X.K C) (hm : Meth X.K C m f) (hmn : m ∉ nm) (G : FnOk X.prog X.w X.K X.mg X.base (L2.CX X.prog X.w) k f fd ps (spOf X.K g)) (hb : Binds X.K fd ps []) (ho : EE X XW o ro)
    (ht : eval (.Call (.Attribute o m apos) [] [] pos) X.env = (do
      let ov ← eval o X.env
      standAt apos.atName
      let (f, first) ← holding [ov] (getMethod ov m pl)
      callWith pos f first (backTo pos (starEach [] X.env)) (backToKw pos (keywordEach [] X.env))) := by rfl) :
    EE X XW (.Call (.Attribute o m apos) [] [] pos) (rMeth C nm m g ro aNil) := by
  refine ⟨fun pins t σ H Q I ⟨F, ρ, c, h, w, ev, q⟩ => ?_⟩
  have step := tG_bind (rel := Rep X.K) (ra := ro) (Q' := fun v H1 => ∃ a dx fs, v = V.ref a ∧ H1 a = some (.ins C dx fs) ∧ fs.lookup m = none ∧ ∃ n F1 ρ1 h1, Wd X.K F1 ρ1 h1 H1 ∧ Reps X.K F1 ρ1 [.ref n] [.ref a] ∧ Fin (Rep X.K) X.K (XW σ) F1 ρ1 h1 H1 (g [.ref n] h1) Q) w ev q fun x h1 v F1 ρ1 H1 x1 w1 r1 e1 q1 => by
    split at q1
    · next n =>
      split at q1
      · next C' nm' ds hl =>
        by_cases z : C' = C ∧ nm' = nm
        · rw [if_pos z] at q1
          obtain ⟨rfl, rfl⟩ := z
          obtain ⟨a, rfl, ha⟩ := rep_ref.mp r1
          obtain ⟨_, dx, ws, hH, hk, hle, hr⟩ := w1.ok n a _ ha hl
          exact ⟨a, dx, ws, rfl, hH, lookup_none (by rw [hk]; exact fun z => hmn (List.mem_of_mem_take z)), n, F1, ρ1, h1, w1, reps_cons.mpr ⟨_, _, rfl, r1, reps_nil.mpr rfl⟩, q1⟩
        · rw [if_neg z] at q1; exact q1.elim
      · exact q1.elim
    · exact q1.elim
  refine PySem.W.methodCall_KW (pl := pl) (thn (ho.run pins t σ H _ I step) fun u s1 ⟨v, H1, I1, rx, a, dx, fs, ex, ea, hlk, n, F1, ρ1, h1, w1, rr, q1⟩ => ?_) ht
  subst ex
  obtain rfl : u = Value.ref a := rx
  refine getmeth_ok I1 ea hC hm hlk ?_
  exact PySem.W.callWith_K0 (first := [.ref a]) I1.kIn hm.kp (run_sp (us := [.ref a]) (vs := [.ref a]) Cc hk G hb I1 (.cons rfl .nil) w1 rr q1)
end
end PV
namespace PV
open PySem PySem.Spec PyProof.Rows L2

/-! ### instances made -/
theorem Ext.other {K : PySem.W.Frag} {F : Hp} {ρ : List Addr} {h : Hx} {H : Hp} (w : Wd K F ρ h H) {p : Addr} {o : HO} (np : H p = none) : Ext F ρ h H F ρ h (upd H p o) :=
  ⟨Sub.refl F, ⟨[], by simp⟩, fun b u e _ => by rw [upd_ne (ne_of_none e np)]; exact e, fun b m n => absurd m n, fun a e _ _ => e, fun i a e g => ⟨upd_ne (ne_mem e (w.out np)), g⟩⟩
def rMake (C : Addr) (nm : List Str) (g : List D → Hx → R D) (s : En → Hx → R (List D)) : En → Hx → R D := fun c h => (s c h).bind fun ds h1 => match g (.ref h1.length :: ds) (h1 ++ [.ins C nm []]) with
  | .ok .non h2 => .ok (.ref h1.length) h2
  | _ => .no
section
variable {X : Cx} {XW : L2.St → XK} {k l : Nat} {f C : Addr} {fd : FuncData} {ps : List Str} {g : List D → Hx → R D} {x : Str} {p pos : Pos} {e : Expr} {es : List Expr} {s : En → Hx → R (List D)}
theorem make_red {K : PySem.W.Frag} {nm : List Str} : ∀ σ H Q, tG (Rep K) K XW (rMake C nm g s) σ H Q → tMake C (spOf K g) [] E0 (tG (Reps K) K XW s) σ H Q := fun σ H Q ⟨F, ρ, c, h, w, ev, q⟩ =>
  tG_bind w ev q fun ds h1 vs F1 ρ1 H1 x1 w1 r1 e1 q1 x dx nx ndx ne => by
    have w2 := w1.other (o := .own x) (w1.fnone ndx) (w1.out ndx)
    have y2 := Ext.other (o := .own x) w1 ndx
    have nx2 : upd H1 dx (.own x) x = none := by rw [upd_ne (Ne.symm ne)]; exact nx
    obtain ⟨w3, y3⟩ := w2.fresh (o := .ins C dx []) (m := .ins C nm []) nx2 ⟨w2.fnone nx2, dx, [], upd_same, by simp, Nat.zero_le _, reps_nil.mpr rfl⟩
    have y13 := y2.trans y3
    rw [List.append_nil]
    have rx : Rep K F1 (ρ1 ++ [x]) (.ref h1.length) (.ref x) := rep_ref.mpr ⟨x, rfl, by rw [List.getElem?_append_right (by rw [w1.len]; exact Nat.le_refl _), w1.len]; simp⟩
    refine ⟨F1, ρ1 ++ [x], .ref h1.length :: ds, _, w3, reps_cons.mpr ⟨_, _, rfl, rx, y13.reps r1⟩, ?_⟩
    cases z : g (.ref h1.length :: ds) (h1 ++ [.ins C nm []]) with
    | no => rw [z] at q1; exact q1
    | ex => rw [z] at q1; exact q1.elim
    | ok d h2 =>
      rw [z] at q1
      cases d with
      | non => exact fun v F' ρ' H' x' w' r' => ⟨rep_non.mp r', q1 _ F' ρ' H' (y13.trans x') w' (x'.rep rx)⟩
      | _ => exact q1.elim
theorem e_make (nm : List Str) (Cc : Cxt X XW l) (hk : k + 1 ≤ l) (M : Mk X.K C f) (G : FnOk X.prog X.w X.K X.mg X.base (L2.CX X.prog X.w) k f fd ps (spOf X.K g)) (hb : Binds X.K fd ps []) (hm : X.mg x = some (.ref C)) (hg : Gl X x) (ha : EA X XW (e :: es) s) (hdb : (x == ("__debug__" : Str)) = false := by decide)
    (he : starEach (e :: es) X.env = (false, eval e X.env) :: starEach es X.env := by rfl) (hpl : (backTo pos (starEach es X.env)).any (·.1) = false := by rfl) : EE X XW (.Call (.Name x p) (e :: es) [] pos) (rMake C nm g s) :=
  iE (pe_make (dvs := []) (ds := []) M G (Cc.room.mono hk) hg hm hb .nil passL ha hdb he hpl) make_red
theorem e_make0 (nm : List Str) (Cc : Cxt X XW l) (hk : k + 1 ≤ l) (M : Mk X.K C f) (G : FnOk X.prog X.w X.K X.mg X.base (L2.CX X.prog X.w) k f fd ps (spOf X.K g)) (hb : Binds X.K fd ps []) (hm : X.mg x = some (.ref C)) (hg : Gl X x) (hdb : (x == ("__debug__" : Str)) = false := by decide) : EE X XW (.Call (.Name x p) [] [] pos) (rMake C nm g aNil) :=
  iE (pe_make0 (dvs := []) (ds := []) M G (Cc.room.mono hk) hg hm hb .nil passL hdb) fun σ H Q q => by
    have := make_red (s := aNil) σ H Q q
    obtain ⟨F, ρ, c, h, w, ev, q⟩ := this
    exact q [] F ρ H .refl w (reps_nil.mpr rfl)
end

/-! ### dicts whose keys are ints, texts -/
def keyOf : D → Option Key
  | .int i => some (.inl i)
  | .str x => some (.inr x)
  | _ => none
def dval (kvs : List (Key × D)) (k : Key) : Option D := (kvs.find? fun kv => decide (kv.1 = k)).map (·.2)
def dput (kvs : List (Key × D)) (k : Key) (v : D) : List (Key × D) := if (kvs.any fun kv => decide (kv.1 = k)) = true then kvs.map (fun kv => if kv.1 = k then (kv.1, v) else kv) else kvs ++ [(k, v)]
def dicOf (h : Hx) : D → Option (Nat × List (Key × D))
  | .ref n => match h[n]? with
    | some (.dic kvs) => some (n, kvs)
    | _ => none
  | _ => none
section
variable {K : PySem.W.Frag} {F : Hp} {ρ : List Addr} {h : Hx} {H : Hp}
theorem rep_key {d : D} {v : V} {k : Key} (r : Rep K F ρ d v) (e : keyOf d = some k) : v = kV k := by
  cases d with
  | int i => cases e; exact rep_int.mp r
  | str i => cases e; exact rep_str.mp r
  | _ => cases e
theorem Wd.dic (w : Wd K F ρ h H) {d : D} {v : V} {n : Nat} {kvs : List (Key × D)} (r : Rep K F ρ d v) (e : dicOf h d = some (n, kvs)) : ∃ a ws, v = .ref a ∧ ρ[n]? = some a ∧ h[n]? = some (.dic kvs) ∧ H a = some (.dK ws) ∧ kvs.map (·.1) = ws.map (·.1) ∧ Reps K F ρ (kvs.map (·.2)) (ws.map (·.2)) := by
  cases d with
  | ref m =>
    unfold dicOf at e
    dsimp only at e
    split at e
    · next xs hl =>
      cases e
      obtain ⟨a, rfl, ha⟩ := rep_ref.mp r
      obtain ⟨_, ws, hH, hk, hr⟩ := w.ok n a _ ha hl
      exact ⟨a, ws, rfl, ha, hl, hH, hk, hr⟩
    · cases e
  | _ => cases e
theorem valV_of {k : Key} : ∀ {kvs : List (Key × D)} {ws : List (Key × V)}, kvs.map (·.1) = ws.map (·.1) → Reps K F ρ (kvs.map (·.2)) (ws.map (·.2)) → (dval kvs k = none → valV ws k = none) ∧ ∀ d, dval kvs k = some d → ∃ v, valV ws k = some v ∧ Rep K F ρ d v
  | [], [], _, _ => ⟨fun _ => rfl, fun d e => by cases e⟩
  | [], _ :: _, h, _ => by cases h
  | _ :: _, [], h, _ => by cases h
  | (k1, d1) :: kvs, (k2, v2) :: ws, h, r => by
    have hk : k1 = k2 := (List.cons.inj h).1
    obtain ⟨v, rs, e, r1, r2⟩ := reps_cons.mp r
    obtain ⟨e1, e2⟩ := List.cons.inj e
    have e1 : v2 = v := e1
    subst e1 hk
    rw [← e2] at r2
    have ih := valV_of (k := k) (List.cons.inj h).2 r2
    by_cases z : k1 = k
    · have a1 : dval ((k1, d1) :: kvs) k = some d1 := by simp [dval, List.find?_cons, z]
      have a2 : valV ((k1, v2) :: ws) k = some v2 := valV_pos z
      rw [a1, a2]
      refine ⟨fun e => ?_, fun d e => ?_⟩
      · cases e
      · cases e
        exact ⟨v2, rfl, r1⟩
    · have a1 : dval ((k1, d1) :: kvs) k = dval kvs k := by simp [dval, List.find?_cons, z]
      have a2 : valV ((k1, v2) :: ws) k = valV ws k := valV_neg z
      rw [a1, a2]
      exact ih
theorem any_key {k : Key} : ∀ {kvs : List (Key × D)} {ws : List (Key × V)}, kvs.map (·.1) = ws.map (·.1) → (kvs.any fun kv => decide (kv.1 = k)) = (ws.any fun kv => decide (kv.1 = k))
  | [], [], _ => rfl
  | [], _ :: _, h => by cases h
  | _ :: _, [], h => by cases h
  | (k1, d1) :: kvs, (k2, v2) :: ws, h => by
    have hk : k1 = k2 := (List.cons.inj h).1
    subst hk
    rw [List.any_cons, List.any_cons, any_key (List.cons.inj h).2]
theorem putK_of {k : Key} {d : D} {v : V} (r : Rep K F ρ d v) {kvs : List (Key × D)} {ws : List (Key × V)} (h : kvs.map (·.1) = ws.map (·.1)) (rs : Reps K F ρ (kvs.map (·.2)) (ws.map (·.2))) : (dput kvs k d).map (·.1) = (putK ws k v).map (·.1) ∧ Reps K F ρ ((dput kvs k d).map (·.2)) ((putK ws k v).map (·.2)) := by
  unfold dput putK
  rw [any_key h]
  by_cases z : (ws.any fun kv => decide (kv.1 = k)) = true
  · rw [if_pos z, if_pos z]
    clear z
    induction kvs generalizing ws with
    | nil =>
      cases ws with
      | nil => exact ⟨rfl, reps_nil.mpr rfl⟩
      | cons => cases h
    | cons p kvs ih =>
      cases ws with
      | nil => cases h
      | cons q ws =>
        obtain ⟨k1, d1⟩ := p
        obtain ⟨k2, v2⟩ := q
        have hk : k1 = k2 := (List.cons.inj h).1
        obtain ⟨v', rs', e, r1, r2⟩ := reps_cons.mp rs
        obtain ⟨e1, e2⟩ := List.cons.inj e
        have e1 : v2 = v' := e1
        subst e1 hk
        rw [← e2] at r2
        obtain ⟨i1, i2⟩ := ih (List.cons.inj h).2 r2
        by_cases z : k1 = k
        · simp only [List.map_cons, if_pos z]
          exact ⟨by rw [i1], reps_cons.mpr ⟨_, _, rfl, r, i2⟩⟩
        · simp only [List.map_cons, if_neg z]
          exact ⟨by rw [i1], reps_cons.mpr ⟨_, _, rfl, r1, i2⟩⟩
  · rw [if_neg z, if_neg z, List.map_append, List.map_append, List.map_append, List.map_append, h]
    exact ⟨rfl, reps_app rs (reps_cons.mpr ⟨_, _, rfl, r, reps_nil.mpr rfl⟩)⟩
end
def rDGet (rd rk : En → Hx → R D) : En → Hx → R D := fun c h => (rd c h).bind fun x h1 => (rk c h1).bind fun y h2 => match dicOf h2 x, keyOf y with
  | some (_, kvs), some k => (match dval kvs k with
    | some d => .ok d h2
    | none => .no)
  | _, _ => .no
def rDIn (neg : Bool) (rk rd : En → Hx → R D) : En → Hx → R D := fun c h => (rk c h).bind fun y h1 => (rd c h1).bind fun x h2 => match dicOf h2 x, keyOf y with
  | some (_, kvs), some k => .ok (.bl (if neg then !(dval kvs k).isSome else (dval kvs k).isSome)) h2
  | _, _ => .no
def rDGet1 (rd rk : En → Hx → R D) : En → Hx → R D := fun c h => (rd c h).bind fun x h1 => match dicOf h1 x with
  | some _ => (rk c h1).bind fun y h2 => (match dicOf h2 x, keyOf y with
    | some (_, kvs), some k => .ok ((dval kvs k).getD .non) h2
    | _, _ => .no)
  | none => .no
def sDPutD (rd rk rv : En → Hx → R D) : En → Hx → SR := fun c h => (rv c h).toS c fun d h1 => (rd c h1).toS c fun x h2 => (rk c h2).toS c fun y h3 => match dicOf h3 x, keyOf y with
  | some (n, kvs), some k => if kvs.length < 1000000 then .nx c (h3.set n (.dic (dput kvs k d))) else .no
  | _, _ => .no
def rDNew : En → Hx → R D := fun _ h => .ok (.ref h.length) (h ++ [.dic []])
/-- {k: v} -/
def rDOne (rk rv : En → Hx → R D) : En → Hx → R D := fun c h => (rk c h).bind fun y h1 => (rv c h1).bind fun d h2 => match keyOf y with
  | some k => .ok (.ref h2.length) (h2 ++ [.dic [(k, d)]])
  | none => .no
section
variable {X : Cx} {XW : L2.St → XK} {o i e : Expr} {ro ri re : En → Hx → R D} {pos pos' apos cpos : Pos} {l : Nat}
theorem e_dget (C : Cxt X XW l) (ho : EE X XW o ro) (hi : EE X XW i ri) (hs : NoSl i := by exact fun _ _ => rfl) : EE X XW (.Subscript o i pos) (rDGet ro ri) :=
  iE (pe_dget (hu_of C.room) ho hi hs) fun σ H Q ⟨F, ρ, c, h, w, ev, q⟩ => tG_bind w ev q fun x h1 v F1 ρ1 H1 x1 w1 r1 e1 q1 => tG_bind w1 e1 q1 fun y h2 u F2 ρ2 H2 x2 w2 r2 e2 q2 => by
    split at q2
    · next n kvs k hd hk =>
      obtain ⟨a, ws, rfl, ha, hl, hH, hk2, hr⟩ := w2.dic (x2.rep r1) hd
      rw [rep_key r2 hk]
      cases z : dval kvs k with
      | none => rw [z] at q2; exact q2.elim
      | some d =>
        rw [z] at q2
        obtain ⟨vv, hv, rv⟩ := (valV_of (k := k) hk2 hr).2 d z
        exact ⟨a, vv, rfl, .inl ⟨ws, k, .inl hH, rfl, hv.symm⟩, q2 vv F2 ρ2 H2 .refl w2 rv⟩
    · exact q2.elim
theorem some_of {K : PySem.W.Frag} {F : Hp} {ρ : List Addr} {k : Key} {kvs : List (Key × D)} {ws : List (Key × V)} (h : kvs.map (·.1) = ws.map (·.1)) (rs : Reps K F ρ (kvs.map (·.2)) (ws.map (·.2))) : (valV ws k).isSome = (dval kvs k).isSome := by
  cases z : dval kvs k with
  | none => rw [(valV_of (k := k) h rs).1 z]; rfl
  | some d => obtain ⟨v, hv, _⟩ := (valV_of (k := k) h rs).2 d z; rw [hv]; rfl
theorem din_red {K : PySem.W.Frag} : ∀ σ H Q, tG (Rep K) K XW (rDIn false ri ro) σ H Q → tDIn (tG (Rep K) K XW ri) (tG (Rep K) K XW ro) σ H Q := fun σ H Q ⟨F, ρ, c, h, w, ev, q⟩ => tG_bind w ev q fun y h1 u F1 ρ1 H1 x1 w1 r1 e1 q1 => tG_bind w1 e1 q1 fun x h2 v F2 ρ2 H2 x2 w2 r2 e2 q2 => by
    split at q2
    · next n kvs k hd hk =>
      obtain ⟨a, ws, rfl, ha, hl, hH, hk2, hr⟩ := w2.dic r2 hd
      rw [rep_key r1 hk]
      exact ⟨a, valV ws k, rfl, .inl ⟨ws, k, .inl hH, rfl, rfl⟩, by rw [some_of hk2 hr]; exact q2 _ F2 ρ2 H2 .refl w2 (rep_bl.mpr rfl)⟩
    · exact q2.elim
theorem dnin_red {K : PySem.W.Frag} : ∀ σ H Q, tG (Rep K) K XW (rDIn true ri ro) σ H Q → tDNotIn (tG (Rep K) K XW ri) (tG (Rep K) K XW ro) σ H Q := fun σ H Q ⟨F, ρ, c, h, w, ev, q⟩ => tG_bind w ev q fun y h1 u F1 ρ1 H1 x1 w1 r1 e1 q1 => tG_bind w1 e1 q1 fun x h2 v F2 ρ2 H2 x2 w2 r2 e2 q2 => by
    split at q2
    · next n kvs k hd hk =>
      obtain ⟨a, ws, rfl, ha, hl, hH, hk2, hr⟩ := w2.dic r2 hd
      rw [rep_key r1 hk]
      exact ⟨a, valV ws k, rfl, .inl ⟨ws, k, .inl hH, rfl, rfl⟩, by rw [some_of hk2 hr]; exact q2 _ F2 ρ2 H2 .refl w2 (rep_bl.mpr rfl)⟩
    · exact q2.elim
theorem t_din (C : Cxt X XW l) (hi : EE X XW i ri) (ho : EE X XW o ro) (h1 : behindInMarks .In o = false := by rfl) : ET X XW (.Compare i [.In] [o] pos) (rB (rDIn false ri ro)) := iT (pt_cmp (pc_din (hu_of C.room) hi ho) h1) fun σ H Q q => din_red σ H _ (tB_red σ H Q q)
theorem t_dnin (C : Cxt X XW l) (hi : EE X XW i ri) (ho : EE X XW o ro) (h1 : behindInMarks .NotIn o = false := by rfl) : ET X XW (.Compare i [.NotIn] [o] pos) (rB (rDIn true ri ro)) := iT (pt_cmp (pc_dnotin (hu_of C.room) hi ho) h1) fun σ H Q q => dnin_red σ H _ (tB_red σ H Q q)
theorem e_dget1 (C : Cxt X XW l) (ho : EE X XW o ro) (hi : EE X XW i ri) (m : M1 X o "get" apos i cpos := by exact ⟨rfl, rfl, rfl, rfl⟩) : EE X XW (.Call (.Attribute o "get" apos) [i] [] cpos) (rDGet1 ro ri) :=
  iE (pe_dget1 (hu_of C.room) ho hi m) fun σ H Q ⟨F, ρ, c, h, w, ev, q⟩ => tG_bind w ev q fun x h1 v F1 ρ1 H1 x1 w1 r1 e1 q1 => by
    split at q1
    · next p hd1 =>
      obtain ⟨n1, kvs1⟩ := p
      obtain ⟨a, ws, rfl, ha, hl, hH, hk2, hr⟩ := w1.dic r1 hd1
      refine ⟨a, rfl, .inl ⟨ws, .inl hH⟩, tG_bind w1 e1 q1 fun y h2 u F2 ρ2 H2 x2 w2 r2 e2 q2 => ?_⟩
      split at q2
      · next n kvs k hd hk =>
        obtain ⟨a', ws', ea, ha', hl', hH', hk2', hr'⟩ := w2.dic (x2.rep r1) hd
        cases ea
        rw [rep_key r2 hk]
        refine ⟨valV ws' k, .inl ⟨ws', k, .inl hH', rfl, rfl⟩, ?_⟩
        cases z : dval kvs k with
        | none =>
          rw [z] at q2
          rw [(valV_of (k := k) hk2' hr').1 z]
          exact q2 _ F2 ρ2 H2 .refl w2 (rep_non.mpr rfl)
        | some d =>
          rw [z] at q2
          obtain ⟨vv, hv, rv⟩ := (valV_of (k := k) hk2' hr').2 d z
          rw [hv]
          exact q2 _ F2 ρ2 H2 .refl w2 rv
      · exact q2.elim
    · exact q1.elim
theorem s_dput (C : Cxt X XW l) (ho : EE X XW o ro) (hi : EE X XW i ri) (he : EE X XW e re) (hs : swapsWith e (some (.Subscript o i pos')) pos.line X.env = pure false := by rfl) : ES X XW (.Assign [.Subscript o i pos'] e pos) (sDPutD ro ri re) :=
  iS (ps_dput (hu_of C.room) ho hi he hs) fun T σ H ⟨F, ρ, c, h, w, ev, q⟩ => tG_toS w ev q fun d h1 v F1 ρ1 H1 x1 w1 r1 e1 q1 => tG_toS w1 e1 q1 fun x h2 u F2 ρ2 H2 x2 w2 r2 e2 q2 => tG_toS w2 e2 q2 fun y h3 z F3 ρ3 H3 x3 w3 r3 e3 q3 => by
    split at q3
    · next n kvs k hd hk =>
      obtain ⟨a, ws, rfl, ha, hl, hH, hk2, hr⟩ := w3.dic (x3.rep r2) hd
      by_cases zl : kvs.length < 1000000
      · rw [if_pos zl] at q3
        rw [rep_key r3 hk]
        have lw : ws.length = kvs.length := by
          have := congrArg List.length hk2
          simpa using this.symm
        obtain ⟨p1, p2⟩ := putK_of (k := k) (x3.rep (x2.rep r1)) hk2 hr
        obtain ⟨w4, x4⟩ := w3.write (o := .dK (putK ws k v)) (m' := .dic (dput kvs k d)) ha hl (by intro z; cases z) ⟨((w3.ok n a _ ha hl).live (by intro z; cases z)).1, _, upd_same, p1, p2⟩
        exact ⟨a, _, rfl, .inl ⟨ws, k, hH, rfl, by rw [lw]; exact Nat.lt_of_lt_of_le zl (by decide), rfl⟩, q3 σ _ _ _ x4 w4 (e3.ext x4)⟩
      · rw [if_neg zl] at q3; exact q3.elim
    · exact q3.elim
theorem e_dnew : EE X XW (.Dict [] [] pos) rDNew := iE pe_dnewK fun σ H Q ⟨F, ρ, c, h, w, ev, q⟩ => fun p np => by
  obtain ⟨w2, x2⟩ := w.fresh (o := .dK []) (m := .dic []) np ⟨w.fnone np, [], upd_same, rfl, reps_nil.mpr rfl⟩
  exact q _ _ _ _ x2 w2 (rep_ref.mpr ⟨p, rfl, by rw [List.getElem?_append_right (by rw [w.len]; exact Nat.le_refl _), w.len]; simp⟩)
/-- {k: v}: the dict is there, empty, while key and value are reckoned -/
theorem upd_del2 {H : Hp} {p : Addr} {o : HO} : upd (del H p) p o = upd H p o := by
  funext b
  by_cases z : b = p
  · subst z; rw [upd_same, upd_same]
  · rw [upd_ne z, upd_ne z, del_ne z]
theorem e_done (hi : EE X XW i ri) (he : EE X XW e re) : EE X XW (.Dict [some i] [e] pos) (rDOne ri re) :=
  iE (pe_disp (pps_cons hi he pps_nil) rfl rfl (fun z => by cases z) (by show 1 ≤ 15; decide)) fun σ H Q ⟨F, ρ, c, h, w, ev, q⟩ => fun p np => by
    have w0 := w.other (o := .dK []) (w.fnone np) (w.out np)
    have y0 := Ext.other (o := .dK []) w np
    have dd : del (upd H p (.dK [])) p = H := del_upd np
    unfold rDOne at q
    refine ⟨F, ρ, c, h, w0, ev.ext y0, ?_⟩
    cases zi : ri c h with
    | no => rw [zi] at q; exact q
    | ex x h1 => rw [zi] at q; exact fun F1 ρ1 H1 x1 w1 => q F1 ρ1 H1 (y0.trans x1) w1
    | ok y h1 =>
      rw [zi] at q
      dsimp only [bind_ok] at q
      intro u F1 ρ1 H1 x1 w1 r1
      refine ⟨F1, ρ1, c, h1, w1, (ev.ext y0).ext x1, ?_⟩
      cases ze : re c h1 with
      | no => rw [ze] at q; exact q
      | ex x h2 => rw [ze] at q; exact fun F2 ρ2 H2 x2 w2 => q F2 ρ2 H2 (y0.trans (x1.trans x2)) w2
      | ok d h2 =>
        rw [ze] at q
        dsimp only [bind_ok] at q
        intro v F2 ρ2 H2 x2 w2 r2
        have x02 := x1.trans x2
        obtain ⟨f2, n2, hp2, xd⟩ := x02.del upd_same (w.out np) (w.fnone np)
        rw [dd] at xd
        refine ⟨hp2, ?_⟩
        cases hk : keyOf y with
        | none => rw [hk] at q; exact q.elim
        | some k =>
          rw [hk] at q
          refine ⟨[(k, v)], by rw [rep_key r1 hk] <;> rfl, by show 1 ≤ 15; decide, ?_⟩
          have wd := w2.del f2 n2
          obtain ⟨w3, x3⟩ := wd.fresh (p := p) del_same (o := .dK [(k, v)]) (m := .dic [(k, d)]) ⟨f2, [(k, v)], upd_same, rfl, by have := Reps.mono (t := [p]) (Sub.refl F2) (reps_cons.mpr ⟨v, [], rfl, r2, reps_nil.mpr rfl⟩); exact this⟩
          rw [upd_del2] at w3 x3
          exact q (.ref p) F2 _ _ (xd.trans x3) w3 (rep_ref.mpr ⟨p, rfl, by rw [List.getElem?_append_right (by rw [wd.len]; exact Nat.le_refl _), wd.len]; simp⟩)
end
end PV
/-! ### set(xs) of a list of ints, as sorted wants it (after the way of the tuple's) -/
namespace PVM
open PySem PySem.Spec PyProof.Rows L2
section
variable {P : Program} {w : World} {A : Around} {E : Value → Shared → Prop} {s : Shared}
abbrev sO (w : World) : Obj := { cls := .type "set", dict := none, data := .set #[] 0 (.fresh 0 0 (!w.params.followText "set-order")) }
set_option maxHeartbeats 3200000 in
theorem set_of_list {l : Addr} {xs : Array Value} (ms : List Int) {Q : Value → Shared → Prop} (quiet : A.handled = none) (isl : s.heap.IsList l xs) (ia : IntsAre xs.toList ms) (bd : ms.length + 1 < scanBound)
    (fin : ∀ (g : Heap) (tk n : Nat), SetR w g s.heap.objs.size (fun j => decide (j ∈ ms)) n → n ≤ ms.length → (∀ b o, s.heap.get? b = some o → g.get? b = some o) → Q (.ref s.heap.objs.size) { s with heap := g, toks := tk }) :
    wpAny (model P w) A (call (.type "set") [.ref l]) Q E s := by
  have sz : xs.size = ms.length := by have q := IntsAre.length ia; rw [Array.length_toList] at q; exact q
  obtain ⟨_, _, mro⟩ := F.called_set.mro; have mk := F.called_set.made; have sb := F.called_set.sub
  apply wpAny_call; apply codeAny_of_tree; show wpAny _ _ (callAny (.type "set") _) _ _ _
  apply wpAny_pure; refine ⟨Code.quiet_builtin _ (by decide +kernel), codeAny_builtin F.entry_type_call ?_⟩; rw [Around.under_plain (weight_type_call_type "set" [.ref l] []) rfl]
  have k1 := F.called_set.notType; have k2 := F.called_set.canCreate; have k3 := F.typeCall_set_1 (.ref l)
  repeat (any_goals (first | assumption | wp_step))
  refine codeAny_mono (code_set_led1 (.ref l) (E := E) (Q₁ := fun ob s₁ => ob = .ref s.heap.objs.size ∧ s₁ = { s with heap := s.heap.push (sO w) }) ⟨rfl, rfl⟩) fun r t hr => ?_
  cases r with
  | error e => exact hr
  | ok fl =>
    cases fl with
    | ret ob =>
      obtain ⟨rfl, rfl⟩ := hr
      have new : (s.heap.push (sO w)).get? s.heap.objs.size = some (sO w) := Heap.get?_push_size _ rfl
      have nty : Shared.TypeIs { s with heap := s.heap.push (sO w) } (.ref s.heap.objs.size) "set" := ⟨_, new, rfl⟩
      have look := F.called_set.init.lookup; have bnd := F.called_set.init.bind (.ref s.heap.objs.size)
      repeat (any_goals (first | assumption | wp_step))
      refine codeAny_mono (codeAny_call_builtin (R := wants (fun r s₂ => r = .none ∧ ∃ g tk n, s₂ = { s with heap := g, toks := tk } ∧ SetR w g s.heap.objs.size (fun j => decide (j ∈ ms)) n ∧ n ≤ ms.length ∧ (∀ b o, s.heap.get? b = some o → g.get? b = some o)) E) F.called_set.init.plain F.entry_set_init (check_set_init_1 nty ?_)) fun r₂ t₂ hr₂ => ?_
      · obtain ⟨⟨oc, od, odt, os⟩, ho, hc, n0, hd⟩ := isl
        simp only at hc hd
        subst hc; subst hd
        have ho' : (s.heap.push (sO w)).get? l = some { cls := .type "list", dict := od, data := .seq xs n0, slots := os } := Heap.get?_push_of_some _ ho
        have u1 := F.sub_list_set; have u2 := F.sub_list_frozenset; have u3 : (Value.type "list" == Value.type "dict") = false := by decide
        have isl1 : (s.heap.push (sO w)).IsList l xs := ⟨_, ho', rfl, n0, rfl⟩
        unfold Builtin.«set.__init__» noKeywords Builtin.Frozenset.updateFrom; generalize gI : pyIter = PI
        wp_walk
        subst gI
        apply wpAny_pyIter_list isl1; apply wpAny_bind; apply wpAny_runValue
        have lS : l < s.heap.objs.size := Heap.lt_size ho
        have hh3 : A.in1.in1.in1.handled = none := by simp [quiet]
        have pz : (s.heap.push (sO w)).objs.size = s.heap.objs.size + 1 := Heap.size_push ..
        have ne : l ≠ (s.heap.push (sO w)).objs.size := by rw [pz]; exact Nat.ne_of_lt (Nat.lt_succ_of_lt lS)
        have nin : s.heap.objs.size ∉ [(s.heap.push (sO w)).objs.size, l] := by
          rw [pz]; simp only [List.mem_cons, List.not_mem_nil, or_false, not_or]; exact ⟨Nat.ne_of_lt (Nat.lt_succ_self _), Nat.ne_of_gt lS⟩
        have vals : ∀ (i : Nat) (v : Value), xs[i]? = some v → ∃ k t, ms[i]? = some k ∧ v = .int k t := fun i v hv => by
          have hi : i < ms.length := by rw [← sz]; exact (Array.getElem?_eq_some_iff.mp hv).1
          obtain ⟨t, e⟩ := PyProof.Rows.IntsAre.int_at ia i v (by rw [Array.getElem?_toList]; exact hv)
          exact ⟨ms[i], t, List.getElem?_eq_getElem hi, by rw [e, List.getD_eq_getElem?_getD, List.getElem?_eq_getElem hi] <;> rfl⟩
        refine set_update_ints ((Walks.list hh3 _ l ne xs).toS) s.heap.objs.size nin ms sz bd vals (xs.size - 0) 0 _ (by omega) (Nat.zero_le _) ⟨⟨_, Heap.get?_push_size _ rfl, rfl, rfl⟩, (isl1.push _)⟩ ⟨0, Nat.le_refl 0, setR_new_at (Heap.get?_push_of_some _ new)⟩ ?_
        intro s' n' hm hn' hS'
        obtain ⟨g, g2, d', tk', os'⟩ := s'
        obtain rfl : g2 = s.gens := hm.gens
        obtain rfl : d' = s.drawn := hm.drawn
        obtain rfl : os' = s.os := hm.os
        show wpAny _ _ _ _ _ _
        apply wpAny_pure; show wpAny _ _ (ret Value.none) _ _ _
        rw [sz] at hn'
        refine wpAny_pure ⟨rfl, g, tk', n', rfl, hS', hn', fun b o e => ?_⟩
        have lb : b < s.heap.objs.size := Heap.lt_size e
        exact hm.heap b o (by rw [pz]; simp only [List.mem_cons, List.not_mem_nil, or_false, not_or]; exact ⟨Nat.ne_of_lt lb, Nat.ne_of_lt (Nat.lt_succ_of_lt lb)⟩) (Heap.get?_push_of_some _ (Heap.get?_push_of_some _ e))
      · cases r₂ with
        | error e => exact hr₂
        | ok fl₂ =>
          cases fl₂ with
          | ret r =>
            obtain ⟨rfl, g, tk, n, rfl, hS', hn', hk'⟩ := hr₂
            repeat (any_goals (first | assumption | wp_step))
            exact fin _ _ _ hS' hn' hk'
          | _ => exact hr₂.elim
    | _ => exact hr.elim
end
end PVM
namespace PV
open PySem PySem.Spec PyProof.Rows L2
/-! ### sorted(set(xs)) -/
def ddp : List Int → List Int
  | [] => []
  | x :: xs => if x ∈ xs then ddp xs else x :: ddp xs
theorem mem_ddp {x : Int} : ∀ {xs : List Int}, x ∈ ddp xs ↔ x ∈ xs
  | [] => Iff.rfl
  | y :: xs => by
    unfold ddp
    by_cases h : y ∈ xs
    · rw [if_pos h, mem_ddp, List.mem_cons]
      exact ⟨.inr, fun q => q.elim (fun e => e ▸ h) id⟩
    · rw [if_neg h, List.mem_cons, List.mem_cons, mem_ddp]
theorem nodup_ddp : ∀ xs : List Int, (ddp xs).Nodup
  | [] => List.nodup_nil
  | y :: xs => by
    unfold ddp
    by_cases h : y ∈ xs
    · rw [if_pos h]; exact nodup_ddp xs
    · rw [if_neg h]; exact List.nodup_cons.mpr ⟨fun q => h (mem_ddp.mp q), nodup_ddp xs⟩
def srtU (ns : List Int) : List Int := srtI (ddp ns)
theorem mem_srtU {ns : List Int} {k : Int} : k ∈ srtU ns ↔ k ∈ ns := by unfold srtU; rw [(srtI_perm _).mem_iff, mem_ddp]
theorem srtU_pw (ns : List Int) : (srtU ns).Pairwise (· < ·) := lt_of_le_nodup _ (srtI_pw _) ((srtI_perm _).nodup_iff.mpr (nodup_ddp ns))
theorem rise_uniq : ∀ {l m : List Int}, l.Pairwise (· < ·) → m.Pairwise (· < ·) → (∀ k, k ∈ l ↔ k ∈ m) → l = m
  | [], [], _, _, _ => rfl
  | [], y :: m, _, _, h => absurd ((h y).mpr List.mem_cons_self) (by simp)
  | x :: l, [], _, _, h => absurd ((h x).mp List.mem_cons_self) (by simp)
  | x :: l, y :: m, h1, h2, h => by
    have p1 := List.pairwise_cons.mp h1
    have p2 := List.pairwise_cons.mp h2
    have e : x = y := by
      rcases List.mem_cons.mp ((h x).mp List.mem_cons_self) with q | q
      · exact q
      · rcases List.mem_cons.mp ((h y).mpr List.mem_cons_self) with q2 | q2
        · exact q2.symm
        · have := p2.1 x q
          have := p1.1 y q2
          omega
    subst e
    rw [rise_uniq p1.2 p2.2 fun k => ?_]
    constructor
    · intro q
      rcases List.mem_cons.mp ((h k).mp (List.mem_cons_of_mem _ q)) with e | e
      · subst e; have := p1.1 k q; omega
      · exact e
    · intro q
      rcases List.mem_cons.mp ((h k).mpr (List.mem_cons_of_mem _ q)) with e | e
      · subst e; have := p2.1 k q; omega
      · exact e
def fSset (ra : En → Hx → R D) : En → Hx → R (List D) := fun c h => (ra c h).bind fun d h1 => match intsL h1 d with
  | some ns => if ns.length < 63 then .ok ((srtU ns).map D.int) h1 else .no
  | none => .no
def tSset (K : PySem.W.Frag) (ta : TE) : TE := fun σ H Q => ta σ H fun x H1 => ∃ (l : Addr) (ns : List Int), x = .ref l ∧ SqL K H1 l (ns.map V.int) ∧ ns.length < 63 ∧ ∀ p, H1 p = none → Q (.ref p) (upd H1 p (.lst ((srtU ns).map V.int)))
theorem pe_sset {X : Cx} {a : Expr} {ta : TE} {p p2 q pos : Pos} (hc : X.calm = true) (hg : Gl X "sorted") (hm : X.mg "sorted" = none) (hg2 : Gl X "set") (hm2 : X.mg "set" = none) (ha : PE X a ta)
    (na : starEach [a] X.env = (false, eval a X.env) :: starEach [] X.env) : PE X (.Call (.Name "sorted" p) [.Call (.Name "set" p2) [a] [] q] [] pos) (tSset X.K ta) := by
  refine ⟨fun pins s σ H Q I h => ?_⟩
  refine Call_ (ld_blt I hg hm (show bootBuiltins "sorted" = some (.builtin "sorted") by decide +kernel) (PyProof.Rows.callWith_builtin1 (PyProof.Rows.args_cons ?_ rfl) rfl rfl))
  refine Call_ (ld_blt I hg2 hm2 boot_set (PyProof.Rows.callWith_type1 (PyProof.Rows.args_cons (thn (ha.run pins s σ H _ I h) fun v s1 ⟨x, H1, I1, r1, l, ns, ex, hq, hz, q1⟩ => PyProof.Rows.args_nil ?_) na) na rfl))
  subst ex
  cases r1
  obtain ⟨its, r, pl, hz2⟩ := I1.list hq
  have hd := I1.ok.hd hc
  refine PVM.set_of_list ns hd pl.isList (by simpa using ints_of_vals r) (by unfold scanBound; omega) fun g tk n R1 hn k => ?_
  apply PyProof.Rows.args_nil
  have I2 : L2.Inv X pins σ H1 { s1 with heap := g, toks := tk } := I1.kept k
  refine sorted_set R1 hd (by omega) fun s' p' out c ms k2 g2 o2 hp hg' hi hs hmm hl => ?_
  have em : ms = srtU ns := rise_uniq hs (srtU_pw ns) fun j => by rw [hmm j, decide_eq_true_eq, mem_srtU]
  subst em
  have hlen : ((srtU ns).map V.int).length ≤ sizeLine := by rw [List.length_map, hl, sizeLine_eq]; omega
  have fresh : H1 p' = none := I2.hok.fresh hp
  have J : L2.Inv X pins σ (upd H1 p' (.lst ((srtU ns).map V.int))) { ({ s1 with heap := g, toks := tk } : Shared) with heap := s'.heap, gens := s'.gens, drawn := s'.drawn, toks := s'.toks } :=
    I2.call (ch := []) (Un.laid k2 hp fresh) (I2.hok.laid k2 hp ⟨hlen, out.toList, c, vals_of_ints hi, hg'⟩) (by rw [g2]; exact I2.bare) (fun _ z => nomatch z)
  have e : s' = { ({ s1 with heap := g, toks := tk } : Shared) with heap := s'.heap, gens := s'.gens, drawn := s'.drawn, toks := s'.toks } := by
    cases s'; cases s1; cases o2; rfl
  rw [e]
  exact ⟨.ref p', _, J, rfl, q1 p' fresh⟩
theorem f_sset {X : Cx} {XW : L2.St → XK} {a : Expr} {ra : En → Hx → R D} {p p2 q pos : Pos} (hc : X.calm = true) (hm : X.mg "sorted" = none) (hm2 : X.mg "set" = none) (hg : Gl X "sorted") (hg2 : Gl X "set") (ha : EE X XW a ra) (na : starEach [a] X.env = (false, eval a X.env) :: starEach [] X.env := by rfl) :
    EF X XW (.Call (.Name "sorted" p) [.Call (.Name "set" p2) [a] [] q] [] pos) (fSset ra) :=
  iE (pe_sset hc hg hm hg2 hm2 ha na) fun σ H Q ⟨F, ρ, c, h, w, ev, q⟩ => tG_bind w ev (tF_of q) fun x h1 v F1 ρ1 H1 x1 w1 r1 e1 q1 => by
    split at q1
    · next ns hi =>
      obtain ⟨a, rfl, hl⟩ := w1.intsL r1 hi
      by_cases z : ns.length < 63
      · rw [if_pos z] at q1
        exact ⟨a, ns, rfl, hl, z, fun p np => q1 _ F1 ρ1 H1 .refl w1 (reps_of_ints _) p np⟩
      · rw [if_neg z] at q1; exact q1.elim
    · exact q1.elim
end PV
namespace PV
open PySem PySem.Spec PyProof.Rows L2
/-! ### xs[a:b:c] of a list -/
def pickD {α : Type} (xs : List α) (lo hi st : Option Int) : List α := (sliceRange (sliceBounds lo hi st xs.length).1 (sliceBounds lo hi st xs.length).2.1 (sliceBounds lo hi st xs.length).2.2).filterMap (xs[·]?)
def fSl3 (re : En → Hx → R D) (rl rh rs : En → Hx → R (Option Int)) : En → Hx → R (List D) := fun c h => (re c h).bind fun x h1 => (rl c h1).bind fun l h2 => (rh c h2).bind fun u h3 => (rs c h3).bind fun k h4 => match seqL h4 x with
  | some ds => if k ≠ some 0 ∧ ds.length ≤ 1000000 ∧ (pickD ds l u k).length ≤ 1000000 then .ok (pickD ds l u k) h4 else .no
  | none => .no
theorem reps_pick {K : PySem.W.Frag} {F : Hp} {ρ : List Addr} {ds : List D} {vs : List V} (r : Reps K F ρ ds vs) : ∀ ns : List Nat, Reps K F ρ (ns.filterMap (ds[·]?)) (ns.filterMap (vs[·]?))
  | [] => reps_nil.mpr rfl
  | n :: ns => by
    cases z : ds[n]? with
    | none =>
      have z2 : vs[n]? = none := by
        rw [List.getElem?_eq_none_iff] at z ⊢
        rw [← repsLen r]; exact z
      rw [List.filterMap_cons, List.filterMap_cons]
      simp only [z, z2]
      exact reps_pick r ns
    | some d =>
      obtain ⟨v, hv, rv⟩ := repsGet r z
      rw [List.filterMap_cons, List.filterMap_cons]
      simp only [z, hv]
      exact reps_cons.mpr ⟨_, _, rfl, rv, reps_pick r ns⟩
theorem vals_pick {xs : List V} {us : List Value} (r : Vals xs us) : ∀ ns : List Nat, Vals (ns.filterMap (xs[·]?)) (ns.filterMap (us[·]?))
  | [] => .nil
  | n :: ns => by
    cases z : xs[n]? with
    | none =>
      rw [List.filterMap_cons, List.filterMap_cons]
      simp only [z, r.none_of z]
      exact vals_pick r ns
    | some d =>
      obtain ⟨v, hv, rv⟩ := r.get z
      rw [List.filterMap_cons, List.filterMap_cons]
      simp only [z, hv]
      exact .cons rv (vals_pick r ns)
section
variable {X : Cx} {XW : L2.St → XK} {a : Expr} {lo hi st : Option Expr} {ra : En → Hx → R D} {rl rh rs : En → Hx → R (Option Int)} {pos p2 : Pos}
def tSl3 (K : PySem.W.Frag) (te : TE) (tl th ts : TO) : TE := fun σ H Q => te σ H fun x H1 => tl σ H1 fun l H2 => th σ H2 fun u H3 => ts σ H3 fun k H4 => ∃ a xs, x = .ref a ∧ SqL K H4 a xs ∧ k ≠ some 0 ∧ (pickD xs l u k).length ≤ sizeLine ∧ ∀ p, H4 p = none → Q (.ref p) (upd H4 p (.lst (pickD xs l u k)))
theorem pe_slice3 {te : TE} {tl th ts : TO} (hsub : ∀ o i : Value, subscripted (.Slice lo hi st p2) false o i = operate [o, i] (getItem o i)) (he : PE X a te) (hl : PO X lo tl) (hu : PO X hi th) (hk : PO X st ts) : PE X (.Subscript a (.Slice lo hi st p2) pos) (tSl3 X.K te tl th ts) := by
  refine ⟨fun pins s σ H Q I h => ?_⟩
  apply Subscript_; refine thn (he.run pins s σ H _ I h) fun v s1 ⟨x, H1, I1, r1, q1⟩ => ?_
  apply wpAny_Slice; refine thn (hl.run pins s1 σ H1 _ I1 q1) fun vl s2 ⟨l, H2, I2, pl, q2⟩ => thn (hu.run pins s2 σ H2 _ I2 q2) fun vu s3 ⟨u, H3, I3, pu, q3⟩ => thn (hk.run pins s3 σ H3 _ I3 q3) fun vk s4 ⟨k, H4, I4, pk, ad, xs, ex, hx, k0, hz, q4⟩ => ?_
  subst ex
  cases r1
  have J : L2.Inv X pins σ H4 { s4 with heap := s4.heap.push { cls := .type "slice", data := .fields #[vl, vu, vk] } } := I4.kept (t' := s4.toks) fun b ob q => Heap.get?_push_of_some _ q
  obtain ⟨its, r, ht, hz2⟩ := J.list hx
  refine tail_any (ops := [.ref ad, .ref s4.heap.objs.size]) ht.isList.typeIs slot_list_getitem.lookup ?_ (hsub _ _)
  refine wpAny_getItem_list_slice ht.isList (Heap.IsSliceOf.new ..) pl pu pk k0 ?_ (by rw [List.size_toArray, ← r.length]; exact hz2)
  have ep : slicePick its.toArray l u k = (pickD its l u k).toArray := by
    unfold slicePick pickD
    rw [List.size_toArray]
    simp
  have vp : Vals (pickD xs l u k) (pickD its l u k) := by
    unfold pickD
    rw [r.length]
    exact vals_pick r _
  rw [ep]
  exact ⟨.ref _, _, J.laid (t' := s4.toks) (o := .lst (pickD xs l u k)) (fun b ob q => Heap.get?_push_of_some _ q) (Nat.le_refl _) ⟨hz, _, 0, vp, Heap.get?_push_size _ rfl⟩, rfl, q4 _ (J.hok.fresh (Nat.le_refl _))⟩
theorem f_sl3 (hsub : ∀ o i : Value, subscripted (.Slice lo hi st p2) false o i = operate [o, i] (getItem o i)) (he : EE X XW a ra) (hl : EO X XW lo rl) (hu : EO X XW hi rh) (hk : EO X XW st rs) : EF X XW (.Subscript a (.Slice lo hi st p2) pos) (fSl3 ra rl rh rs) :=
  iE (pe_slice3 hsub he hl hu hk) fun σ H Q ⟨F, ρ, c, h, w, e, q⟩ => tG_bind w e (tF_of q) fun x h1 v F1 ρ1 H1 x1 w1 r1 e1 q1 => tG_bind w1 e1 q1 fun l h2 l' F2 ρ2 H2 x2 w2 r2 e2 q2 => tG_bind w2 e2 q2 fun u h3 u' F3 ρ3 H3 x3 w3 r3 e3 q3 => tG_bind w3 e3 q3 fun k h4 k' F4 ρ4 H4 x4 w4 r4 e4 q4 => by
    have r2 : l = l' := r2
    have r3 : u = u' := r3
    have r4 : k = k' := r4
    subst r2 r3 r4
    cases z : seqL h4 x with
    | none => rw [z] at q4; exact q4.elim
    | some ds =>
      rw [z] at q4
      dsimp only at q4
      by_cases zk : k ≠ some 0 ∧ ds.length ≤ 1000000 ∧ (pickD ds l u k).length ≤ 1000000
      · rw [if_pos zk] at q4
        obtain ⟨p, vs, e5, hL, rr⟩ := w4.seqL (x4.rep (x3.rep (x2.rep r1))) z
        have rp : Reps X.K F4 ρ4 (pickD ds l u k) (pickD vs l u k) := by
          unfold pickD
          rw [repsLen rr]
          exact reps_pick rr _
        exact ⟨p, vs, e5, hL, zk.1, by rw [← repsLen rp]; exact mil zk.2.2, fun p' np => q4 _ F4 ρ4 H4 .refl w4 rp p' np⟩
      · rw [if_neg zk] at q4; exact q4.elim
end
end PV
namespace PV
open PySem PySem.Spec PyProof.Rows L2

/-! ### a law's defs -/
/-- the classes of the program, by their addresses -/
structure Gm where
  SumBook : Addr := 0
  Desk : Addr := 0
  Stair : Addr := 0
  SumError : Addr := 0
  BadTelling : Addr := 0
  NoFit : Addr := 0
  NoNumber : Addr := 0
  NoPlace : Addr := 0
  NotTwos : Addr := 0
  NoPast : Addr := 0
  NoText : Addr := 0
  NoRow : Addr := 0
  Unlike : Addr := 0
def nmBook : List Str := ["many", "kept"]
def nmDesk : List Str := ["line", "past"]
def nmStair : List Str := ["many", "parts", "turned", "backs", "pivots"]
theorem nd_Book : nmBook.Nodup := by decide +kernel
theorem nd_Desk : nmDesk.Nodup := by decide +kernel
theorem nd_Stair : nmStair.Nodup := by decide +kernel
theorem bt_len : bootBuiltins "len" = some (.builtin "len") := by decide +kernel
theorem bt_sum : bootBuiltins "sum" = some (.builtin "sum") := by decide +kernel
theorem bt_abs : bootBuiltins "abs" = some (.builtin "abs") := by decide +kernel
theorem bt_min : bootBuiltins "min" = some (.builtin "min") := by decide +kernel
theorem bt_max : bootBuiltins "max" = some (.builtin "max") := by decide +kernel
theorem bt_all : bootBuiltins "all" = some (.builtin "all") := by decide +kernel
theorem bt_any : bootBuiltins "any" = some (.builtin "any") := by decide +kernel
theorem bt_sorted : bootBuiltins "sorted" = some (.builtin "sorted") := by decide +kernel
theorem bt_isinstance : bootBuiltins "isinstance" = some (.builtin "isinstance") := by decide +kernel
theorem bt_int : bootBuiltins "int" = some (.type "int") := by decide +kernel
theorem bt_bool : bootBuiltins "bool" = some (.type "bool") := by decide +kernel
theorem bt_str : bootBuiltins "str" = some (.type "str") := by decide +kernel
theorem bt_list : bootBuiltins "list" = some (.type "list") := by decide +kernel
theorem bt_tuple : bootBuiltins "tuple" = some (.type "tuple") := by decide +kernel
/-- a def of the text stands at f, its parameters ps -/
structure HasDef (K : PySem.W.Frag) (x qual : Str) (st : Stmt) (ps : List Str) (f : Addr) : Prop where
  ex : ∃ fd, Fun K x qual st f fd ∧ Binds K fd ps []
/-- it keeps its word -/
structure Ok (P : Program) (w : World) (K : PySem.W.Frag) (mg : Str → Option Value) (base : Heap) (k : Nat) (f : Addr) (ps : List Str) (g : List D → Hx → R D) : Prop where
  ex : ∃ fd, FnOk P w K mg base (L2.CX P w) k f fd ps (spOf K g) ∧ Binds K fd ps [] ∧ PySem.W.keepIn K (.ref f) = true
section
variable {P : Program} {w : World} {K : PySem.W.Frag} {mg : Str → Option Value} {base : Heap}
theorem ok_of {x qual : Str} {st : Stmt} {ps : List Str} {f : Addr} {N : List Str} {k : Nat} {rs : En → Hx → SR} (md : Md) (Fu : HasDef K x qual st ps f) (S : FnScope N ps (defScope st))
    (hbody : ∀ (cdv : Value) (A : Around) (outer : List Env) (s : Shared) (H : Hp) (E : XK), Cxt (cxOf (L2.CX P w) P w K mg base N qual (defScope st) f cdv A outer s H E) (fun _ => E) k →
      PassesOwn (model P w) (A.deeper (envOfC qual (defScope st) s.heap.objs.size f cdv)) (envOfC qual (defScope st) s.heap.objs.size f cdv) (cxOf (L2.CX P w) P w K mg base N qual (defScope st) f cdv A outer s H E).xe →
      Takes (cxOf (L2.CX P w) P w K mg base N qual (defScope st) f cdv A outer s H E) (fun cls d _ H => E cls d H) → EB (cxOf (L2.CX P w) P w K mg base N qual (defScope st) f cdv A outer s H E) (fun _ => E) (defBody st) rs) :
    Ok P w K mg base (k + 1) f ps (fnOf md ps.length N.length rs) := by
  obtain ⟨fd, F, B⟩ := Fu.ex
  exact ⟨fd, fn_ok md F S hbody, B, F.kp⟩
end
section
variable {X : Cx} {XW : L2.St → XK} {k l : Nat} {f C : Addr} {ps : List Str} {g : List D → Hx → R D} {x m : Str} {p pos apos : Pos} {e o : Expr} {es : List Expr} {ro : En → Hx → R D} {s : En → Hx → R (List D)}
theorem c_call (G : Ok X.prog X.w X.K X.mg X.base k f ps g) (Cc : Cxt X XW l) (hk : k ≤ l) (hm : X.mg x = some (.ref f)) (hg : Gl X x) (ha : EA X XW (e :: es) s) (hdb : (x == ("__debug__" : Str)) = false := by decide)
    (he : starEach (e :: es) X.env = (false, eval e X.env) :: starEach es X.env := by rfl) (hpl : (backTo pos (starEach es X.env)).any (·.1) = false := by rfl) : EE X XW (.Call (.Name x p) (e :: es) [] pos) (rCall g s) := by
  obtain ⟨fd, G, b, kp⟩ := G.ex
  exact e_call Cc hk G hm kp b hg ha hdb he hpl
theorem c_meth {pl : Sem Bool} (nm : List Str) (G : Ok X.prog X.w X.K X.mg X.base k f ps g) (Cc : Cxt X XW l) (hk : k ≤ l) (hC : Cls X.K C) (hm : Meth X.K C m f) (hmn : m ∉ nm) (ho : EE X XW o ro) (ha : EA X XW (e :: es) s)
    (hst : starEach (e :: es) X.env = (false, eval e X.env) :: starEach es X.env := by rfl) (hpl : (backTo pos (starEach es X.env)).any (·.1) = false := by rfl)
    (ht : eval (.Call (.Attribute o m apos) (e :: es) [] pos) X.env = (do
      let ov ← eval o X.env
      standAt apos.atName
      let (f, first) ← holding [ov] (getMethod ov m pl)
      callWith pos f first (backTo pos (starEach (e :: es) X.env)) (backToKw pos (keywordEach [] X.env))) := by rfl) :
    EE X XW (.Call (.Attribute o m apos) (e :: es) [] pos) (rMeth C nm m g ro s) := by
  obtain ⟨fd, G, b, kp⟩ := G.ex
  exact e_meth nm Cc hk hC hm hmn G b ho ha hst hpl ht
theorem c_meth0 {pl : Sem Bool} (nm : List Str) (G : Ok X.prog X.w X.K X.mg X.base k f ps g) (Cc : Cxt X XW l) (hk : k ≤ l) (hC : Cls X.K C) (hm : Meth X.K C m f) (hmn : m ∉ nm) (ho : EE X XW o ro)
    (ht : eval (.Call (.Attribute o m apos) [] [] pos) X.env = (do
      let ov ← eval o X.env
      standAt apos.atName
      let (f, first) ← holding [ov] (getMethod ov m pl)
      callWith pos f first (backTo pos (starEach [] X.env)) (backToKw pos (keywordEach [] X.env))) := by rfl) :
    EE X XW (.Call (.Attribute o m apos) [] [] pos) (rMeth C nm m g ro aNil) := by
  obtain ⟨fd, G, b, kp⟩ := G.ex
  exact e_meth0 nm Cc hk hC hm hmn G b ho ht
theorem c_make (nm : List Str) (G : Ok X.prog X.w X.K X.mg X.base k f ps g) (Cc : Cxt X XW l) (hk : k + 1 ≤ l) (M : Mk X.K C f) (hm : X.mg x = some (.ref C)) (hg : Gl X x) (ha : EA X XW (e :: es) s) (hdb : (x == ("__debug__" : Str)) = false := by decide)
    (he : starEach (e :: es) X.env = (false, eval e X.env) :: starEach es X.env := by rfl) (hpl : (backTo pos (starEach es X.env)).any (·.1) = false := by rfl) : EE X XW (.Call (.Name x p) (e :: es) [] pos) (rMake C nm g s) := by
  obtain ⟨fd, G, b, kp⟩ := G.ex
  exact e_make nm Cc hk M G b hm hg ha hdb he hpl
theorem c_make0 (nm : List Str) (G : Ok X.prog X.w X.K X.mg X.base k f ps g) (Cc : Cxt X XW l) (hk : k + 1 ≤ l) (M : Mk X.K C f) (hm : X.mg x = some (.ref C)) (hg : Gl X x) (hdb : (x == ("__debug__" : Str)) = false := by decide) : EE X XW (.Call (.Name x p) [] [] pos) (rMake C nm g aNil) := by
  obtain ⟨fd, G, b, kp⟩ := G.ex
  exact e_make0 nm Cc hk M G b hm hg hdb
end
/-- raise X('..') -/
def sRaise (C : Addr) : En → Hx → SR := fun c h => .ex C c h
theorem s_raise {X : Cx} {E : XK} {C : Addr} {bmB : List Value} {B newId initId : String} {x m : Str} {j : Nat} {p p2 pos pos2 : Pos} (tk : Takes X (fun cls d _ H => E cls d H)) (hc : X.calm = true) (F : ExcBaseFacts B newId initId bmB) (q : PySem.W.excIn X.K C bmB newId = true) (gC : X.mg x = some (.ref C)) (kC : PySem.W.keepIn X.K (.ref C) = true)
    (r1 : PySem.W.subIn X.K (.ref C) (.type "BaseException") = some true) (r2 : PySem.W.typeIn X.K (.ref C) = some (.type "type")) (hg : Gl X x) (hdb : (x == ("__debug__" : Str)) = false := by decide) :
    ES X (fun _ => E) (.Raise (some (.Call (.Name x p) [.Constant (.str m) j p2] [] pos)) none pos2) (sRaise C) :=
  iS (ps_raise hc tk (pmk_own F q gC kC (raises_own r1 r2) hg hdb)) fun T σ H ⟨F, ρ, c, h, w, ev, q⟩ => q σ F ρ H .refl w ev
/-! ### the end -/
def spLaw (K : PySem.W.Frag) : Sp := fun vs H Q _ => ∃ (a : Addr) (ns : List Int), vs = [.ref a] ∧ SqL K H a (ns.map V.int) ∧ ns.length ≤ 63 ∧ ∀ H', Q (.bl true) H'
/-- the law's call from the data -/
theorem law_fn {P : Program} {w : World} {K : PySem.W.Frag} {mg : Str → Option Value} {base : Heap} {k : Nat} {f : Addr} {fd : FuncData} {g : List D → Hx → R D} (G : FnOk P w K mg base (L2.CX P w) k f fd ["script"] (spOf K g)) (h : ∀ ns : List Int, ns.length ≤ 63 → ∃ h', g [.rol (ns.map D.int)] [] = .ok (.bl true) h') :
    FnOk P w K mg base (L2.CX P w) k f fd ["script"] (spLaw K) := G.imp fun vs H Q E ⟨a, ns, e, hs, hl, q⟩ => by
  subst e
  obtain ⟨h', eh⟩ := h ns hl
  refine ⟨H, [], [.rol (ns.map D.int)], [], ⟨Sub.refl H, rfl, List.nodup_nil, fun b m => absurd m (by simp), fun i b m e => by simp at e⟩, reps_cons.mpr ⟨_, [], rfl, rep_rol.mpr ⟨a, _, rfl, hs, reps_of_ints ns⟩, reps_nil.mpr rfl⟩, ?_⟩
  rw [eh]
  exact fun v F' ρ' H' _ _ r => by rw [rep_bl.mp r]; exact q H'
end PV
namespace PV
open PySem PySem.Spec PyProof.Rows L2
/-! ### a dict that is walked and then no more used: locked for good -/
/-- the thing the value stands for is locked right behind its making -/
def tLockV (t : TE) : TE := fun σ H Q => t σ H fun x H1 => ∃ d u, x = .ref d ∧ H1 d = some u ∧ Mut (some u) ∧ ∀ od, Q x (upd H1 d (.frz od u))
theorem pe_lockV {X : Cx} {e : Expr} {t : TE} (h : PE X e t) : PE X e (tLockV t) := by
  refine ⟨fun pins s σ H Q I hw => ?_⟩
  refine thn (h.run pins s σ H _ I hw) fun v s1 ⟨x, H1, I1, r, d, u, ex, hd, mu, q⟩ => ?_
  obtain ⟨od, I2⟩ := I1.lock hd mu
  exact ⟨x, _, I2, r, q od⟩
section
variable {K : PySem.W.Frag} {F H : Hp} {ρ : List Addr} {h : Hx}
theorem Wd.lock (w : Wd K F ρ h H) {n : Nat} {p : Addr} {o : HO} {m : MO} (hp : ρ[n]? = some p) (hl : h[n]? = some m) (g : m ≠ .gone) : Wd K (upd F p o) ρ (h.set n .gone) (upd H p o) ∧ Ext F ρ h H (upd F p o) ρ (h.set n .gone) (upd H p o) := by
  have hF := ((w.ok n p m hp hl).live g).1
  have mem : p ∈ ρ := List.mem_of_getElem? hp
  have fs : Sub F (upd F p o) := fun a u e => by
    rw [upd_ne (ne_of_none e hF)]; exact e
  have one : ∀ i a, ρ[i]? = some a → i ≠ n → a ≠ p := fun i a e ne z => by
    subst z
    obtain ⟨h1, e1⟩ := List.getElem?_eq_some_iff.mp e
    obtain ⟨h2, e2⟩ := List.getElem?_eq_some_iff.mp hp
    exact ne ((List.getElem_inj w.nd).mp (e1.trans e2.symm))
  refine ⟨⟨fun a u e => ?_, by simp [w.len], w.nd, fun a q => ?_, fun i a m' e g => ?_⟩, ⟨fs, ⟨[], by simp⟩, fun b u e n => ?_, fun b m n => absurd m n, fun a e hn hr => ?_, fun i a e gg => ⟨?_, ?_⟩⟩⟩
  · by_cases z : a = p
    · subst z; rw [upd_same] at e ⊢; exact e
    · rw [upd_ne z] at e ⊢; exact w.sub _ _ e
  · by_cases z : a = p
    · subst z; rw [upd_same]; simp
    · rw [upd_ne z]; exact w.has a q
  · by_cases z : i = n
    · subst z
      rw [List.getElem?_set_self (List.getElem?_eq_some_iff.mp hl).1] at g
      cases g; trivial
    · rw [List.getElem?_set_ne (fun q => z q.symm)] at g
      have ne := one i a e z
      have := MOk.mono (t := []) fs (fun q => (upd_ne ne).trans q) (upd_ne (o := o) (H := H) ne) (w.ok i a m' e g)
      simpa using this
  · rw [upd_ne (show b ≠ p from fun z => n (z ▸ mem))]; exact e
  · rw [upd_ne (show a ≠ p from fun z => hr (z ▸ mem))]; exact e
  · have z : i ≠ n := fun z => by
      subst z; rw [hl] at gg; exact g (Option.some.inj gg)
    exact upd_ne (one i a e z)
  · by_cases z : i = n
    · subst z; rw [List.getElem?_set_self (List.getElem?_eq_some_iff.mp hl).1]
    · rw [List.getElem?_set_ne (fun q => z q.symm)]; exact gg
end
def keyD : Key → D
  | .inl i => .int i
  | .inr x => .str x
theorem rep_keyD {K : PySem.W.Frag} {F : Hp} {ρ : List Addr} (k : Key) : Rep K F ρ (keyD k) (kV k) := by
  cases k with
  | inl i => exact rep_int.mpr rfl
  | inr x => exact rep_str.mpr rfl
def rKeys (rd : En → Hx → R D) : En → Hx → R Src := fun c h => (rd c h).bind fun x h1 => match dicOf h1 x with
  | some (n, kvs) => .ok (.sq (.lst (kvs.map fun kv => keyD kv.1))) (h1.set n .gone)
  | none => .no
theorem src_keys {K : PySem.W.Frag} {F : Hp} {ρ : List Addr} {d : Addr} {od : Obj} {kvs : List (Key × D)} {ws : List (Key × V)} (hF : F d = some (.frz od (.dK ws))) (e : kvs.map (·.1) = ws.map (·.1)) : SrcR K F ρ (.sq (.lst (kvs.map fun kv => keyD kv.1))) (Itk d od ws) := by
  have el : kvs.length = ws.length := by
    have q := congrArg List.length e
    simpa using q
  have it : ∀ h' i x, (Src.sq (.lst (kvs.map fun kv => keyD kv.1))).item h' i = some x → ∃ k v, ws[i]? = some (k, v) ∧ x = keyD k := by
    intro h' i x q
    have q : (kvs.map fun kv => keyD kv.1)[i]? = some x := q
    rw [List.getElem?_map, Option.map_eq_some_iff] at q
    obtain ⟨⟨k, dv⟩, q1, q2⟩ := q
    have q3 : (kvs.map (·.1))[i]? = some k := by rw [List.getElem?_map, q1]; rfl
    rw [e, List.getElem?_map, Option.map_eq_some_iff] at q3
    obtain ⟨⟨k', v⟩, q4, q5⟩ := q3
    have q5 : k' = k := q5
    subst q5
    exact ⟨k', v, q4, q2.symm⟩
  refine ⟨?_, ?_, ?_⟩
  · intro F' t h' H' i x s w q
    obtain ⟨k, v, q1, _⟩ := it h' i x q
    exact ⟨w.sub _ _ (s _ _ hF), (List.getElem?_eq_some_iff.mp q1).1⟩
  · intro F' t h' H' i x y H2 s w q yl
    obtain ⟨k, v, q1, rfl⟩ := it h' i x q
    obtain ⟨rfl, k2, v2, q2, rfl⟩ := yl
    rw [q1] at q2
    cases q2
    exact ⟨F', .refl, w, rep_keyD k⟩
  · intro F' t h' H' n s w q
    have q : some (kvs.map fun kv => keyD kv.1).length = some n := q
    rw [List.length_map] at q
    cases q
    exact ⟨w.sub _ _ (s _ _ hF), by omega⟩
theorem i_keys {X : Cx} {XW : L2.St → XK} {tg e : Expr} {re : En → Hx → R D} (he : EE X XW e re) : EI X XW tg e (rKeys re) :=
  iI (pi_keys (pe_lockV he)) fun σ H Q ⟨F, ρ, c, h, w, ev, q⟩ => by
    refine ⟨F, ρ, c, h, w, ev, ?_⟩
    unfold rKeys at q
    cases z : re c h with
    | no => rw [z] at q; exact q
    | ex => rw [z] at q; exact q
    | ok d h1 =>
      rw [z] at q
      dsimp only [bind_ok] at q
      intro v F1 ρ1 H1 x1 w1 r1
      cases zf : dicOf h1 d with
      | none => rw [zf] at q; exact q.elim
      | some nk =>
        obtain ⟨n, kvs⟩ := nk
        rw [zf] at q
        obtain ⟨a, ws, rfl, ha, hn, hH, ek, _⟩ := w1.dic r1 zf
        refine ⟨a, _, rfl, hH, trivial, fun od => ?_⟩
        obtain ⟨w2, x2⟩ := w1.lock (o := .frz od (.dK ws)) ha hn (by intro y; cases y)
        exact ⟨a, od, rfl, .inl ⟨ws, upd_same, q _ _ _ _ (x1.trans x2) w2 (ev.ext (x1.trans x2)) (src_keys upd_same ek)⟩⟩
/-! ### a, b, c = x, y, z -/
def sPar3 (i j l : Nat) (ra rb rc : En → Hx → R D) : En → Hx → SR := fun c h => (ra c h).toS c fun x h1 => (rb c h1).toS c fun y h2 => (rc c h2).toS c fun z h3 => .nx (((c.set i (some x)).set j (some y)).set l (some z)) h3
theorem s_par3 {X : Cx} {XW : L2.St → XK} (i j l : Nat) {x y z : Str} {a b e : Expr} {ra rb rc : En → Hx → R D} {px py pz pt pos : Pos} {kt k2 pt2} (hc : X.calm = true) (hN : X.N.Nodup) (hi : X.N[i]? = some x) (hj : X.N[j]? = some y) (hl : X.N[l]? = some z) (hij : i ≠ j) (hil : i ≠ l) (hjl : j ≠ l)
    (hx : X.env.scope.names.lookup x = some .local) (hy : X.env.scope.names.lookup y = some .local) (hz : X.env.scope.names.lookup z = some .local) (ha : EE X XW a ra) (hb : EE X XW b rb) (he : EE X XW e rc)
    (hw : swappedStores [.Tuple [.Name x px, .Name y py, .Name z pz] kt pt] (.Tuple [a, b, e] k2 pt2) X.env = pure (some [x, y, z]))
    (hs : swapsWithSole [.Tuple [.Name x px, .Name y py, .Name z pz] kt pt] (.Tuple [a, b, e] k2 pt2) pos.line X.env = pure false := by rfl)
    (s1 : starEach [a, b, e] X.env = (false, eval a X.env) :: starEach [b, e] X.env := by rfl) (s2 : starEach [b, e] X.env = (false, eval b X.env) :: starEach [e] X.env := by rfl) (s3 : starEach [e] X.env = (false, eval e X.env) :: starEach [] X.env := by rfl) :
    ES X XW (.Assign [.Tuple [.Name x px, .Name y py, .Name z pz] kt pt] (.Tuple [a, b, e] k2 pt2) pos) (sPar3 i j l ra rb rc) :=
  iS (ps_par3 hc hN hi hj hl hij hil hjl hx hy hz (pa_cons ha (pa_cons hb (pa_cons he pa_nil s3) s2) s1) hw hs) fun T σ H ⟨F, ρ, c, h, w, ev, q⟩ =>
    tG_toS w ev q fun d h1 v F1 ρ1 H1 x1 w1 r1 e1 q1 => tG_toS w1 e1 q1 fun d2 h2 v2 F2 ρ2 H2 x2 w2 r2 e2 q2 => tG_toS w2 e2 q2 fun d3 h3 v3 F3 ρ3 H3 x3 w3 r3 e3 q3 =>
      ⟨v, v2, v3, rfl, q3 _ F3 ρ3 H3 .refl w3 (((e3.set i (x3.rep (x2.rep r1))).set j (x3.rep r2)).set l r3)⟩
end PV
namespace PV
open PySem PySem.Spec PyProof.Rows L2
/-! ### what a reading comes to: a calculus over the data functions, no program in sight -/
structure Po where
  nx : En → Hx → Prop
  rt : D → Hx → Prop
  ex : Addr → En → Hx → Prop := fun _ _ _ => False
  bk : En → Hx → Prop := fun _ _ => False
  ct : En → Hx → Prop := fun _ _ => False
def R.tr {α : Type} (x : R α) (Q : α → Hx → Prop) (E : Addr → Hx → Prop) : Prop := match x with
  | .no => False
  | .ok a h => Q a h
  | .ex c h => E c h
def SR.tr (x : SR) (P : Po) : Prop := match x with
  | .no => False
  | .nx c h => P.nx c h
  | .rt d h => P.rt d h
  | .bk c h => P.bk c h
  | .ct c h => P.ct c h
  | .ex x c h => P.ex x c h
abbrev E0x : Addr → Hx → Prop := fun _ _ => False
section
variable {α β : Type} {Q : α → Hx → Prop} {E : Addr → Hx → Prop} {P : Po} {c : En} {h : Hx}
@[simp] theorem tr_no : (R.no : R α).tr Q E = False := rfl
@[simp] theorem tr_ok (a : α) : (R.ok a h).tr Q E = Q a h := rfl
@[simp] theorem tr_ex (x : Addr) : (R.ex x h : R α).tr Q E = E x h := rfl
@[simp] theorem st_no : SR.no.tr P = False := rfl
@[simp] theorem st_nx : (SR.nx c h).tr P = P.nx c h := rfl
@[simp] theorem st_rt (d : D) : (SR.rt d h).tr P = P.rt d h := rfl
@[simp] theorem st_bk : (SR.bk c h).tr P = P.bk c h := rfl
@[simp] theorem st_ct : (SR.ct c h).tr P = P.ct c h := rfl
@[simp] theorem st_ex (x : Addr) : (SR.ex x c h).tr P = P.ex x c h := rfl
@[simp] theorem tr_bind {Q : β → Hx → Prop} (x : R α) (f : α → Hx → R β) : (x.bind f).tr Q E = x.tr (fun a h => (f a h).tr Q E) E := by cases x <;> rfl
@[simp] theorem tr_toS (x : R α) (f : α → Hx → SR) : (x.toS c f).tr P = x.tr (fun a h => (f a h).tr P) (fun e h => P.ex e c h) := by cases x <;> rfl
@[simp] theorem tr_ite (p : Prop) [Decidable p] (x y : R α) : (if p then x else y).tr Q E = if p then x.tr Q E else y.tr Q E := by split <;> rfl
@[simp] theorem st_ite (p : Prop) [Decidable p] (x y : SR) : (if p then x else y).tr P = if p then x.tr P else y.tr P := by split <;> rfl
theorem tr_imp {x : R α} {Q' : α → Hx → Prop} {E' : Addr → Hx → Prop} (t : x.tr Q E) (q : ∀ a h, Q a h → Q' a h) (e : ∀ a h, E a h → E' a h) : x.tr Q' E' := by
  cases x with
  | no => exact t
  | ok a h => exact q _ _ t
  | ex a h => exact e _ _ t
theorem tr_use {x : R α} {Q' : α → Hx → Prop} {E' : Addr → Hx → Prop} (t : x.tr Q E0x) (q : ∀ a h, Q a h → Q' a h) : x.tr Q' E' := tr_imp t q fun _ _ z => z.elim
theorem st_imp {x : SR} {P' : Po} (t : x.tr P) (n : ∀ c h, P.nx c h → P'.nx c h) (r : ∀ d h, P.rt d h → P'.rt d h) (e : ∀ x c h, P.ex x c h → P'.ex x c h) (b : ∀ c h, P.bk c h → P'.bk c h) (k : ∀ c h, P.ct c h → P'.ct c h) : x.tr P' := by
  cases x with
  | no => exact t
  | nx c h => exact n _ _ t
  | rt c h => exact r _ _ t
  | bk c h => exact b _ _ t
  | ct c h => exact k _ _ t
  | ex c h => exact e _ _ _ t
theorem tr_eq {x : R α} {a : α} (q : x.tr (fun d h1 => d = a ∧ h1 = h) E0x) : x = .ok a h := by
  cases x with
  | no => exact q.elim
  | ok d h1 => obtain ⟨rfl, rfl⟩ := q; rfl
  | ex c h1 => exact q.elim
end
section
variable {c : En} {h : Hx} {P : Po} {Q : D → Hx → Prop} {E : Addr → Hx → Prop}
@[simp] theorem v_rV (i : Nat) : rV i c h = match c[i]? with
  | some (some d) => .ok d h
  | _ => .no := rfl
@[simp] theorem v_rC (d : D) : rC d c h = .ok d h := rfl
@[simp] theorem v_r2 (g : D → D → Hx → R D) (ra rb : En → Hx → R D) : r2 g ra rb c h = (ra c h).bind fun x h1 => (rb c h1).bind fun y h2 => g x y h2 := rfl
@[simp] theorem v_r1 (g : D → Hx → R D) (ra : En → Hx → R D) : r1 g ra c h = (ra c h).bind g := rfl
@[simp] theorem v_sNil : sNil c h = .nx c h := rfl
@[simp] theorem v_sSeq (a b : En → Hx → SR) : (sSeq a b c h).tr P = (a c h).tr { P with nx := fun c' h' => (b c' h').tr P } := by
  unfold sSeq
  cases a c h <;> rfl
@[simp] theorem v_sDo (r : En → Hx → R D) : sDo r c h = (r c h).toS c fun _ h' => .nx c h' := rfl
@[simp] theorem v_sRet (r : En → Hx → R D) : sRet r c h = (r c h).toS c fun d h' => .rt d h' := rfl
@[simp] theorem v_sRetN : sRetN c h = .rt .non h := rfl
@[simp] theorem v_sRaise (x : Addr) : sRaise x c h = .ex x c h := rfl
@[simp] theorem v_sIf (t : En → Hx → R Bool) (a b : En → Hx → SR) : sIf t a b c h = (t c h).toS c fun k h' => if k = true then a c h' else b c h' := rfl
@[simp] theorem v_sAsg (r : En → Hx → R D) (t : Tg) : sAsg r t c h = (r c h).toS c fun d h' => match tgS t d c with
  | some c' => .nx c' h'
  | none => .no := rfl
@[simp] theorem v_sPar (i j : Nat) (ra rb : En → Hx → R D) : sPar i j ra rb c h = (ra c h).toS c fun x h1 => (rb c h1).toS c fun y h2 => .nx ((c.set i (some x)).set j (some y)) h2 := rfl
@[simp] theorem v_sPar3 (i j l : Nat) (ra rb rc : En → Hx → R D) : sPar3 i j l ra rb rc c h = (ra c h).toS c fun x h1 => (rb c h1).toS c fun y h2 => (rc c h2).toS c fun z h3 => .nx (((c.set i (some x)).set j (some y)).set l (some z)) h3 := rfl
@[simp] theorem v_nm (i : Nat) (d : D) : tgS (.nm i) d c = some (c.set i (some d)) := by unfold tgS; rfl
@[simp] theorem v_tp (t : Tg) (ds : List D) : tgS (.tp t) (.tup ds) c = tgSs t ds c := by unfold tgS; rfl
@[simp] theorem v_tpr (t : Tg) (ds : List D) : tgS (.tp t) (.rot ds) c = tgSs t ds c := by unfold tgS; rfl
@[simp] theorem v_tn : tgSs .nil [] c = some c := by unfold tgSs; rfl
@[simp] theorem v_tc (a b : Tg) (d : D) (ds : List D) : tgSs (.cons a b) (d :: ds) c = (tgS a d c).bind fun c' => tgSs b ds c' := by rw [tgSs]
@[simp] theorem v_rFro (r : En → Hx → R (List D)) : rFro r c h = (r c h).bind fun ds h' => .ok (.lst ds) h' := rfl
@[simp] theorem v_rMut (r : En → Hx → R (List D)) : rMut r c h = (r c h).bind fun ds h' => .ok (.ref h'.length) (h' ++ [.lst ds]) := rfl
@[simp] theorem v_aNil : aNil c h = .ok [] h := rfl
@[simp] theorem v_aCons (r : En → Hx → R D) (s : En → Hx → R (List D)) : aCons r s c h = (r c h).bind fun d h1 => (s c h1).bind fun ds h2 => .ok (d :: ds) h2 := rfl
@[simp] theorem v_rCall (g : List D → Hx → R D) (s : En → Hx → R (List D)) : rCall g s c h = (s c h).bind g := rfl
@[simp] theorem v_fCall (g : List D → Hx → R (List D)) (s : En → Hx → R (List D)) : fCall g s c h = (s c h).bind g := rfl
@[simp] theorem v_rTup (s : En → Hx → R (List D)) : rTup s c h = (s c h).bind fun ds h1 => if ds.length < 100 then .ok (.tup ds) h1 else .no := rfl
@[simp] theorem v_fDis (s : En → Hx → R (List D)) : fDis s c h = (s c h).bind fun ds h1 => if ds.length < 100 then .ok ds h1 else .no := rfl
@[simp] theorem v_rB (r : En → Hx → R D) : rB r c h = (r c h).bind fun d h' => match d with
  | .bl b => .ok b h'
  | _ => .no := rfl
@[simp] theorem v_rCh (g g' : D → D → Hx → R D) (ra rb rc : En → Hx → R D) : rCh g g' ra rb rc c h = (ra c h).bind fun x h1 => (rb c h1).bind fun y h2 => (g x y h2).bind fun z h3 => match z with
  | .bl true => (rc c h3).bind fun u h4 => g' y u h4
  | .bl false => .ok (.bl false) h3
  | _ => .no := rfl
@[simp] theorem v_rCh3 (g g' g'' : D → D → Hx → R D) (ra rb rc rd : En → Hx → R D) : rCh3 g g' g'' ra rb rc rd c h = (ra c h).bind fun x h1 => (rb c h1).bind fun y h2 => (g x y h2).bind fun z h3 => match z with
  | .bl true => (rc c h3).bind fun u h4 => (g' y u h4).bind fun z' h5 => match z' with
    | .bl true => (rd c h5).bind fun t h6 => g'' u t h6
    | .bl false => .ok (.bl false) h5
    | _ => .no
  | .bl false => .ok (.bl false) h3
  | _ => .no := rfl
@[simp] theorem v_tAndD (r s : En → Hx → R Bool) : tAndD r s c h = (r c h).bind fun k h1 => if k = true then s c h1 else .ok false h1 := rfl
@[simp] theorem v_tOrD (r s : En → Hx → R Bool) : tOrD r s c h = (r c h).bind fun k h1 => if k = true then .ok true h1 else s c h1 := rfl
@[simp] theorem v_tNotD (r : En → Hx → R Bool) : tNotD r c h = (r c h).bind fun k h1 => .ok (!k) h1 := rfl
theorem mb_eq (b : Bool) (x y : R D) : (match D.bl b with
  | .bl true => x
  | .bl false => y
  | _ => .no) = if b = true then x else y := by cases b <;> rfl
@[simp] theorem mb_tr (b : Bool) (x y : R D) : (match b with
  | true => x
  | false => y) = if b = true then x else y := by cases b <;> rfl
@[simp] theorem v_rAndV (r s : En → Hx → R D) : rAndV r s c h = (r c h).bind fun k h1 => match k with
  | .bl true => s c h1
  | .bl false => .ok (.bl false) h1
  | _ => .no := rfl
@[simp] theorem v_rOrV (r s : En → Hx → R D) : rOrV r s c h = (r c h).bind fun k h1 => match k with
  | .bl true => .ok (.bl true) h1
  | .bl false => s c h1
  | _ => .no := rfl
@[simp] theorem v_rNotV (r : En → Hx → R D) : rNotV r c h = (r c h).bind fun k h1 => match k with
  | .bl b => .ok (.bl (!b)) h1
  | _ => .no := rfl
@[simp] theorem v_rIte (t : En → Hx → R Bool) (r s : En → Hx → R D) : rIte t r s c h = (t c h).bind fun k h1 => if k = true then r c h1 else s c h1 := rfl
@[simp] theorem v_rPart (r : En → Hx → R D) : rPart r c h = (r c h).bind fun d h1 => match d with
  | .int i => .ok (some i) h1
  | _ => .no := rfl
@[simp] theorem v_rNoPart : rNoPart c h = .ok none h := rfl
@[simp] theorem v_rSl (re : En → Hx → R D) (rl rh : En → Hx → R (Option Int)) : rSl re rl rh c h = (re c h).bind fun x h1 => (rl c h1).bind fun l h2 => (rh c h2).bind fun u h3 => match x with
  | .tup ds => .ok (.tup (cutD ds l u)) h3
  | x => match seqL h3 x with
    | some ds => .ok (.lst (cutD ds l u)) h3
    | none => .no := rfl
@[simp] theorem v_fSl (re : En → Hx → R D) (rl rh : En → Hx → R (Option Int)) : fSl re rl rh c h = (re c h).bind fun x h1 => (rl c h1).bind fun l h2 => (rh c h2).bind fun u h3 => match seqL h3 x with
  | some ds => .ok (cutD ds l u) h3
  | none => .no := rfl
@[simp] theorem v_fSl3 (re : En → Hx → R D) (rl rh rs : En → Hx → R (Option Int)) : fSl3 re rl rh rs c h = (re c h).bind fun x h1 => (rl c h1).bind fun l h2 => (rh c h2).bind fun u h3 => (rs c h3).bind fun k h4 => match seqL h4 x with
  | some ds => if k ≠ some 0 ∧ ds.length ≤ 1000000 ∧ (pickD ds l u k).length ≤ 1000000 then .ok (pickD ds l u k) h4 else .no
  | none => .no := rfl
@[simp] theorem v_fRep (ra rb : En → Hx → R D) : fRep ra rb c h = (ra c h).bind fun x h1 => (rb c h1).bind fun y h2 => match lstOf h2 x, y with
  | some ds, .int k => if -1000000 ≤ k ∧ k ≤ 1000000 ∧ ds.length * k.toNat ≤ 1000000 then .ok (List.replicate k.toNat ds).flatten h2 else .no
  | _, _ => .no := rfl
@[simp] theorem v_iOf {α : Type} (ra : En → Hx → R α) (f : α → Hx → Option Src) : iOf ra f c h = (ra c h).bind fun d h1 => match f d h1 with
  | some s => .ok s h1
  | none => .no := rfl
@[simp] theorem v_rBM (g : D → List D → Hx → R D) (ro : En → Hx → R D) (s : En → Hx → R (List D)) : rBM g ro s c h = (ro c h).bind fun o h1 => match lstOf h1 o with
  | some _ => (s c h1).bind fun ds h2 => g o ds h2
  | none => .no := rfl
@[simp] theorem v_rFld (C : Addr) (nm : List Str) (i : Nat) (ro : En → Hx → R D) : rFld C nm i ro c h = (ro c h).bind fun o h1 => fldD C nm i o h1 := rfl
@[simp] theorem v_sFldD (C : Addr) (nm : List Str) (i : Nat) (ro re : En → Hx → R D) : sFldD C nm i ro re c h = (re c h).toS c fun d h1 => (ro c h1).toS c fun o h2 => match putD C nm i o d h2 with
  | some h3 => .nx c h3
  | none => .no := rfl
@[simp] theorem v_sPut (ro ri re : En → Hx → R D) : sPut ro ri re c h = (re c h).toS c fun d h1 => (ro c h1).toS c fun o h2 => (ri c h2).toS c fun i h3 => match i with
  | .int k => (match mutL h3 o with
    | some (n, xs) => (match ixN xs.length k with
      | some j => .nx c (h3.set n (.lst (xs.set j d)))
      | none => .no)
    | none => .no)
  | _ => .no := rfl
@[simp] theorem v_rMeth (C : Addr) (nm : List Str) (m : Str) (g : List D → Hx → R D) (ro : En → Hx → R D) (s : En → Hx → R (List D)) : rMeth C nm m g ro s c h = (ro c h).bind fun o h1 => match o with
  | .ref n => (match h1[n]? with
    | some (.ins C' nm' _) => if C' = C ∧ nm' = nm then (s c h1).bind fun ds h2 => g (o :: ds) h2 else .no
    | _ => .no)
  | _ => .no := rfl
@[simp] theorem v_rDGet (rd rk : En → Hx → R D) : rDGet rd rk c h = (rd c h).bind fun x h1 => (rk c h1).bind fun y h2 => match dicOf h2 x, keyOf y with
  | some (_, kvs), some k => (match dval kvs k with
    | some d => .ok d h2
    | none => .no)
  | _, _ => .no := rfl
@[simp] theorem v_rDIn (neg : Bool) (rk rd : En → Hx → R D) : rDIn neg rk rd c h = (rk c h).bind fun y h1 => (rd c h1).bind fun x h2 => match dicOf h2 x, keyOf y with
  | some (_, kvs), some k => .ok (.bl (if neg then !(dval kvs k).isSome else (dval kvs k).isSome)) h2
  | _, _ => .no := rfl
@[simp] theorem v_rDGet1 (rd rk : En → Hx → R D) : rDGet1 rd rk c h = (rd c h).bind fun x h1 => match dicOf h1 x with
  | some _ => (rk c h1).bind fun y h2 => (match dicOf h2 x, keyOf y with
    | some (_, kvs), some k => .ok ((dval kvs k).getD .non) h2
    | _, _ => .no)
  | none => .no := rfl
@[simp] theorem v_sDPutD (rd rk rv : En → Hx → R D) : sDPutD rd rk rv c h = (rv c h).toS c fun d h1 => (rd c h1).toS c fun x h2 => (rk c h2).toS c fun y h3 => match dicOf h3 x, keyOf y with
  | some (n, kvs), some k => if kvs.length < 1000000 then .nx c (h3.set n (.dic (dput kvs k d))) else .no
  | _, _ => .no := rfl
@[simp] theorem v_rDNew : rDNew c h = .ok (.ref h.length) (h ++ [.dic []]) := rfl
@[simp] theorem v_rDOne (rk rv : En → Hx → R D) : rDOne rk rv c h = (rk c h).bind fun y h1 => (rv c h1).bind fun d h2 => match keyOf y with
  | some k => .ok (.ref h2.length) (h2 ++ [.dic [(k, d)]])
  | none => .no := rfl
@[simp] theorem v_rKeys (rd : En → Hx → R D) : rKeys rd c h = (rd c h).bind fun x h1 => match dicOf h1 x with
  | some (n, kvs) => .ok (.sq (.lst (kvs.map fun kv => keyD kv.1))) (h1.set n .gone)
  | none => .no := rfl
@[simp] theorem v_fSset (ra : En → Hx → R D) : fSset ra c h = (ra c h).bind fun d h1 => match intsL h1 d with
  | some ns => if ns.length < 63 then .ok ((srtU ns).map D.int) h1 else .no
  | none => .no := rfl
@[simp] theorem v_fLrg1 (r : En → Hx → R D) : fLrg1 r c h = (r c h).bind fun d h1 => match d with
  | .int n => if smallR n = true then .ok ((List.range n.toNat).map fun (i : Nat) => D.int i) h1 else .no
  | _ => .no := rfl
theorem st_seq {a b : En → Hx → SR} (M : En → Hx → Prop) (q : (a c h).tr { P with nx := M }) (k : ∀ c h, M c h → (b c h).tr P) : (sSeq a b c h).tr P := by
  rw [v_sSeq]
  exact st_imp q k (fun _ _ z => z) (fun _ _ _ z => z) (fun _ _ z => z) fun _ _ z => z
/-! the operators on numbers -/
@[simp] theorem o_sub (a b : Int) : opSub (.int a) (.int b) h = .ok (.int (a - b)) h := rfl
theorem int2_tr (p : Int → Int → Bool) (f : Int → Int → D) (a b : Int) : (int2 p f (.int a) (.int b) h).tr Q E = (p a b = true ∧ Q (f a b) h) := by
  show (if p a b = true then R.ok (f a b) h else .no).tr Q E = _
  by_cases z : p a b = true <;> simp [z]
@[simp] theorem o_mul (a b : Int) : (opMul (.int a) (.int b) h).tr Q E = ((sm a = true ∧ sm b = true) ∧ Q (.int (a * b)) h) := by
  unfold opMul; rw [int2_tr, Bool.and_eq_true]
@[simp] theorem o_mod (a b : Int) : (opMod (.int a) (.int b) h).tr Q E = (b ≠ 0 ∧ Q (.int (a.fmod b)) h) := by
  unfold opMod; rw [int2_tr, decide_eq_true_eq]
@[simp] theorem o_div (a b : Int) : (opDivP (.int a) (.int b) h).tr Q E = ((0 < b ∧ sm b = true) ∧ Q (.int (a / b)) h) := by
  unfold opDivP; rw [int2_tr, Bool.and_eq_true, decide_eq_true_eq]
@[simp] theorem o_pow (a b : Int) : (opPow (.int a) (.int b) h).tr Q E = ((0 ≤ b ∧ b ≤ 1000000 ∧ a.natAbs < 2 ^ 64) ∧ Q (.int (a ^ b.toNat)) h) := by
  unfold opPow; rw [int2_tr, decide_eq_true_eq]
@[simp] theorem o_cmp (p : Int → Int → Bool) (a b : Int) : opCmp p (.int a) (.int b) h = .ok (.bl (p a b)) h := rfl
@[simp] theorem o_neg (a : Int) : opNeg (.int a) h = .ok (.int (-a)) h := rfl
@[simp] theorem o_add (a b : Int) : opAdd (.int a) (.int b) h = .ok (.int (a + b)) h := rfl
@[simp] theorem o_addt (a b : List D) : (opAdd (.tup a) (.tup b) h).tr Q E = (a.length + b.length ≤ 1000000 ∧ Q (.tup (a ++ b)) h) := by
  show (if a.length + b.length ≤ 1000000 then R.ok (D.tup (a ++ b)) h else .no).tr Q E = _
  by_cases z : a.length + b.length ≤ 1000000 <;> simp [z]
@[simp] theorem o_addl (a b : List D) : (opAdd (.lst a) (.lst b) h).tr Q E = (a.length + b.length ≤ 1000000 ∧ Q (.lst (a ++ b)) h) := by
  show (if a.length + b.length ≤ 1000000 then R.ok (D.lst (a ++ b)) h else .no).tr Q E = _
  by_cases z : a.length + b.length ≤ 1000000 <;> simp [z]
@[simp] theorem q_rol (ds : List D) : seqOf h (.rol ds) = some ds := rfl
@[simp] theorem q_lst (ds : List D) : seqOf h (.lst ds) = some ds := rfl
@[simp] theorem q_tup (ds : List D) : seqOf h (.tup ds) = some ds := rfl
@[simp] theorem q_rot (ds : List D) : seqOf h (.rot ds) = some ds := rfl
@[simp] theorem q_ref (n : Nat) : seqOf h (.ref n) = lstOf h (.ref n) := rfl
@[simp] theorem l_lst (ds : List D) : seqL h (.lst ds) = some ds := rfl
@[simp] theorem l_rol (ds : List D) : seqL h (.rol ds) = some ds := rfl
@[simp] theorem l_ref (n : Nat) : seqL h (.ref n) = lstOf h (.ref n) := rfl
@[simp] theorem k_lst (ds : List D) : lstOf h (.lst ds) = some ds := rfl
@[simp] theorem k_rol (ds : List D) : lstOf h (.rol ds) = none := rfl
@[simp] theorem k_int (n : Int) : lstOf h (.int n) = none := rfl
@[simp] theorem k_tup (ds : List D) : lstOf h (.tup ds) = none := rfl
@[simp] theorem k_str (x : Str) : lstOf h (.str x) = none := rfl
@[simp] theorem k_bl (x : Bool) : lstOf h (.bl x) = none := rfl
@[simp] theorem k_non : lstOf h .non = none := rfl
theorem k_ref {n : Nat} {ds : List D} (e : h[n]? = some (.lst ds)) : lstOf h (.ref n) = some ds := by simp [lstOf, e]
theorem m_ref {n : Nat} {ds : List D} (e : h[n]? = some (.lst ds)) : mutL h (.ref n) = some (n, ds) := by simp [mutL, e]
theorem d_ref {n : Nat} {ds : List (Key × D)} (e : h[n]? = some (.dic ds)) : dicOf h (.ref n) = some (n, ds) := by simp [dicOf, e]
@[simp] theorem i_map (ns : List Int) : intsOf (ns.map D.int) = some ns := by
  induction ns with
  | nil => rfl
  | cons a r ih => simp [intsOf, ih]
@[simp] theorem i_nil : intsOf [] = some [] := rfl
@[simp] theorem i_cons (a : Int) (ds : List D) : intsOf (.int a :: ds) = (intsOf ds).map (a :: ·) := rfl
@[simp] theorem b_map (ns : List Bool) : blsOf (ns.map D.bl) = some ns := by
  induction ns with
  | nil => rfl
  | cons a r ih => simp [blsOf, ih]
@[simp] theorem ky_int (i : Int) : keyOf (.int i) = some (.inl i) := rfl
@[simp] theorem ky_str (i : Str) : keyOf (.str i) = some (.inr i) := rfl
theorem at_nat {α : Type} (xs : List α) {i : Nat} (q : i < xs.length) : atI xs (i : Int) = xs[i]? := by
  unfold atI ixN
  rw [if_pos (by omega), if_pos (by omega)]
  simp
theorem at_int {α : Type} (xs : List α) {i : Int} (q0 : 0 ≤ i) (q : i < xs.length) : atI xs i = xs[i.toNat]? := by
  unfold atI ixN
  rw [if_pos (by omega), if_pos (by omega)]
  rfl
theorem ix_int {n : Nat} {i : Int} (q0 : 0 ≤ i) (q : i < n) : ixN n i = some i.toNat := by
  unfold ixN
  rw [if_pos (by omega), if_pos (by omega)]
@[simp] theorem x_ix (d : D) (i : Int) : (opIx d (.int i) h).tr Q E = match d with
  | .str z => if z.length ≤ 1000000 then (match atI z.cps.toList i with
      | some c => Q (.str ⟨#[c]⟩) h
      | none => False) else False
  | d => match (seqOf h d).bind fun ds => atI ds i with
    | some d => Q d h
    | none => False := by
  unfold opIx
  cases d with
  | str z => by_cases q : z.length ≤ 1000000 <;> simp [q] <;> cases atI z.cps.toList i <;> rfl
  | non => rfl
  | bl b => rfl
  | int b => rfl
  | ty b => rfl
  | ob b => rfl
  | tup ds => dsimp only; cases (seqOf h (.tup ds)).bind fun ds => atI ds i <;> rfl
  | lst ds => dsimp only; cases (seqOf h (.lst ds)).bind fun ds => atI ds i <;> rfl
  | rol ds => dsimp only; cases (seqOf h (.rol ds)).bind fun ds => atI ds i <;> rfl
  | rot ds => dsimp only; cases (seqOf h (.rot ds)).bind fun ds => atI ds i <;> rfl
  | ref ds => dsimp only; cases (seqOf h (.ref ds)).bind fun ds => atI ds i <;> rfl
def OnT (o : Option En) (f : En → Prop) : Prop := ∃ c1, o = some c1 ∧ f c1
@[simp] theorem onT_some (c1 : En) (f : En → Prop) : OnT (some c1) f = f c1 := by
  unfold OnT
  simp
/-! loops -/
theorem tr_forGo {s : Src} {N : Nat} {t : Tg} {b : En → Hx → SR} (Inv : Nat → En → Hx → Prop)
    (step : ∀ i, i < N → ∀ c h, Inv i c h → ∃ d, s.item h i = some d ∧ OnT (tgS t d c) fun c1 => (b c1 h).tr { P with nx := Inv (i + 1), ct := Inv (i + 1), bk := P.nx })
    (fin : ∀ c h, Inv N c h → s.len h = some N ∧ P.nx c h) : ∀ (m : Nat), m ≤ N → ∀ c h, Inv (N - m) c h → (forGo s N t b m c h).tr P := by
  intro m
  induction m with
  | zero =>
    intro _ c h i
    obtain ⟨e, q⟩ := fin c h i
    unfold forGo
    rw [if_pos e]
    exact q
  | succ m ih =>
    intro hm c h i
    obtain ⟨d, e1, c1, e2, q⟩ := step (N - (m + 1)) (by omega) c h i
    have e3 : N - (m + 1) + 1 = N - m := by omega
    unfold forGo
    rw [e1]
    dsimp only
    rw [e2]
    dsimp only
    cases z : b c1 h with
    | no => rw [z] at q; exact q.elim
    | nx c2 h2 => rw [z] at q; exact ih (by omega) _ _ (e3 ▸ q)
    | ct c2 h2 => rw [z] at q; exact ih (by omega) _ _ (e3 ▸ q)
    | bk c2 h2 => rw [z] at q; exact q
    | rt c2 h2 => rw [z] at q; exact q
    | ex c2 h2 => rw [z] at q; exact q
theorem tr_for {s : Src} {h1 : Hx} {r : En → Hx → R Src} {t : Tg} {b : En → Hx → SR} (N : Nat) (Inv : Nat → En → Hx → Prop) (hr : r c h = .ok s h1) (hl : s.len h1 = some N) (h0 : Inv 0 c h1)
    (step : ∀ i, i < N → ∀ c h, Inv i c h → ∃ d, s.item h i = some d ∧ OnT (tgS t d c) fun c1 => (b c1 h).tr { P with nx := Inv (i + 1), ct := Inv (i + 1), bk := P.nx })
    (fin : ∀ c h, Inv N c h → s.len h = some N ∧ P.nx c h) : (sFor r t b c h).tr P := by
  unfold sFor
  rw [hr]
  dsimp only [toS_ok]
  rw [hl]
  exact tr_forGo Inv step fin N (Nat.le_refl _) _ _ (by rw [Nat.sub_self]; exact h0)
theorem tr_src {r : En → Hx → R Src} {t : Tg} {b : En → Hx → SR} (q : (r c h).tr (fun s h1 => (sFor (fun _ h => .ok s h) t b c h1).tr P) (fun e h1 => P.ex e c h1)) : (sFor r t b c h).tr P := by
  unfold sFor
  rw [tr_toS]
  exact tr_imp q (fun _ _ z => z) fun _ _ z => z
/-- a loop over numbers -/
theorem tr_forR {r : En → Hx → R Src} {t : Tg} {b : En → Hx → SR} {lo : Int} {h1 : Hx} (N : Nat) (Inv : Nat → En → Hx → Prop) (hr : r c h = .ok (.rg lo N) h1) (h0 : Inv 0 c h1)
    (step : ∀ i, i < N → ∀ c h, Inv i c h → OnT (tgS t (.int (lo + i)) c) fun c1 => (b c1 h).tr { P with nx := Inv (i + 1), ct := Inv (i + 1), bk := P.nx })
    (fin : ∀ c h, Inv N c h → P.nx c h) : (sFor r t b c h).tr P :=
  tr_for N Inv hr rfl h0 (fun i hi c h q => by
    obtain ⟨c1, e, q⟩ := step i hi c h q
    exact ⟨_, if_pos hi, c1, e, q⟩) fun c h q => ⟨rfl, fin c h q⟩
/-- a loop over a list of values that stands by itself -/
theorem tr_forL {r : En → Hx → R Src} {t : Tg} {b : En → Hx → SR} {ds : List D} {h1 : Hx} {d0 : D} (Inv : Nat → En → Hx → Prop) (hr : r c h = .ok (.sq d0) h1) (hd : ∀ h, seqOf h d0 = some ds) (h0 : Inv 0 c h1)
    (step : ∀ i d, ds[i]? = some d → ∀ c h, Inv i c h → OnT (tgS t d c) fun c1 => (b c1 h).tr { P with nx := Inv (i + 1), ct := Inv (i + 1), bk := P.nx })
    (fin : ∀ c h, Inv ds.length c h → P.nx c h) : (sFor r t b c h).tr P := by
  have hl : ∀ h, (Src.sq d0).len h = some ds.length := fun h => by show (seqOf h d0).map _ = _; rw [hd]; rfl
  refine tr_for ds.length Inv hr (hl _) h0 (fun i hi c h q => ?_) fun c h q => ⟨hl _, fin c h q⟩
  obtain ⟨c1, e, q⟩ := step i ds[i] (List.getElem?_eq_getElem hi) c h q
  refine ⟨ds[i], ?_, c1, e, q⟩
  show (seqOf h d0).bind _ = _
  rw [hd]
  exact List.getElem?_eq_getElem hi
theorem tr_lcGo {s : Src} {N : Nat} {t : Tg} {vs : List Nat} {tt : En → Hx → R Bool} {te : En → Hx → R D} {Q : List D → Hx → Prop} (Inv : Nat → List D → Hx → Prop)
    (step : ∀ i, i < N → ∀ acc h, Inv i acc h → ∃ d, s.item h i = some d ∧ OnT (tgS t d (wipeC c vs)) fun c1 => (tt c1 h).tr (fun k h2 => if k = true then (te c1 h2).tr (fun x h3 => Inv (i + 1) (acc ++ [x]) h3) E0x else Inv (i + 1) acc h2) E0x)
    (fin : ∀ acc h, Inv N acc h → s.len h = some N ∧ Q acc h) : ∀ (m : Nat), m ≤ N → ∀ acc h, Inv (N - m) acc h → (lcGo s N t vs tt te m acc c h).tr Q E := by
  intro m
  induction m with
  | zero =>
    intro _ acc h i
    obtain ⟨e, q⟩ := fin acc h i
    unfold lcGo
    rw [if_pos e]
    exact q
  | succ m ih =>
    intro hm acc h i
    obtain ⟨d, e1, c1, e2, q⟩ := step (N - (m + 1)) (by omega) acc h i
    have e3 : N - (m + 1) + 1 = N - m := by omega
    unfold lcGo
    rw [e1]
    dsimp only
    rw [e2]
    dsimp only
    cases z : tt c1 h with
    | no => rw [z] at q; exact q.elim
    | ex a h2 => rw [z] at q; exact q.elim
    | ok k h2 =>
      rw [z] at q
      cases k with
      | false => exact ih (by omega) _ _ (e3 ▸ q)
      | true =>
        have q : (te c1 h2).tr (fun x h3 => Inv (N - (m + 1) + 1) (acc ++ [x]) h3) E0x := q
        dsimp only
        cases z2 : te c1 h2 with
        | no => rw [z2] at q; exact q.elim
        | ex a h3 => rw [z2] at q; exact q.elim
        | ok x h3 => rw [z2] at q; exact ih (by omega) _ _ (e3 ▸ q)
theorem sizeL : (1000000 : Nat) < sizeLine := by decide
theorem tr_lc {s : Src} {h1 : Hx} {r : En → Hx → R Src} {t : Tg} {vs : List Nat} {tt : En → Hx → R Bool} {te : En → Hx → R D} {Q : List D → Hx → Prop} (N : Nat) (Inv : Nat → List D → Hx → Prop) (hr : r c h = .ok s h1) (hl : s.len h1 = some N) (hN : N ≤ 1000000) (h0 : Inv 0 [] h1)
    (step : ∀ i, i < N → ∀ acc h, Inv i acc h → ∃ d, s.item h i = some d ∧ OnT (tgS t d (wipeC c vs)) fun c1 => (tt c1 h).tr (fun k h2 => if k = true then (te c1 h2).tr (fun x h3 => Inv (i + 1) (acc ++ [x]) h3) E0x else Inv (i + 1) acc h2) E0x)
    (fin : ∀ acc h, Inv N acc h → s.len h = some N ∧ Q acc h) : (rLc r t vs tt te c h).tr Q E := by
  unfold rLc
  rw [hr]
  dsimp only [bind_ok]
  rw [hl]
  dsimp only
  rw [if_pos (Nat.lt_of_le_of_lt hN sizeL)]
  exact tr_lcGo Inv step fin N (Nat.le_refl _) _ _ (by rw [Nat.sub_self]; exact h0)
theorem tr_lcsrc {r : En → Hx → R Src} {t : Tg} {vs : List Nat} {tt : En → Hx → R Bool} {te : En → Hx → R D} {Q : List D → Hx → Prop} (q : (r c h).tr (fun s h1 => (rLc (fun _ h => .ok s h) t vs tt te c h1).tr Q E) E) : (rLc r t vs tt te c h).tr Q E := by
  unfold rLc
  rw [tr_bind]
  exact tr_imp q (fun _ _ z => z) fun _ _ z => z
/-- the elements' values are a function of the items, nothing is changed -/
theorem lc_map {s : Src} {h1 : Hx} {r : En → Hx → R Src} {t : Tg} {vs : List Nat} {te : En → Hx → R D} (ds : List D) (f : D → D) (hr : r c h = .ok s h1) (hl : s.len h1 = some ds.length) (hi : ∀ i, i < ds.length → s.item h1 i = ds[i]?) (hN : ds.length ≤ 1000000)
    (he : ∀ d ∈ ds, OnT (tgS t d (wipeC c vs)) fun c1 => (te c1 h1).tr (fun x h2 => x = f d ∧ h2 = h1) E0x) : rLc r t vs tt1 te c h = .ok (ds.map f) h1 := by
  refine tr_eq (tr_lc (s := s) (h1 := h1) ds.length (fun i acc h2 => acc = (ds.take i).map f ∧ h2 = h1) hr hl hN ⟨rfl, rfl⟩ (fun i hi2 acc h2 ⟨q1, q2⟩ => ?_) fun acc h2 ⟨q1, q2⟩ => ?_)
  · subst q1 q2
    obtain ⟨c1, e1, e2⟩ := he ds[i] (List.getElem_mem hi2)
    refine ⟨ds[i], by rw [hi i hi2]; exact List.getElem?_eq_getElem hi2, c1, e1, ?_⟩
    show (te c1 h2).tr _ _
    refine tr_use e2 fun x h3 ⟨x1, x2⟩ => ⟨?_, x2⟩
    have e4 : ds.take (i + 1) = ds.take i ++ [ds[i]] := by rw [List.take_add_one, List.getElem?_eq_getElem hi2]; rfl
    rw [x1, e4, List.map_append]
    rfl
  · subst q1 q2
    exact ⟨hl, by rw [List.take_length], rfl⟩
/-- some items, by a test; their values -/
theorem lc_filter {s : Src} {h1 : Hx} {r : En → Hx → R Src} {t : Tg} {vs : List Nat} {tt : En → Hx → R Bool} {te : En → Hx → R D} (ds : List D) (p : D → Bool) (f : D → D) (hr : r c h = .ok s h1) (hl : s.len h1 = some ds.length) (hi : ∀ i, i < ds.length → s.item h1 i = ds[i]?) (hN : ds.length ≤ 1000000)
    (he : ∀ d ∈ ds, OnT (tgS t d (wipeC c vs)) fun c1 => (tt c1 h1).tr (fun k h2 => k = p d ∧ h2 = h1 ∧ (k = true → (te c1 h1).tr (fun x h2 => x = f d ∧ h2 = h1) E0x)) E0x) : rLc r t vs tt te c h = .ok ((ds.filter p).map f) h1 := by
  refine tr_eq (tr_lc (s := s) (h1 := h1) ds.length (fun i acc h2 => acc = ((ds.take i).filter p).map f ∧ h2 = h1) hr hl hN ⟨rfl, rfl⟩ (fun i hi2 acc h2 ⟨q1, q2⟩ => ?_) fun acc h2 ⟨q1, q2⟩ => ?_)
  · subst q1 q2
    obtain ⟨c1, e1, e2⟩ := he ds[i] (List.getElem_mem hi2)
    refine ⟨ds[i], by rw [hi i hi2]; exact List.getElem?_eq_getElem hi2, c1, e1, ?_⟩
    refine tr_use e2 fun k h3 ⟨x1, x2, x3⟩ => ?_
    subst x2
    have e4 : ds.take (i + 1) = ds.take i ++ [ds[i]] := by rw [List.take_add_one, List.getElem?_eq_getElem hi2]; rfl
    cases k with
    | true =>
      rw [if_pos rfl]
      refine tr_use (x3 rfl) fun x h4 ⟨y1, y2⟩ => ⟨?_, y2⟩
      rw [e4, List.filter_append, List.filter_cons, if_pos x1.symm]
      simp [y1]
    | false =>
      rw [if_neg (by simp)]
      refine ⟨?_, rfl⟩
      rw [e4, List.filter_append, List.filter_cons, if_neg (by rw [← x1]; simp)]
      simp
  · subst q1 q2
    exact ⟨hl, by rw [List.take_length], rfl⟩
/-- while: a measure goes down -/
theorem tr_while {t : En → Hx → R Bool} {b : En → Hx → SR} (Inv : Nat → En → Hx → Prop)
    (step : ∀ n c h, Inv n c h → (t c h).tr (fun k h1 => if k = true then (b c h1).tr { P with nx := fun c2 h2 => ∃ m, m < n ∧ Inv m c2 h2, ct := fun c2 h2 => ∃ m, m < n ∧ Inv m c2 h2, bk := P.nx } else P.nx c h1) fun e h1 => P.ex e c h1) :
    ∀ (n : Nat) (c : En) (h : Hx), Inv n c h → (sWh t b c h).tr P := by
  intro n
  induction n using Nat.strongRecOn with
  | ind n ih =>
    intro c h i
    have q := step n c h i
    rw [sWh_eq, tr_toS]
    refine tr_imp q (fun k h1 q => ?_) fun _ _ z => z
    cases k with
    | false => exact q
    | true =>
      have q : (b c h1).tr _ := q
      rw [if_pos rfl]
      cases z : b c h1 with
      | no => rw [z] at q; exact q.elim
      | nx c2 h2 => rw [z] at q; obtain ⟨m, hm, q⟩ := q; exact ih m hm _ _ q
      | ct c2 h2 => rw [z] at q; obtain ⟨m, hm, q⟩ := q; exact ih m hm _ _ q
      | bk c2 h2 => rw [z] at q; exact q
      | rt c2 h2 => rw [z] at q; exact q
      | ex c2 h2 => rw [z] at q; exact q
/-! calls -/
theorem tr_fn {md : Md} {n N : Nat} {b : En → Hx → SR} {ds : List D} (hn : ds.length = n) (q : (b (ds.map some ++ List.replicate (N - ds.length) none) h).tr { nx := fun _ h' => (rEnd md h.length .non h').tr Q E, rt := fun d h' => (rEnd md h.length d h').tr Q E, ex := fun x _ h' => (rEndX md h.length x h').tr Q E }) : (fnOf md n N b ds h).tr Q E := by
  unfold fnOf
  rw [if_pos hn]
  cases z : b (ds.map some ++ List.replicate (N - ds.length) none) h with
  | no => rw [z] at q; exact q.elim
  | nx c2 h2 => rw [z] at q; exact q
  | ct c2 h2 => rw [z] at q; exact q.elim
  | bk c2 h2 => rw [z] at q; exact q.elim
  | rt c2 h2 => rw [z] at q; exact q
  | ex c2 h2 => rw [z] at q; exact q
@[simp] theorem re_keep (n : Nat) (d : D) : rEnd .keep n d h = .ok d h := rfl
@[simp] theorem rx_keep (n : Nat) (d : Addr) : rEndX .keep n d h = .ex d h := rfl
end
/-! small numbers -/
theorem sm_of {i : Int} (q : i.natAbs < 2 ^ 3999) : sm i = true := by
  unfold sm
  rw [decide_eq_true_eq]
  by_cases z : i.natAbs = 0
  · rw [z]; decide
  · exact Nat.lt_of_lt_of_le ((Nat.log2_lt z).mpr q) (by decide)
theorem sm_b {i : Int} (q1 : -(10 ^ 300) ≤ i) (q2 : i ≤ 10 ^ 300) : sm i = true := sm_of (Nat.lt_of_le_of_lt (m := 10 ^ 300) (by omega) (by decide +kernel))
end PV
namespace K78
open PySem PySem.Spec PyProof.Rows L2 PV
/-- _law_deal -/
def b_l_deal (Γ : Gm) : En → Hx → SR :=
    (sSeq (sAsg (rC (.int 0)) (.nm 2))
    (sSeq (sIf (rB (r2 opLt (rV 1) (rCall gLen (aCons (rV 0) aNil)))) (sAsg (r2 opMod (r2 opIx (rV 0) (rV 1)) (r2 opMul (r2 opMul (r2 opMul (r2 opPow (rC (.int 10)) (rC (.int 60))) (r2 opPow (rC (.int 10)) (rC (.int 60)))) (r2 opPow (rC (.int 10)) (rC (.int 60)))) (r2 opPow (rC (.int 10)) (rC (.int 60))))) (.nm 2)) sNil)
    (sSeq (sIf (rB (r2 opGe (rV 2) (r2 opPow (rC (.int 10)) (rC (.int 18))))) (sRet (rMut (fDis (aCons (r2 opSub (rV 2) (r2 opPow (rC (.int 10)) (rC (.int 18)))) aNil)))) sNil)
    (sSeq (sAsg (r2 opAdd (r2 opAdd (r2 opMod (rV 2) (rC (.int 2147483629))) (r2 opMul (rC (.int 7919)) (rV 1))) (rC (.int 1))) (.nm 3))
    (sSeq (sAsg (rC (.int 0)) (.nm 4))
    (sSeq (sFor (iOf (aCons (rC (.int 40)) aNil) fRg1) (.nm 5) (sSeq (sAsg (r2 opMod (r2 opAdd (r2 opMul (rV 3) (rC (.int 48271))) (rC (.int 12345))) (rC (.int 2147483647))) (.nm 3))
    (sAsg (r2 opAdd (r2 opMul (rV 4) (rC (.int 16777216))) (r2 opMod (r2 opDivP (r2 opMod (r2 opMul (rV 3) (rV 3)) (rC (.int 2147483629))) (rC (.int 64))) (rC (.int 16777216)))) (.nm 4))))
    (sRet (rMut (fDis (aCons (rV 4) aNil))))))))))
def f_l_deal (Γ : Gm) : List D → Hx → R D := fnOf .keep 2 6 (b_l_deal Γ)

/-- _law_take -/
def b_l_take (Γ : Gm) : En → Hx → SR :=
    (sSeq (sAsg (r2 opMod (r2 opIx (rV 0) (rC (.int 0))) (rV 1)) (.nm 2))
    (sSeq (sPut (rV 0) (rC (.int 0)) (r2 opDivP (r2 opIx (rV 0) (rC (.int 0))) (rV 1)))
    (sRet (rV 2))))
def f_l_take (Γ : Gm) : List D → Hx → R D := fnOf .keep 2 3 (b_l_take Γ)

/-- _law_many -/
def b_l_many (Γ : Gm) : En → Hx → SR :=
    (sRet (r2 opAdd (rC (.int 1)) (rCall (f_l_take Γ) (aCons (rV 0) (aCons (r2 opIx (rFro (fDis (aCons (rC (.int 8)) (aCons (rC (.int 24)) aNil)))) (r2 opDivP (rCall (f_l_take Γ) (aCons (rV 0) (aCons (rC (.int 4)) aNil))) (rC (.int 3)))) aNil)))))
def f_l_many (Γ : Gm) : List D → Hx → R D := fnOf .keep 1 1 (b_l_many Γ)

/-- _law_row_told -/
def b_l_row_told (Γ : Gm) : En → Hx → SR :=
    (sSeq (sAsg (r2 opIx (rFro (fDis (aCons (rC (.int 1)) (aCons (rC (.int 1)) (aCons (r2 opPow (rC (.int 10)) (rC (.int 57))) aNil))))) (rCall (f_l_take Γ) (aCons (rV 0) (aCons (rC (.int 3)) aNil)))) (.nm 2))
    (sRet (rFro (rLc (iOf (aCons (rV 1) aNil) fRg1) (.nm 3) [3] tt1 (r2 opAdd (r2 opMul (rV 2) (r2 opSub (rCall (f_l_take Γ) (aCons (rV 0) (aCons (rC (.int 19)) aNil))) (rC (.int 9)))) (rCall (f_l_take Γ) (aCons (rV 0) (aCons (rC (.int 3)) aNil))))))))
def f_l_row_told (Γ : Gm) : List D → Hx → R D := fnOf .keep 2 4 (b_l_row_told Γ)

/-- SumBook.__init__ -/
def b_SumBook___init__ (Γ : Gm) : En → Hx → SR :=
    (sSeq (sFldD Γ.SumBook nmBook 0 (rV 0) (rV 1))
    (sFldD Γ.SumBook nmBook 1 (rV 0) (rMut (fDis aNil))))
def f_SumBook___init__ (Γ : Gm) : List D → Hx → R D := fnOf .keep 2 2 (b_SumBook___init__ Γ)

/-- _law_two -/
def b_l_two (Γ : Gm) : En → Hx → SR :=
    (sRet (rFro (fDis (aCons (rCall gSum (aCons (rFro (fSl3 (rV 0) rNoPart rNoPart (rPart (rC (.int 2))))) aNil)) (aCons (rCall gSum (aCons (rFro (fSl3 (rV 0) (rPart (rC (.int 1))) rNoPart (rPart (rC (.int 2))))) aNil)) aNil)))))
def f_l_two (Γ : Gm) : List D → Hx → R D := fnOf .keep 1 1 (b_l_two Γ)

/-- _law_stretch -/
def b_l_stretch (Γ : Gm) : En → Hx → SR :=
    (sSeq (sAsg (rCall (f_l_take Γ) (aCons (rV 0) (aCons (rV 1) aNil))) (.nm 2))
    (sRet (rTup (aCons (rV 2) (aCons (r2 opAdd (rV 2) (rCall (f_l_take Γ) (aCons (rV 0) (aCons (r2 opIx (rFro (fDis (aCons (r2 opSub (rV 1) (rV 2)) (aCons (rCall gMin2 (aCons (r2 opSub (rV 1) (rV 2)) (aCons (rC (.int 4)) aNil))) aNil)))) (rCall (f_l_take Γ) (aCons (rV 0) (aCons (rC (.int 2)) aNil)))) aNil)))) aNil)))))
def f_l_stretch (Γ : Gm) : List D → Hx → R D := fnOf .keep 2 3 (b_l_stretch Γ)

/-- _law_total_told -/
def b_l_total_told (Γ : Gm) : En → Hx → SR :=
    (sRet (r2 opAdd (rCall gSum (aCons (rSl (rV 1) (rPart (rV 2)) (rPart (r2 opAdd (rV 3) (rC (.int 1))))) aNil)) (r2 opIx (rFro (fDis (aCons (rC (.int 0)) (aCons (rC (.int 0)) (aCons (rC (.int 0)) (aCons (rC (.int 1)) (aCons (r1 opNeg (rC (.int 1))) (aCons (r2 opPow (rC (.int 10)) (rC (.int 59))) aNil)))))))) (rCall (f_l_take Γ) (aCons (rV 0) (aCons (rC (.int 6)) aNil))))))
def f_l_total_told (Γ : Gm) : List D → Hx → R D := fnOf .keep 4 4 (b_l_total_told Γ)

/-- SumBook.cuts_of -/
def b_SumBook_cuts_of (Γ : Gm) : En → Hx → SR :=
    (sSeq (sIf (tNotD (rB (rCh3 opLe opLe opLt (rC (.int 0)) (rV 1) (rV 2) (rFld Γ.SumBook nmBook 0 (rV 0))))) (sRaise Γ.NoPlace) sNil)
    (sRet (rTup (aCons (rV 1) (aCons (r2 opAdd (rV 2) (rC (.int 1))) aNil)))))
def f_SumBook_cuts_of (Γ : Gm) : List D → Hx → R D := fnOf .keep 3 3 (b_SumBook_cuts_of Γ)

/-- SumBook.ways_on -/
def b_SumBook_ways_on (Γ : Gm) : En → Hx → SR :=
    (sSeq (sAsg (rMut (fDis aNil)) (.nm 2))
    (sSeq (sFor (iOf (aCons (rFld Γ.SumBook nmBook 1 (rV 0)) aNil) fEn) (.tp (.cons (.nm 3) (.cons (.tp (.cons (.nm 4) (.cons (.nm 5) (.cons (.nm 6) .nil)))) .nil))) (sSeq (sIf (rB (r2 opEq (rV 4) (rV 1))) (sDo (rBM mApp (rV 2) (aCons (rTup (aCons (rV 5) (aCons (rV 3) (aCons (rC (.int 1)) aNil)))) aNil))) sNil)
    (sIf (rB (r2 opEq (rV 5) (rV 1))) (sDo (rBM mApp (rV 2) (aCons (rTup (aCons (rV 4) (aCons (rV 3) (aCons (r1 opNeg (rC (.int 1))) aNil)))) aNil))) sNil)))
    (sRet (rFz 2))))
def f_SumBook_ways_on (Γ : Gm) : List D → Hx → R D := fnOf .cut 2 7 (b_SumBook_ways_on Γ)

/-- SumBook.ways_from -/
noncomputable def b_SumBook_ways_from (Γ : Gm) : En → Hx → SR :=
    (sSeq (sAsg (rDOne (rV 1) (rFro (fDis aNil))) (.nm 2))
    (sSeq (sAsg (rMut (fDis (aCons (rV 1) aNil))) (.nm 3))
    (sSeq (sAsg (rC (.int 0)) (.nm 4))
    (sSeq (sWh (rB (r2 opLt (rV 4) (rCall gLen (aCons (rV 3) aNil)))) (sSeq (sAsg (r2 opIx (rV 3) (rV 4)) (.nm 5))
    (sSeq (sFor (iOf (rMeth Γ.SumBook nmBook "ways_on" (f_SumBook_ways_on Γ) (rV 0) (aCons (rV 5) aNil)) fSq) (.tp (.cons (.nm 6) (.cons (.nm 7) (.cons (.nm 8) .nil)))) (sIf (rB (rDIn true (rV 6) (rV 2))) (sSeq (sDPutD (rV 2) (rV 6) (r2 opAdd (rDGet (rV 2) (rV 5)) (rFro (fDis (aCons (rTup (aCons (rV 7) (aCons (rV 8) aNil))) aNil)))))
    (sDo (rBM mApp (rV 3) (aCons (rV 6) aNil)))) sNil))
    (sAsg (r2 opAdd (rV 4) (rC (.int 1))) (.nm 4)))))
    (sRet (rV 2))))))
noncomputable def f_SumBook_ways_from (Γ : Gm) : List D → Hx → R D := fnOf .one 2 9 (b_SumBook_ways_from Γ)

/-- SumBook.signs_for -/
noncomputable def b_SumBook_signs_for (Γ : Gm) : En → Hx → SR :=
    (sSeq (sAsg (rMeth Γ.SumBook nmBook "cuts_of" (f_SumBook_cuts_of Γ) (rV 0) (aCons (rV 1) (aCons (rV 2) aNil))) (.tp (.cons (.nm 3) (.cons (.nm 4) .nil))))
    (sSeq (sAsg (rDGet1 (rMeth Γ.SumBook nmBook "ways_from" (f_SumBook_ways_from Γ) (rV 0) (aCons (rV 3) aNil)) (rV 4)) (.nm 5))
    (sSeq (sIf (rB (r2 opIsN (rV 5) (rC .non))) (sRet (rC .non)) sNil)
    (sRet (rMut (fCall gSortP (aCons (rV 5) aNil)))))))
noncomputable def f_SumBook_signs_for (Γ : Gm) : List D → Hx → R D := fnOf .one 3 6 (b_SumBook_signs_for Γ)

/-- SumBook.total_by -/
def b_SumBook_total_by (Γ : Gm) : En → Hx → SR :=
    (sRet (rCall gSum (aCons (rFro (rLc (iOf (rV 1) fSq) (.tp (.cons (.nm 2) (.cons (.nm 3) .nil))) [2, 3] tt1 (r2 opMul (rV 3) (r2 opIx (r2 opIx (rFld Γ.SumBook nmBook 1 (rV 0)) (rV 2)) (rC (.int 2)))))) aNil)))
def f_SumBook_total_by (Γ : Gm) : List D → Hx → R D := fnOf .keep 2 4 (b_SumBook_total_by Γ)

/-- SumBook.tell_sum -/
noncomputable def b_SumBook_tell_sum (Γ : Gm) : En → Hx → SR :=
    (sSeq (sAsg (rMeth Γ.SumBook nmBook "signs_for" (f_SumBook_signs_for Γ) (rV 0) (aCons (rV 1) (aCons (rV 2) aNil))) (.nm 4))
    (sSeq (sIf (rB (r2 opIsN (rV 4) (rC .non))) (sSeq (sDo (rBM mApp (rFld Γ.SumBook nmBook 1 (rV 0)) (aCons (r2 opAdd (rMeth Γ.SumBook nmBook "cuts_of" (f_SumBook_cuts_of Γ) (rV 0) (aCons (rV 1) (aCons (rV 2) aNil))) (rTup (aCons (rV 3) aNil))) aNil)))
    (sRet (rTup (aCons (rC (.str "new")) (aCons (r2 opSub (rCall gLen (aCons (rFld Γ.SumBook nmBook 1 (rV 0)) aNil)) (rC (.int 1))) aNil))))) sNil)
    (sSeq (sIf (rB (r2 opEq (rMeth Γ.SumBook nmBook "total_by" (f_SumBook_total_by Γ) (rV 0) (aCons (rV 4) aNil)) (rV 3))) (sRet (rTup (aCons (rC (.str "known")) (aCons (rV 4) aNil)))) sNil)
    (sRet (rTup (aCons (rC (.str "clash")) (aCons (rV 4) aNil)))))))
noncomputable def f_SumBook_tell_sum (Γ : Gm) : List D → Hx → R D := fnOf .keep 4 5 (b_SumBook_tell_sum Γ)

/-- _law_labels -/
def b_l_labels (Γ : Gm) : En → Hx → SR :=
    (sSeq (sAsg (rFro (fLrg1 (r2 opAdd (rV 0) (rC (.int 1))))) (.nm 2))
    (sSeq (sFor (iOf (rV 1) fSq) (.tp (.cons (.nm 3) (.cons (.nm 4) (.cons (.nm 5) .nil)))) (sSeq (sAsg (rTup (aCons (r2 opIx (rV 2) (rV 3)) (aCons (r2 opIx (rV 2) (r2 opAdd (rV 4) (rC (.int 1)))) aNil))) (.tp (.cons (.nm 6) (.cons (.nm 7) .nil))))
    (sAsg (rFro (rLc (iOf (rV 2) fSq) (.nm 8) [8] tt1 (r2 opIx (rTup (aCons (rV 8) (aCons (rCall gMin2 (aCons (rV 6) (aCons (rV 7) aNil))) aNil))) (rCall gInt (aCons (r2 (opIn false) (rV 8) (rTup (aCons (rV 6) (aCons (rV 7) aNil)))) aNil))))) (.nm 2))))
    (sRet (rV 2))))
def f_l_labels (Γ : Gm) : List D → Hx → R D := fnOf .keep 2 9 (b_l_labels Γ)

/-- _law_whole -/
def b_l_whole (Γ : Gm) : En → Hx → SR :=
    (sRet (rAndV (rCall gIsi (aCons (rV 0) (aCons (rC (.ty "int")) aNil))) (rNotV (rCall gIsi (aCons (rV 0) (aCons (rC (.ty "bool")) aNil))))))
def f_l_whole (Γ : Gm) : List D → Hx → R D := fnOf .keep 1 1 (b_l_whole Γ)

/-- _law_are_signs -/
def b_l_are_signs (Γ : Gm) : En → Hx → SR :=
    (sSeq (sIf (tOrD (tNotD (rB (rCall gIsi (aCons (rV 4) (aCons (rC (.ty "list")) aNil))))) (tNotD (rB (rCall gAll (aCons (rFro (rLc (iOf (rV 4) fSq) (.nm 10) [10] tt1 (rAndV (rCall gIsi (aCons (rV 10) (aCons (rC (.ty "tuple")) aNil))) (r2 opEq (rCall gLen (aCons (rV 10) aNil)) (rC (.int 2)))))) aNil))))) (sRet (rC (.bl false))) sNil)
    (sSeq (sAsg (rFro (rLc (iOf (rV 4) fSq) (.tp (.cons (.nm 7) (.cons (.nm 8) .nil))) [7, 8] tt1 (rV 7))) (.nm 5))
    (sSeq (sIf (tOrD (rB (r2 opNe (rV 5) (rFro (fSset (rV 5))))) (tNotD (rB (rCall gAll (aCons (rFro (rLc (iOf (rV 5) fSq) (.nm 7) [7] tt1 (rCall (f_l_whole Γ) (aCons (rV 7) aNil)))) aNil))))) (sRet (rC (.bl false))) sNil)
    (sSeq (sAsg (rMut (fRep (rFro (fDis (aCons (rC (.int 0)) aNil))) (rV 0))) (.nm 6))
    (sSeq (sFor (iOf (rV 4) fSq) (.tp (.cons (.nm 7) (.cons (.nm 8) .nil))) (sSeq (sIf (tOrD (tNotD (rB (rCh opLe opLt (rC (.int 0)) (rV 7) (rCall gLen (aCons (rV 1) aNil))))) (tOrD (tNotD (rB (rCall (f_l_whole Γ) (aCons (rV 8) aNil)))) (rB (r2 (opIn true) (rV 8) (rTup (aCons (rC (.int 1)) (aCons (r1 opNeg (rC (.int 1))) aNil))))))) (sRet (rC (.bl false))) sNil)
    (sFor (iOf (aCons (r2 opIx (r2 opIx (rV 1) (rV 7)) (rC (.int 0))) (aCons (r2 opAdd (r2 opIx (r2 opIx (rV 1) (rV 7)) (rC (.int 1))) (rC (.int 1))) aNil)) fRg2) (.nm 9) (sPut (rV 6) (rV 9) (r2 opAdd (r2 opIx (rV 6) (rV 9)) (rV 8))))))
    (sRet (r2 opEq (rV 6) (rFro (rLc (iOf (aCons (rV 0) aNil) fRg1) (.nm 9) [9] tt1 (rCall gInt (aCons (rCh opLe opLe (rV 2) (rV 9) (rV 3)) aNil)))))))))))
def f_l_are_signs (Γ : Gm) : List D → Hx → R D := fnOf .cut 5 11 (b_l_are_signs Γ)

/-- _law_total -/
def b_l_total (Γ : Gm) : En → Hx → SR :=
    (sRet (rCall gSum (aCons (rFro (rLc (iOf (rV 1) fSq) (.tp (.cons (.nm 2) (.cons (.nm 3) .nil))) [2, 3] tt1 (r2 opMul (rV 3) (r2 opIx (r2 opIx (rV 0) (rV 2)) (rC (.int 2)))))) aNil)))
def f_l_total (Γ : Gm) : List D → Hx → R D := fnOf .keep 2 4 (b_l_total Γ)

/-- _law_told_right -/
def b_l_told_right (Γ : Gm) : En → Hx → SR :=
    (sSeq (sAsg (rCall (f_l_labels Γ) (aCons (rV 0) (aCons (rV 1) aNil))) (.nm 6))
    (sSeq (sIf (tOrD (tNotD (rB (rCall gIsi (aCons (rV 5) (aCons (rC (.ty "tuple")) aNil))))) (rB (r2 opNe (rCall gLen (aCons (rV 5) aNil)) (rC (.int 2))))) (sRet (rC (.bl false))) sNil)
    (sSeq (sIf (rB (r2 opNe (r2 opIx (rV 6) (rV 2)) (r2 opIx (rV 6) (r2 opAdd (rV 3) (rC (.int 1)))))) (sSeq (sDo (rBM mApp (rV 1) (aCons (rTup (aCons (rV 2) (aCons (rV 3) (aCons (rV 4) aNil)))) aNil)))
    (sRet (rAndV (r2 opEq (rV 5) (rTup (aCons (rC (.str "new")) (aCons (r2 opSub (rCall gLen (aCons (rV 1) aNil)) (rC (.int 1))) aNil)))) (rCall (f_l_whole Γ) (aCons (r2 opIx (rV 5) (rC (.int 1))) aNil))))) sNil)
    (sSeq (sIf (tNotD (rB (rCall (f_l_are_signs Γ) (aCons (rV 0) (aCons (rV 1) (aCons (rV 2) (aCons (rV 3) (aCons (r2 opIx (rV 5) (rC (.int 1))) aNil)))))))) (sRet (rC (.bl false))) sNil)
    (sRet (r2 opEq (r2 opIx (rV 5) (rC (.int 0))) (r2 opIx (rTup (aCons (rC (.str "clash")) (aCons (rC (.str "known")) aNil))) (rCall gInt (aCons (r2 opEq (rCall (f_l_total Γ) (aCons (rV 1) (aCons (r2 opIx (rV 5) (rC (.int 1))) aNil))) (rV 4)) aNil)))))))))
def f_l_told_right (Γ : Gm) : List D → Hx → R D := fnOf .keep 6 7 (b_l_told_right Γ)

/-- law -/
noncomputable def b_law (Γ : Gm) : En → Hx → SR :=
    (sSeq (sFor (iOf (aCons (rC (.int 2)) aNil) fRg1) (.nm 1) (sSeq (sAsg (rCall (f_l_deal Γ) (aCons (rCall (f_l_two Γ) (aCons (rV 0) aNil)) (aCons (rV 1) aNil))) (.nm 2))
    (sSeq (sAsg (rCall (f_l_many Γ) (aCons (rV 2) aNil)) (.nm 3))
    (sSeq (sAsg (rCall (f_l_row_told Γ) (aCons (rV 2) (aCons (rV 3) aNil))) (.nm 4))
    (sSeq (sAsg (rMake Γ.SumBook nmBook (f_SumBook___init__ Γ) (aCons (rV 3) aNil)) (.nm 5))
    (sSeq (sAsg (rMut (fDis aNil)) (.nm 6))
    (sFor (iOf (aCons (r2 opIx (rFro (fDis (aCons (r2 opAdd (rC (.int 2)) (rCall (f_l_take Γ) (aCons (rV 2) (aCons (rC (.int 11)) aNil)))) (aCons (rC (.int 60)) aNil)))) (r2 opDivP (rCall (f_l_take Γ) (aCons (rV 2) (aCons (rC (.int 3)) aNil))) (rC (.int 2)))) aNil) fRg1) (.nm 7) (sSeq (sAsg (rCall (f_l_stretch Γ) (aCons (rV 2) (aCons (rV 3) aNil))) (.tp (.cons (.nm 8) (.cons (.nm 9) .nil))))
    (sSeq (sAsg (rCall (f_l_total_told Γ) (aCons (rV 2) (aCons (rV 4) (aCons (rV 8) (aCons (rV 9) aNil))))) (.nm 10))
    (sSeq (sAsg (rMeth Γ.SumBook nmBook "tell_sum" (f_SumBook_tell_sum Γ) (rV 5) (aCons (rV 8) (aCons (rV 9) (aCons (rV 10) aNil)))) (.nm 11))
    (sSeq (sIf (tNotD (rB (rCall (f_l_told_right Γ) (aCons (rV 3) (aCons (rV 6) (aCons (rV 8) (aCons (rV 9) (aCons (rV 10) (aCons (rV 11) aNil))))))))) (sRet (rC (.bl false))) sNil)
    (sIf (rB (rCall gIsi (aCons (r2 opIx (rV 11) (rC (.int 1))) (aCons (rC (.ty "list")) aNil)))) (sDo (rBM mApp (r2 opIx (rV 11) (rC (.int 1))) (aCons (rTup (aCons (rC (.int 0)) (aCons (rC (.int 1)) aNil))) aNil))) sNil))))))))))))
    (sRet (rC (.bl true))))
noncomputable def f_law (Γ : Gm) : List D → Hx → R D := fnOf .cut 1 12 (b_law Γ)

end K78
namespace K79
open PySem PySem.Spec PyProof.Rows L2 PV K78
/-- _law_deal -/
def b_l_deal (Γ : Gm) : En → Hx → SR :=
    (sSeq (sAsg (rC (.int 0)) (.nm 2))
    (sSeq (sIf (rB (r2 opLt (rV 1) (rCall gLen (aCons (rV 0) aNil)))) (sAsg (r2 opMod (r2 opIx (rV 0) (rV 1)) (r2 opMul (r2 opMul (r2 opMul (r2 opPow (rC (.int 10)) (rC (.int 60))) (r2 opPow (rC (.int 10)) (rC (.int 60)))) (r2 opPow (rC (.int 10)) (rC (.int 60)))) (r2 opPow (rC (.int 10)) (rC (.int 60))))) (.nm 2)) sNil)
    (sSeq (sIf (rB (r2 opGe (rV 2) (r2 opPow (rC (.int 10)) (rC (.int 18))))) (sRet (rMut (fDis (aCons (r2 opSub (rV 2) (r2 opPow (rC (.int 10)) (rC (.int 18)))) aNil)))) sNil)
    (sSeq (sAsg (r2 opAdd (r2 opAdd (r2 opMod (rV 2) (rC (.int 2147483629))) (r2 opMul (rC (.int 7919)) (rV 1))) (rC (.int 1))) (.nm 3))
    (sSeq (sAsg (rC (.int 0)) (.nm 4))
    (sSeq (sFor (iOf (aCons (rC (.int 64)) aNil) fRg1) (.nm 5) (sSeq (sAsg (r2 opMod (r2 opAdd (r2 opMul (rV 3) (rC (.int 48271))) (rC (.int 12345))) (rC (.int 2147483647))) (.nm 3))
    (sAsg (r2 opAdd (r2 opMul (rV 4) (rC (.int 16777216))) (r2 opMod (r2 opDivP (r2 opMod (r2 opMul (rV 3) (rV 3)) (rC (.int 2147483629))) (rC (.int 64))) (rC (.int 16777216)))) (.nm 4))))
    (sRet (rMut (fDis (aCons (rV 4) aNil))))))))))
def f_l_deal (Γ : Gm) : List D → Hx → R D := fnOf .keep 2 6 (b_l_deal Γ)

/-- SumBook.can_come -/
def b_SumBook_can_come (Γ : Gm) : En → Hx → SR :=
    (sRet (r2 opSub (rFld Γ.SumBook nmBook 0 (rV 0)) (rCall gLen (aCons (rFld Γ.SumBook nmBook 1 (rV 0)) aNil))))
def f_SumBook_can_come (Γ : Gm) : List D → Hx → R D := fnOf .keep 1 1 (b_SumBook_can_come Γ)

/-- SumBook.known_many -/
noncomputable def b_SumBook_known_many (Γ : Gm) : En → Hx → SR :=
    (sRet (rCall gSum (aCons (rFro (rLc (iOf (aCons (rFld Γ.SumBook nmBook 0 (rV 0)) aNil) fRg1) (.nm 1) [1] tt1 (rCall gLen (aCons (rFro (rLc (rKeys (rMeth Γ.SumBook nmBook "ways_from" (K78.f_SumBook_ways_from Γ) (rV 0) (aCons (rV 1) aNil))) (.nm 2) [2] (rB (r2 opGt (rV 2) (rV 1))) (rV 2))) aNil)))) aNil)))
noncomputable def f_SumBook_known_many (Γ : Gm) : List D → Hx → R D := fnOf .cut 1 3 (b_SumBook_known_many Γ)

/-- _law_counts_right -/
noncomputable def b_l_counts_right (Γ : Gm) : En → Hx → SR :=
    (sSeq (sAsg (rCall (K78.f_l_labels Γ) (aCons (rV 1) (aCons (rV 2) aNil))) (.nm 3))
    (sSeq (sAsg (rC (.int 0)) (.nm 4))
    (sSeq (sFor (iOf (aCons (r2 opAdd (rV 1) (rC (.int 1))) aNil) fRg1) (.nm 5) (sAsg (r2 opAdd (rV 4) (rBM mCnt (rSl (rV 3) rNoPart (rPart (rV 5))) (aCons (r2 opIx (rV 3) (rV 5)) aNil))) (.nm 4)))
    (sSeq (sAsg (rTup (aCons (rMeth Γ.SumBook nmBook "can_come" (f_SumBook_can_come Γ) (rV 0) aNil) (aCons (rMeth Γ.SumBook nmBook "known_many" (f_SumBook_known_many Γ) (rV 0) aNil) aNil))) (.nm 6))
    (sRet (rAndV (r2 opEq (rV 6) (rTup (aCons (r2 opSub (rV 1) (rCall gLen (aCons (rV 2) aNil))) (aCons (rV 4) aNil)))) (rAndV (rCall (K78.f_l_whole Γ) (aCons (r2 opIx (rV 6) (rC (.int 0))) aNil)) (rCall (K78.f_l_whole Γ) (aCons (r2 opIx (rV 6) (rC (.int 1))) aNil)))))))))
noncomputable def f_l_counts_right (Γ : Gm) : List D → Hx → R D := fnOf .keep 3 7 (b_l_counts_right Γ)

/-- SumBook.ask_sum -/
noncomputable def b_SumBook_ask_sum (Γ : Gm) : En → Hx → SR :=
    (sSeq (sAsg (rMeth Γ.SumBook nmBook "signs_for" (K78.f_SumBook_signs_for Γ) (rV 0) (aCons (rV 1) (aCons (rV 2) aNil))) (.nm 3))
    (sSeq (sIf (rB (r2 opIsN (rV 3) (rC .non))) (sRet (rTup (aCons (rC (.str "free")) (aCons (rC .non) aNil)))) sNil)
    (sRet (rTup (aCons (rC (.str "sum")) (aCons (rMeth Γ.SumBook nmBook "total_by" (K78.f_SumBook_total_by Γ) (rV 0) (aCons (rV 3) aNil)) (aCons (rV 3) aNil)))))))
noncomputable def f_SumBook_ask_sum (Γ : Gm) : List D → Hx → R D := fnOf .keep 3 4 (b_SumBook_ask_sum Γ)

/-- _law_asked_right -/
def b_l_asked_right (Γ : Gm) : En → Hx → SR :=
    (sSeq (sAsg (rCall (K78.f_l_labels Γ) (aCons (rV 0) (aCons (rV 1) aNil))) (.nm 5))
    (sSeq (sIf (rB (r2 opNe (r2 opIx (rV 5) (rV 2)) (r2 opIx (rV 5) (r2 opAdd (rV 3) (rC (.int 1)))))) (sRet (r2 opEq (rV 4) (rTup (aCons (rC (.str "free")) (aCons (rC .non) aNil))))) sNil)
    (sSeq (sIf (tOrD (tNotD (rB (rCall gIsi (aCons (rV 4) (aCons (rC (.ty "tuple")) aNil))))) (tOrD (rB (r2 opNe (rCall gLen (aCons (rV 4) aNil)) (rC (.int 3)))) (tOrD (rB (r2 opNe (r2 opIx (rV 4) (rC (.int 0))) (rC (.str "sum")))) (tNotD (rB (rCall (K78.f_l_whole Γ) (aCons (r2 opIx (rV 4) (rC (.int 1))) aNil))))))) (sRet (rC (.bl false))) sNil)
    (sRet (rAndV (rCall (K78.f_l_are_signs Γ) (aCons (rV 0) (aCons (rV 1) (aCons (rV 2) (aCons (rV 3) (aCons (r2 opIx (rV 4) (rC (.int 2))) aNil)))))) (r2 opEq (r2 opIx (rV 4) (rC (.int 1))) (rCall (K78.f_l_total Γ) (aCons (rV 1) (aCons (r2 opIx (rV 4) (rC (.int 2))) aNil)))))))))
def f_l_asked_right (Γ : Gm) : List D → Hx → R D := fnOf .keep 5 6 (b_l_asked_right Γ)

/-- _law_asks_right -/
noncomputable def b_l_asks_right (Γ : Gm) : En → Hx → SR :=
    (sSeq (sAsg (r2 opAdd (rFro (rLc (iOf (aCons (rC (.int 3)) aNil) fRg1) (.nm 9) [9] tt1 (rCall (K78.f_l_stretch Γ) (aCons (rV 0) (aCons (rV 2) aNil))))) (rFro (fDis (aCons (rV 4) aNil)))) (.nm 5))
    (sSeq (sFor (iOf (rV 5) fSq) (.tp (.cons (.nm 6) (.cons (.nm 7) .nil))) (sSeq (sAsg (rMeth Γ.SumBook nmBook "ask_sum" (f_SumBook_ask_sum Γ) (rV 1) (aCons (rV 6) (aCons (rV 7) aNil))) (.nm 8))
    (sSeq (sIf (tNotD (rB (rCall (f_l_asked_right Γ) (aCons (rV 2) (aCons (rV 3) (aCons (rV 6) (aCons (rV 7) (aCons (rV 8) aNil)))))))) (sRet (rC (.bl false))) sNil)
    (sIf (rB (r2 opEq (r2 opIx (rV 8) (rC (.int 0))) (rC (.str "sum")))) (sSeq (sDo (rBM mClear (r2 opIx (rV 8) (rC (.int 2))) aNil))
    (sIf (tNotD (rB (rCall (f_l_asked_right Γ) (aCons (rV 2) (aCons (rV 3) (aCons (rV 6) (aCons (rV 7) (aCons (rMeth Γ.SumBook nmBook "ask_sum" (f_SumBook_ask_sum Γ) (rV 1) (aCons (rV 6) (aCons (rV 7) aNil))) aNil)))))))) (sRet (rC (.bl false))) sNil)) sNil))))
    (sRet (rCall (f_l_counts_right Γ) (aCons (rV 1) (aCons (rV 2) (aCons (rV 3) aNil)))))))
noncomputable def f_l_asks_right (Γ : Gm) : List D → Hx → R D := fnOf .keep 5 10 (b_l_asks_right Γ)

/-- law -/
noncomputable def b_law (Γ : Gm) : En → Hx → SR :=
    (sSeq (sFor (iOf (aCons (rC (.int 2)) aNil) fRg1) (.nm 1) (sSeq (sAsg (rCall (f_l_deal Γ) (aCons (rCall (K78.f_l_two Γ) (aCons (rV 0) aNil)) (aCons (rV 1) aNil))) (.nm 2))
    (sSeq (sAsg (rCall (K78.f_l_many Γ) (aCons (rV 2) aNil)) (.nm 3))
    (sSeq (sAsg (rCall (K78.f_l_row_told Γ) (aCons (rV 2) (aCons (rV 3) aNil))) (.nm 4))
    (sSeq (sAsg (rMake Γ.SumBook nmBook (K78.f_SumBook___init__ Γ) (aCons (rV 3) aNil)) (.nm 5))
    (sSeq (sAsg (rMut (fDis aNil)) (.nm 6))
    (sSeq (sIf (tNotD (rB (rCall (f_l_asks_right Γ) (aCons (rV 2) (aCons (rV 5) (aCons (rV 3) (aCons (rV 6) (aCons (rTup (aCons (rC (.int 0)) (aCons (r2 opSub (rV 3) (rC (.int 1))) aNil))) aNil)))))))) (sRet (rC (.bl false))) sNil)
    (sFor (iOf (aCons (r2 opAdd (rC (.int 3)) (rCall (K78.f_l_take Γ) (aCons (rV 2) (aCons (rC (.int 22)) aNil)))) aNil) fRg1) (.nm 7) (sSeq (sAsg (rCall (K78.f_l_stretch Γ) (aCons (rV 2) (aCons (rV 3) aNil))) (.tp (.cons (.nm 8) (.cons (.nm 9) .nil))))
    (sSeq (sAsg (rCall (K78.f_l_total_told Γ) (aCons (rV 2) (aCons (rV 4) (aCons (rV 8) (aCons (rV 9) aNil))))) (.nm 10))
    (sSeq (sFor (iOf (aCons (rC (.int 2)) aNil) fRg1) (.nm 11) (sIf (tNotD (rB (rCall (K78.f_l_told_right Γ) (aCons (rV 3) (aCons (rV 6) (aCons (rV 8) (aCons (rV 9) (aCons (rV 10) (aCons (rMeth Γ.SumBook nmBook "tell_sum" (K78.f_SumBook_tell_sum Γ) (rV 5) (aCons (rV 8) (aCons (rV 9) (aCons (rV 10) aNil)))) aNil))))))))) (sRet (rC (.bl false))) sNil))
    (sIf (tNotD (rB (rCall (f_l_asks_right Γ) (aCons (rV 2) (aCons (rV 5) (aCons (rV 3) (aCons (rV 6) (aCons (rTup (aCons (rV 8) (aCons (rV 9) aNil))) aNil)))))))) (sRet (rC (.bl false))) sNil))))))))))))
    (sRet (rC (.bl true))))
noncomputable def f_law (Γ : Gm) : List D → Hx → R D := fnOf .cut 1 12 (b_law Γ)

end K79
namespace K81
open PySem PySem.Spec PyProof.Rows L2 PV K78 K79
/-- SumBook.take_back -/
def b_SumBook_take_back (Γ : Gm) : En → Hx → SR :=
    (sSeq (sIf (rB (r2 opEq (rFld Γ.SumBook nmBook 1 (rV 0)) (rFro (fDis aNil)))) (sRaise Γ.NoPast) sNil)
    (sDo (rBM mPop (rFld Γ.SumBook nmBook 1 (rV 0)) aNil)))
def f_SumBook_take_back (Γ : Gm) : List D → Hx → R D := fnOf .keep 1 1 (b_SumBook_take_back Γ)

/-- _law_back -/
def b_l_back (Γ : Gm) : En → Hx → SR :=
    (sSeq (sAsg (rC .non) (.nm 3))
    (sSeq (sFor (iOf (aCons (rCall gMin2 (aCons (rCall gLen (aCons (rV 2) aNil)) (aCons (r2 opAdd (rC (.int 1)) (rCall (K78.f_l_take Γ) (aCons (rV 0) (aCons (rC (.int 3)) aNil)))) aNil))) aNil) fRg1) (.nm 4) (sSeq (sIf (rB (r2 opNotN (rMeth Γ.SumBook nmBook "take_back" (f_SumBook_take_back Γ) (rV 1) aNil) (rC .non))) (sRet (rC (.str "wrong"))) sNil)
    (sAsg (rBM mPop (rV 2) aNil) (.nm 3))))
    (sRet (rV 3))))
def f_l_back (Γ : Gm) : List D → Hx → R D := fnOf .keep 3 5 (b_l_back Γ)

/-- law -/
noncomputable def b_law (Γ : Gm) : En → Hx → SR :=
    (sSeq (sFor (iOf (aCons (rC (.int 2)) aNil) fRg1) (.nm 1) (sSeq (sAsg (rCall (K78.f_l_deal Γ) (aCons (rCall (K78.f_l_two Γ) (aCons (rV 0) aNil)) (aCons (rV 1) aNil))) (.nm 2))
    (sSeq (sAsg (rCall (K78.f_l_many Γ) (aCons (rV 2) aNil)) (.nm 3))
    (sSeq (sAsg (rCall (K78.f_l_row_told Γ) (aCons (rV 2) (aCons (rV 3) aNil))) (.nm 4))
    (sSeq (sAsg (rMake Γ.SumBook nmBook (K78.f_SumBook___init__ Γ) (aCons (rV 3) aNil)) (.nm 5))
    (sSeq (sAsg (rMut (fDis aNil)) (.nm 6))
    (sSeq (sAsg (rC .non) (.nm 7))
    (sFor (iOf (aCons (r2 opAdd (rC (.int 4)) (rCall (K78.f_l_take Γ) (aCons (rV 2) (aCons (rC (.int 27)) aNil)))) aNil) fRg1) (.nm 8) (sSeq (sAsg (rCall (K78.f_l_stretch Γ) (aCons (rV 2) (aCons (rV 3) aNil))) (.tp (.cons (.nm 9) (.cons (.nm 10) .nil))))
    (sSeq (sAsg (rCall (K78.f_l_total_told Γ) (aCons (rV 2) (aCons (rV 4) (aCons (rV 9) (aCons (rV 10) aNil))))) (.nm 11))
    (sSeq (sIf (rB (r2 opEq (rCall (K78.f_l_take Γ) (aCons (rV 2) (aCons (rC (.int 4)) aNil))) (rC (.int 0)))) (sSeq (sAsg (rCall (f_l_back Γ) (aCons (rV 2) (aCons (rV 5) (aCons (rV 6) aNil)))) (.nm 7))
    (sSeq (sIf (tOrD (rB (r2 opEq (rV 7) (rC (.str "wrong")))) (tNotD (rB (rCall (K79.f_l_counts_right Γ) (aCons (rV 5) (aCons (rV 3) (aCons (rV 6) aNil))))))) (sRet (rC (.bl false))) sNil)
    (sIf (tAndD (rB (r2 opNotN (rV 7) (rC .non))) (rB (r2 opEq (rCall (K78.f_l_take Γ) (aCons (rV 2) (aCons (rC (.int 2)) aNil))) (rC (.int 0))))) (sPar3 9 10 11 (r2 opIx (rV 7) (rC (.int 0))) (r2 opIx (rV 7) (rC (.int 1))) (r2 opAdd (r2 opIx (rV 7) (rC (.int 2))) (rC (.int 1)))) sNil))) sNil)
    (sSeq (sIf (tNotD (rB (rCall (K78.f_l_told_right Γ) (aCons (rV 3) (aCons (rV 6) (aCons (rV 9) (aCons (rV 10) (aCons (rV 11) (aCons (rMeth Γ.SumBook nmBook "tell_sum" (K78.f_SumBook_tell_sum Γ) (rV 5) (aCons (rV 9) (aCons (rV 10) (aCons (rV 11) aNil)))) aNil))))))))) (sRet (rC (.bl false))) sNil)
    (sSeq (sAsg (rCall (K78.f_l_stretch Γ) (aCons (rV 2) (aCons (rV 3) aNil))) (.tp (.cons (.nm 9) (.cons (.nm 10) .nil))))
    (sIf (tOrD (tNotD (rB (rCall (K79.f_l_asked_right Γ) (aCons (rV 3) (aCons (rV 6) (aCons (rV 9) (aCons (rV 10) (aCons (rMeth Γ.SumBook nmBook "ask_sum" (K79.f_SumBook_ask_sum Γ) (rV 5) (aCons (rV 9) (aCons (rV 10) aNil))) aNil)))))))) (tNotD (rB (rCall (K79.f_l_counts_right Γ) (aCons (rV 5) (aCons (rV 3) (aCons (rV 6) aNil))))))) (sRet (rC (.bl false))) sNil))))))))))))))
    (sRet (rC (.bl true))))
noncomputable def f_law (Γ : Gm) : List D → Hx → R D := fnOf .cut 1 12 (b_law Γ)

end K81
namespace K83
open PySem PySem.Spec PyProof.Rows L2 PV K78 K79 K81
/-- _law_all_known -/
noncomputable def b_l_all_known (Γ : Gm) : En → Hx → SR :=
    (sSeq (sAsg (rCall gLen (aCons (rV 3) aNil)) (.nm 4))
    (sSeq (sFor (iOf (aCons (rC (.int 12)) aNil) fRg1) (.nm 5) (sSeq (sAsg (rCall (K78.f_l_stretch Γ) (aCons (rV 0) (aCons (rV 4) aNil))) (.tp (.cons (.nm 6) (.cons (.nm 7) .nil))))
    (sSeq (sAsg (rCall gSum (aCons (rSl (rV 3) (rPart (rV 6)) (rPart (r2 opAdd (rV 7) (rC (.int 1))))) aNil)) (.nm 8))
    (sIf (tOrD (rB (r2 opNe (rSl (rMeth Γ.SumBook nmBook "ask_sum" (K79.f_SumBook_ask_sum Γ) (rV 1) (aCons (rV 6) (aCons (rV 7) aNil))) rNoPart (rPart (rC (.int 2)))) (rTup (aCons (rC (.str "sum")) (aCons (rV 8) aNil))))) (rB (r2 opNe (r2 opIx (rMeth Γ.SumBook nmBook "tell_sum" (K78.f_SumBook_tell_sum Γ) (rV 1) (aCons (rV 6) (aCons (rV 7) (aCons (r2 opAdd (rV 8) (rC (.int 1))) aNil)))) (rC (.int 0))) (rC (.str "clash"))))) (sRet (rC (.bl false))) sNil))))
    (sSeq (sIf (tNotD (rB (rCall (K78.f_l_are_signs Γ) (aCons (rV 4) (aCons (rV 2) (aCons (rC (.int 0)) (aCons (r2 opSub (rV 4) (rC (.int 1))) (aCons (r2 opIx (rMeth Γ.SumBook nmBook "ask_sum" (K79.f_SumBook_ask_sum Γ) (rV 1) (aCons (rC (.int 0)) (aCons (r2 opSub (rV 4) (rC (.int 1))) aNil))) (rC (.int 2))) aNil)))))))) (sRet (rC (.bl false))) sNil)
    (sRet (rAndV (r2 opEq (rMeth Γ.SumBook nmBook "can_come" (K79.f_SumBook_can_come Γ) (rV 1) aNil) (rC (.int 0))) (r2 opEq (rMeth Γ.SumBook nmBook "known_many" (K79.f_SumBook_known_many Γ) (rV 1) aNil) (r2 opDivP (r2 opMul (rV 4) (r2 opAdd (rV 4) (rC (.int 1)))) (rC (.int 2)))))))))
noncomputable def f_l_all_known (Γ : Gm) : List D → Hx → R D := fnOf .keep 4 9 (b_l_all_known Γ)

/-- law -/
noncomputable def b_law (Γ : Gm) : En → Hx → SR :=
    (sSeq (sFor (iOf (aCons (rC (.int 2)) aNil) fRg1) (.nm 1) (sSeq (sAsg (rCall (K78.f_l_deal Γ) (aCons (rCall (K78.f_l_two Γ) (aCons (rV 0) aNil)) (aCons (rV 1) aNil))) (.nm 2))
    (sSeq (sAsg (rCall (K78.f_l_row_told Γ) (aCons (rV 2) (aCons (rCall (K78.f_l_many Γ) (aCons (rV 2) aNil)) aNil))) (.nm 3))
    (sSeq (sAsg (rCall gLen (aCons (rV 3) aNil)) (.nm 4))
    (sSeq (sAsg (rMake Γ.SumBook nmBook (K78.f_SumBook___init__ Γ) (aCons (rV 4) aNil)) (.nm 5))
    (sSeq (sAsg (rFro (rLc (iOf (aCons (rCall (K78.f_l_take Γ) (aCons (rV 2) (aCons (rC (.int 25)) aNil))) aNil) fRg1) (.nm 13) [13] tt1 (rCall (K78.f_l_stretch Γ) (aCons (rV 2) (aCons (rV 4) aNil))))) (.nm 6))
    (sSeq (sAsg (rMut (fDis aNil)) (.nm 7))
    (sSeq (sAsg (rMut (fDis aNil)) (.nm 8))
    (sSeq (sFor (iOf (r2 opAdd (rV 6) (rFro (rLc (iOf (aCons (rV 4) aNil) fRg1) (.nm 14) [14] tt1 (rTup (aCons (rV 14) (aCons (rV 14) aNil)))))) fSq) (.tp (.cons (.nm 9) (.cons (.nm 10) .nil))) (sSeq (sAsg (rMeth Γ.SumBook nmBook "ask_sum" (K79.f_SumBook_ask_sum Γ) (rV 5) (aCons (rV 9) (aCons (rV 10) aNil))) (.nm 11))
    (sSeq (sIf (tAndD (rB (r2 opEq (r2 opIx (rV 11) (rC (.int 0))) (rC (.str "sum")))) (rB (r2 opNe (r2 opIx (rV 11) (rC (.int 1))) (rCall gSum (aCons (rSl (rV 3) (rPart (rV 9)) (rPart (r2 opAdd (rV 10) (rC (.int 1))))) aNil))))) (sRet (rC (.bl false))) sNil)
    (sSeq (sIf (rB (r2 opEq (r2 opIx (rV 11) (rC (.int 0))) (rC (.str "free")))) (sSeq (sAsg (rC .non) (.nm 12))
    (sSeq (sIf (rB (r2 opEq (r2 opMod (rCall gLen (aCons (rV 7) aNil)) (rC (.int 3))) (rC (.int 0)))) (sAsg (rMeth Γ.SumBook nmBook "known_many" (K79.f_SumBook_known_many Γ) (rV 5) aNil) (.nm 12)) sNil)
    (sSeq (sDo (rBM mApp (rV 7) (aCons (rV 12) aNil)))
    (sDo (rBM mApp (rV 8) (aCons (rTup (aCons (rV 9) (aCons (rV 10) (aCons (rC (.int 0)) aNil)))) aNil)))))) sNil)
    (sIf (rB (r2 opNe (r2 opIx (rMeth Γ.SumBook nmBook "tell_sum" (K78.f_SumBook_tell_sum Γ) (rV 5) (aCons (rV 9) (aCons (rV 10) (aCons (rCall gSum (aCons (rSl (rV 3) (rPart (rV 9)) (rPart (r2 opAdd (rV 10) (rC (.int 1))))) aNil)) aNil)))) (rC (.int 0))) (r2 opIx (rTup (aCons (rC (.str "known")) (aCons (rC (.str "new")) aNil))) (rCall gInt (aCons (r2 opEq (r2 opIx (rV 11) (rC (.int 0))) (rC (.str "free"))) aNil))))) (sRet (rC (.bl false))) sNil)))))
    (sSeq (sIf (tOrD (rB (r2 opNe (rCall gLen (aCons (rV 7) aNil)) (rV 4))) (tNotD (rB (rCall (f_l_all_known Γ) (aCons (rV 2) (aCons (rV 5) (aCons (rV 8) (aCons (rV 3) aNil)))))))) (sRet (rC (.bl false))) sNil)
    (sFor (iOf (rV 7) fRv) (.nm 12) (sSeq (sDo (rMeth Γ.SumBook nmBook "take_back" (K81.f_SumBook_take_back Γ) (rV 5) aNil))
    (sIf (tAndD (rB (r2 opNotN (rV 12) (rC .non))) (rB (r2 opNe (rMeth Γ.SumBook nmBook "known_many" (K79.f_SumBook_known_many Γ) (rV 5) aNil) (rV 12)))) (sRet (rC (.bl false))) sNil)))))))))))))
    (sRet (rC (.bl true))))
noncomputable def f_law (Γ : Gm) : List D → Hx → R D := fnOf .cut 1 15 (b_law Γ)

end K83
namespace K83
open PySem PySem.Spec PyProof.Rows L2 PV K78 K79 K81
def topS (i : Nat) : Stmt := PySem.Challenge.pw_tellsum_k83_whole_books_by_a_row.main.body.getD i (.Pass ⟨0, 0, 0, 0⟩)
abbrev s_l_deal : Stmt := topS 7
abbrev s_l_take : Stmt := topS 8
abbrev s_l_row_told : Stmt := topS 14
abbrev s_SumBook___init__ : Stmt := inClass (topS 5) 0
abbrev s_l_two : Stmt := topS 10
abbrev s_l_many : Stmt := topS 12
abbrev s_l_stretch : Stmt := topS 13
abbrev s_SumBook_cuts_of : Stmt := inClass (topS 5) 1
abbrev s_SumBook_ways_on : Stmt := inClass (topS 5) 2
abbrev s_SumBook_ways_from : Stmt := inClass (topS 5) 3
abbrev s_SumBook_signs_for : Stmt := inClass (topS 5) 5
abbrev s_SumBook_total_by : Stmt := inClass (topS 5) 4
abbrev s_SumBook_ask_sum : Stmt := inClass (topS 5) 7
abbrev s_SumBook_take_back : Stmt := inClass (topS 5) 10
abbrev s_l_whole : Stmt := topS 9
abbrev s_l_are_signs : Stmt := topS 11
abbrev s_SumBook_can_come : Stmt := inClass (topS 5) 8
abbrev s_SumBook_known_many : Stmt := inClass (topS 5) 9
abbrev s_SumBook_tell_sum : Stmt := inClass (topS 5) 6
abbrev s_l_all_known : Stmt := topS 15
abbrev s_law : Stmt := topS 16
structure Ad where
  a_l_deal : Addr
  a_l_take : Addr
  a_l_row_told : Addr
  a_SumBook___init__ : Addr
  a_l_two : Addr
  a_l_many : Addr
  a_l_stretch : Addr
  a_SumBook_cuts_of : Addr
  a_SumBook_ways_on : Addr
  a_SumBook_ways_from : Addr
  a_SumBook_signs_for : Addr
  a_SumBook_total_by : Addr
  a_SumBook_ask_sum : Addr
  a_SumBook_take_back : Addr
  a_l_whole : Addr
  a_l_are_signs : Addr
  a_SumBook_can_come : Addr
  a_SumBook_known_many : Addr
  a_SumBook_tell_sum : Addr
  a_l_all_known : Addr
  a_law : Addr
/-- what the top has left -/
structure Top (K : PySem.W.Frag) (mg : Str → Option Value) (Γ : Gm) (A : Ad) : Prop where
  d_l_deal : HasDef K "_law_deal" "_law_deal" s_l_deal ["script", "k"] A.a_l_deal
  m_l_deal : mg "_law_deal" = some (.ref A.a_l_deal)
  d_l_take : HasDef K "_law_take" "_law_take" s_l_take ["pot", "many"] A.a_l_take
  m_l_take : mg "_law_take" = some (.ref A.a_l_take)
  d_l_row_told : HasDef K "_law_row_told" "_law_row_told" s_l_row_told ["pot", "many"] A.a_l_row_told
  m_l_row_told : mg "_law_row_told" = some (.ref A.a_l_row_told)
  d_SumBook___init__ : HasDef K "__init__" "SumBook.__init__" s_SumBook___init__ ["self", "many"] A.a_SumBook___init__
  d_l_two : HasDef K "_law_two" "_law_two" s_l_two ["script"] A.a_l_two
  m_l_two : mg "_law_two" = some (.ref A.a_l_two)
  d_l_many : HasDef K "_law_many" "_law_many" s_l_many ["pot"] A.a_l_many
  m_l_many : mg "_law_many" = some (.ref A.a_l_many)
  d_l_stretch : HasDef K "_law_stretch" "_law_stretch" s_l_stretch ["pot", "many"] A.a_l_stretch
  m_l_stretch : mg "_law_stretch" = some (.ref A.a_l_stretch)
  d_SumBook_cuts_of : HasDef K "cuts_of" "SumBook.cuts_of" s_SumBook_cuts_of ["self", "a", "b"] A.a_SumBook_cuts_of
  me_SumBook_cuts_of : Meth K Γ.SumBook "cuts_of" A.a_SumBook_cuts_of
  d_SumBook_ways_on : HasDef K "ways_on" "SumBook.ways_on" s_SumBook_ways_on ["self", "cut"] A.a_SumBook_ways_on
  me_SumBook_ways_on : Meth K Γ.SumBook "ways_on" A.a_SumBook_ways_on
  d_SumBook_ways_from : HasDef K "ways_from" "SumBook.ways_from" s_SumBook_ways_from ["self", "cut"] A.a_SumBook_ways_from
  me_SumBook_ways_from : Meth K Γ.SumBook "ways_from" A.a_SumBook_ways_from
  d_SumBook_signs_for : HasDef K "signs_for" "SumBook.signs_for" s_SumBook_signs_for ["self", "a", "b"] A.a_SumBook_signs_for
  me_SumBook_signs_for : Meth K Γ.SumBook "signs_for" A.a_SumBook_signs_for
  d_SumBook_total_by : HasDef K "total_by" "SumBook.total_by" s_SumBook_total_by ["self", "signs"] A.a_SumBook_total_by
  me_SumBook_total_by : Meth K Γ.SumBook "total_by" A.a_SumBook_total_by
  d_SumBook_ask_sum : HasDef K "ask_sum" "SumBook.ask_sum" s_SumBook_ask_sum ["self", "a", "b"] A.a_SumBook_ask_sum
  me_SumBook_ask_sum : Meth K Γ.SumBook "ask_sum" A.a_SumBook_ask_sum
  d_SumBook_take_back : HasDef K "take_back" "SumBook.take_back" s_SumBook_take_back ["self"] A.a_SumBook_take_back
  me_SumBook_take_back : Meth K Γ.SumBook "take_back" A.a_SumBook_take_back
  d_l_whole : HasDef K "_law_whole" "_law_whole" s_l_whole ["thing"] A.a_l_whole
  m_l_whole : mg "_law_whole" = some (.ref A.a_l_whole)
  d_l_are_signs : HasDef K "_law_are_signs" "_law_are_signs" s_l_are_signs ["many", "kept", "a", "b", "signs"] A.a_l_are_signs
  m_l_are_signs : mg "_law_are_signs" = some (.ref A.a_l_are_signs)
  d_SumBook_can_come : HasDef K "can_come" "SumBook.can_come" s_SumBook_can_come ["self"] A.a_SumBook_can_come
  me_SumBook_can_come : Meth K Γ.SumBook "can_come" A.a_SumBook_can_come
  d_SumBook_known_many : HasDef K "known_many" "SumBook.known_many" s_SumBook_known_many ["self"] A.a_SumBook_known_many
  me_SumBook_known_many : Meth K Γ.SumBook "known_many" A.a_SumBook_known_many
  d_SumBook_tell_sum : HasDef K "tell_sum" "SumBook.tell_sum" s_SumBook_tell_sum ["self", "a", "b", "total"] A.a_SumBook_tell_sum
  me_SumBook_tell_sum : Meth K Γ.SumBook "tell_sum" A.a_SumBook_tell_sum
  d_l_all_known : HasDef K "_law_all_known" "_law_all_known" s_l_all_known ["pot", "book", "kept", "row"] A.a_l_all_known
  m_l_all_known : mg "_law_all_known" = some (.ref A.a_l_all_known)
  d_law : HasDef K "law" "law" s_law ["script"] A.a_law
  m_law : mg "law" = some (.ref A.a_law)
  cl_SumBook : Cls K Γ.SumBook
  m_SumBook : mg "SumBook" = some (.ref Γ.SumBook)
  mk_SumBook : Mk K Γ.SumBook A.a_SumBook___init__
  na_SumBook_many : NoAttr K Γ.SumBook "many"
  na_SumBook_kept : NoAttr K Γ.SumBook "kept"
  m_NoPast : mg "NoPast" = some (.ref Γ.NoPast)
  x_NoPast : PySem.W.excIn K Γ.NoPast [.type "ValueError", .type "Exception", .type "BaseException", .type "object"] "ValueError.__new__" = true
  k_NoPast : PySem.W.keepIn K (.ref Γ.NoPast) = true
  e_NoPast : PySem.W.subIn K (.ref Γ.NoPast) (.type "BaseException") = some true
  t_NoPast : PySem.W.typeIn K (.ref Γ.NoPast) = some (.type "type")
  m_NoPlace : mg "NoPlace" = some (.ref Γ.NoPlace)
  x_NoPlace : PySem.W.excIn K Γ.NoPlace [.type "ValueError", .type "Exception", .type "BaseException", .type "object"] "ValueError.__new__" = true
  k_NoPlace : PySem.W.keepIn K (.ref Γ.NoPlace) = true
  e_NoPlace : PySem.W.subIn K (.ref Γ.NoPlace) (.type "BaseException") = some true
  t_NoPlace : PySem.W.typeIn K (.ref Γ.NoPlace) = some (.type "type")
  b_all : mg "all" = none
  b_bool : mg "bool" = none
  b_enumerate : mg "enumerate" = none
  b_int : mg "int" = none
  b_isinstance : mg "isinstance" = none
  b_len : mg "len" = none
  b_list : mg "list" = none
  b_min : mg "min" = none
  b_range : mg "range" = none
  b_reversed : mg "reversed" = none
  b_set : mg "set" = none
  b_sorted : mg "sorted" = none
  b_sum : mg "sum" = none
  b_tuple : mg "tuple" = none
section
variable {P : Program} {w : World} {K : PySem.W.Frag} {mg : Str → Option Value} {base : Heap} {Γ : Gm} {A : Ad}
theorem sc_l_deal : FnScope ["script", "k", "cell", "seed", "number", "turn"] ["script", "k"] (defScope s_l_deal) := ⟨rfl, rfl, rfl, by decide +kernel, rfl, by decide +kernel, by decide +kernel⟩
theorem ok_l_deal (T : Top K mg Γ A) : Ok P w K mg base 1 A.a_l_deal ["script", "k"] (K78.f_l_deal Γ) := ok_of .keep T.d_l_deal sc_l_deal fun cdv Ar outer s H E C po tk =>
    (b_cons (s_set 2 sc_l_deal.nd rfl (.inl rfl) e_int)
    (b_cons (s_if (t_cmp c_lt cmpS (en 1) (e_cb call_len cs_len T.b_len bt_len (by rfl) (a_cons (en 0) a_nil)) (nomark _)) (b_one (s_set 2 sc_l_deal.nd rfl (.inl rfl) (e_mod (e_ix (en 0) (en 1)) (e_mul (e_mul (e_mul (e_pow e_int e_int) (e_pow e_int e_int)) (e_pow e_int e_int)) (e_pow e_int e_int))))) b_nil)
    (b_cons (s_if (t_cmp c_ge cmpS (en 2) (e_pow e_int e_int) (nomark _)) (b_one (s_ret (e_mut (f_lst (a_cons (e_sub (en 2) (e_pow e_int e_int)) a_nil))))) b_nil)
    (b_cons (s_set 3 sc_l_deal.nd rfl (.inl rfl) (e_add (e_add (e_mod (en 2) e_int) (e_mul e_int (en 1))) e_int))
    (b_cons (s_set 4 sc_l_deal.nd rfl (.inl rfl) e_int)
    (b_cons (s_for po rfl (i_rg1 (by rfl) T.b_range (a_cons e_int a_nil)) (g_nm 5 sc_l_deal.nd rfl (by first | exact .inl rfl | exact .inr rfl)) (b_cons (s_set 3 sc_l_deal.nd rfl (.inl rfl) (e_mod (e_add (e_mul (en 3) e_int) e_int) e_int))
    (b_one (s_set 4 sc_l_deal.nd rfl (.inl rfl) (e_add (e_mul (en 4) e_int) (e_mod (e_div (e_mod (e_mul (en 3) (en 3)) e_int) e_int) e_int))))))
    (b_one (s_ret (e_mut (f_lst (a_cons (en 4) a_nil)))))))))))
theorem sc_l_take : FnScope ["pot", "many", "digit"] ["pot", "many"] (defScope s_l_take) := ⟨rfl, rfl, rfl, by decide +kernel, rfl, by decide +kernel, by decide +kernel⟩
theorem ok_l_take (T : Top K mg Γ A) : Ok P w K mg base 1 A.a_l_take ["pot", "many"] (K78.f_l_take Γ) := ok_of .keep T.d_l_take sc_l_take fun cdv Ar outer s H E C po tk =>
    (b_cons (s_set 2 sc_l_take.nd rfl (.inl rfl) (e_mod (e_ix (en 0) e_int) (en 1)))
    (b_cons (s_put (en 0) e_int (e_div (e_ix (en 0) e_int) (en 1)))
    (b_one (s_ret (en 2)))))
theorem sc_l_row_told : FnScope ["pot", "many", "great", "place"] ["pot", "many"] (defScope s_l_row_told) := ⟨rfl, rfl, rfl, by decide +kernel, rfl, by decide +kernel, by decide +kernel⟩
theorem ok_l_row_told (T : Top K mg Γ A) : Ok P w K mg base 2 A.a_l_row_told ["pot", "many"] (K78.f_l_row_told Γ) := ok_of .keep T.d_l_row_told sc_l_row_told fun cdv Ar outer s H E C po tk =>
    (b_cons (s_set 2 sc_l_row_told.nd rfl (.inr rfl) (e_ix (e_fro (f_lst (a_cons e_int (a_cons e_int (a_cons (e_pow e_int e_int) a_nil))))) (c_call (ok_l_take T) C (by decide) T.m_l_take (by rfl) (a_cons (en 0) (a_cons e_int a_nil)))))
    (b_one (s_ret (e_fro (f_lc [("place", 3)] rfl sc_l_row_told.nd (i_rg1 (by rfl) T.b_range (a_cons (en 1) a_nil)) (blkOk_by (N := ["pot", "many", "great", "place"]) (sc := defScope s_l_row_told) (by decide +kernel)) (fun _ _ _ _ _ => (g_nm 3 sc_l_row_told.nd rfl (by first | exact .inl rfl | exact .inr rfl))) (fun _ _ _ _ _ => ts_nil) (fun _ _ _ _ _ => (e_add (e_mul (en 2) (e_sub (c_call (ok_l_take T) (C.blk _ _ _ _ _) (by decide) T.m_l_take (by rfl) (a_cons (en 0) (a_cons e_int a_nil))) e_int)) (c_call (ok_l_take T) (C.blk _ _ _ _ _) (by decide) T.m_l_take (by rfl) (a_cons (en 0) (a_cons e_int a_nil))))))))))
theorem sc_SumBook___init__ : FnScope ["self", "many"] ["self", "many"] (defScope s_SumBook___init__) := ⟨rfl, rfl, rfl, by decide +kernel, rfl, by decide +kernel, by decide +kernel⟩
theorem ok_SumBook___init__ (T : Top K mg Γ A) : Ok P w K mg base 1 A.a_SumBook___init__ ["self", "many"] (K78.f_SumBook___init__ Γ) := ok_of .keep T.d_SumBook___init__ sc_SumBook___init__ fun cdv Ar outer s H E C po tk =>
    (b_cons (s_fld Γ.SumBook nmBook 0 T.cl_SumBook T.na_SumBook_many nd_Book rfl (by decide) (en 0) (en 1))
    (b_one (s_fld Γ.SumBook nmBook 1 T.cl_SumBook T.na_SumBook_kept nd_Book rfl (by decide) (en 0) (e_mut (f_lst a_nil)))))
theorem sc_l_two : FnScope ["script"] ["script"] (defScope s_l_two) := ⟨rfl, rfl, rfl, by decide +kernel, rfl, by decide +kernel, by decide +kernel⟩
theorem ok_l_two (T : Top K mg Γ A) : Ok P w K mg base 1 A.a_l_two ["script"] (K78.f_l_two Γ) := ok_of .keep T.d_l_two sc_l_two fun cdv Ar outer s H E C po tk =>
    (b_one (s_ret (e_fro (f_lst (a_cons (e_cb (cr_sum rfl) cs_sum T.b_sum bt_sum (by rfl) (a_cons (e_fro (f_sl3 (by intro _ _; with_unfolding_all rfl) (en 0) o_none o_none (o_some e_int))) a_nil)) (a_cons (e_cb (cr_sum rfl) cs_sum T.b_sum bt_sum (by rfl) (a_cons (e_fro (f_sl3 (by intro _ _; with_unfolding_all rfl) (en 0) (o_some e_int) o_none (o_some e_int))) a_nil)) a_nil))))))
theorem sc_l_many : FnScope ["pot"] ["pot"] (defScope s_l_many) := ⟨rfl, rfl, rfl, by decide +kernel, rfl, by decide +kernel, by decide +kernel⟩
theorem ok_l_many (T : Top K mg Γ A) : Ok P w K mg base 2 A.a_l_many ["pot"] (K78.f_l_many Γ) := ok_of .keep T.d_l_many sc_l_many fun cdv Ar outer s H E C po tk =>
    (b_one (s_ret (e_add e_int (c_call (ok_l_take T) C (by decide) T.m_l_take (by rfl) (a_cons (en 0) (a_cons (e_ix (e_fro (f_lst (a_cons e_int (a_cons e_int a_nil)))) (e_div (c_call (ok_l_take T) C (by decide) T.m_l_take (by rfl) (a_cons (en 0) (a_cons e_int a_nil))) e_int)) a_nil))))))
theorem sc_l_stretch : FnScope ["pot", "many", "a"] ["pot", "many"] (defScope s_l_stretch) := ⟨rfl, rfl, rfl, by decide +kernel, rfl, by decide +kernel, by decide +kernel⟩
theorem ok_l_stretch (T : Top K mg Γ A) : Ok P w K mg base 2 A.a_l_stretch ["pot", "many"] (K78.f_l_stretch Γ) := ok_of .keep T.d_l_stretch sc_l_stretch fun cdv Ar outer s H E C po tk =>
    (b_cons (s_set 2 sc_l_stretch.nd rfl (.inl rfl) (c_call (ok_l_take T) C (by decide) T.m_l_take (by rfl) (a_cons (en 0) (a_cons (en 1) a_nil))))
    (b_one (s_ret (e_tup (a_cons (en 2) (a_cons (e_add (en 2) (c_call (ok_l_take T) C (by decide) T.m_l_take (by rfl) (a_cons (en 0) (a_cons (e_ix (e_fro (f_lst (a_cons (e_sub (en 1) (en 2)) (a_cons (e_cb (call_min2 rfl) cs_min2 T.b_min bt_min (by rfl) (a_cons (e_sub (en 1) (en 2)) (a_cons e_int a_nil))) a_nil)))) (c_call (ok_l_take T) C (by decide) T.m_l_take (by rfl) (a_cons (en 0) (a_cons e_int a_nil)))) a_nil)))) a_nil))))))
theorem sc_SumBook_cuts_of : FnScope ["self", "a", "b"] ["self", "a", "b"] (defScope s_SumBook_cuts_of) := ⟨rfl, rfl, rfl, by decide +kernel, rfl, by decide +kernel, by decide +kernel⟩
theorem ok_SumBook_cuts_of (T : Top K mg Γ A) : Ok P w K mg base 1 A.a_SumBook_cuts_of ["self", "a", "b"] (K78.f_SumBook_cuts_of Γ) := ok_of .keep T.d_SumBook_cuts_of sc_SumBook_cuts_of fun cdv Ar outer s H E C po tk =>
    (b_cons (s_if (t_not (t_ch3 c_le cmpS c_le cmpS c_lt cmpS e_int (en 1) (en 2) (e_fld Γ.SumBook nmBook 0 T.cl_SumBook T.na_SumBook_many nd_Book rfl (en 0)))) (b_one (s_raise tk rfl PySem.F.excBase_ValueError T.x_NoPlace T.m_NoPlace T.k_NoPlace T.e_NoPlace T.t_NoPlace (by rfl))) b_nil)
    (b_one (s_ret (e_tup (a_cons (en 1) (a_cons (e_add (en 2) e_int) a_nil))))))
theorem sc_SumBook_ways_on : FnScope ["self", "cut", "found", "number", "one", "other", "total"] ["self", "cut"] (defScope s_SumBook_ways_on) := ⟨rfl, rfl, rfl, by decide +kernel, rfl, by decide +kernel, by decide +kernel⟩
theorem ok_SumBook_ways_on (T : Top K mg Γ A) : Ok P w K mg base 1 A.a_SumBook_ways_on ["self", "cut"] (K78.f_SumBook_ways_on Γ) := ok_of .cut T.d_SumBook_ways_on sc_SumBook_ways_on fun cdv Ar outer s H E C po tk =>
    (b_cons (s_set 2 sc_SumBook_ways_on.nd rfl (.inl rfl) (e_mut (f_lst a_nil)))
    (b_cons (s_for po rfl (i_en (by rfl) T.b_enumerate (a_cons (e_fld Γ.SumBook nmBook 1 T.cl_SumBook T.na_SumBook_kept nd_Book rfl (en 0)) a_nil)) (g_tup rfl (gs_cons (g_nm 3 sc_SumBook_ways_on.nd rfl (by first | exact .inl rfl | exact .inr rfl)) (gs_cons (g_tup rfl (gs_cons (g_nm 4 sc_SumBook_ways_on.nd rfl (by first | exact .inl rfl | exact .inr rfl)) (gs_cons (g_nm 5 sc_SumBook_ways_on.nd rfl (by first | exact .inl rfl | exact .inr rfl)) (gs_cons (g_nm 6 sc_SumBook_ways_on.nd rfl (by first | exact .inl rfl | exact .inr rfl)) gs_nil))) 3 rfl rfl (tglS (tglS (tglS tgl0)))) gs_nil)) 2 rfl rfl (tglS (tglS tgl0))) (b_cons (s_if (t_cmp (op_eqD (C.room.units)) opS_eq (en 4) (en 1) (nomark _)) (b_one (s_do (m_append (en 2) (a_cons (e_tup (a_cons (en 5) (a_cons (en 3) (a_cons e_int a_nil)))) a_nil)))) b_nil)
    (b_one (s_if (t_cmp (op_eqD (C.room.units)) opS_eq (en 5) (en 1) (nomark _)) (b_one (s_do (m_append (en 2) (a_cons (e_tup (a_cons (en 4) (a_cons (en 3) (a_cons (e_neg e_int) a_nil)))) a_nil)))) b_nil))))
    (b_one (s_ret (efz 2)))))
theorem sc_SumBook_ways_from : FnScope ["self", "cut", "ways", "reached", "at", "here", "other", "number", "sign"] ["self", "cut"] (defScope s_SumBook_ways_from) := ⟨rfl, rfl, rfl, by decide +kernel, rfl, by decide +kernel, by decide +kernel⟩
theorem ok_SumBook_ways_from (T : Top K mg Γ A) : Ok P w K mg base 2 A.a_SumBook_ways_from ["self", "cut"] (K78.f_SumBook_ways_from Γ) := ok_of .one T.d_SumBook_ways_from sc_SumBook_ways_from fun cdv Ar outer s H E C po tk =>
    (b_cons (s_set 2 sc_SumBook_ways_from.nd rfl (.inl rfl) (e_done (en 1) (e_fro (f_lst a_nil))))
    (b_cons (s_set 3 sc_SumBook_ways_from.nd rfl (.inl rfl) (e_mut (f_lst (a_cons (en 1) a_nil))))
    (b_cons (s_set 4 sc_SumBook_ways_from.nd rfl (.inl rfl) e_int)
    (b_cons (s_while po (t_cmp c_lt cmpS (en 4) (e_cb call_len cs_len T.b_len bt_len (by rfl) (a_cons (en 3) a_nil)) (nomark _)) (b_cons (s_set 5 sc_SumBook_ways_from.nd rfl (.inl rfl) (e_ix (en 3) (en 4)))
    (b_cons (s_for po rfl (i_sq (c_meth nmBook (ok_SumBook_ways_on T) C (by decide) T.cl_SumBook T.me_SumBook_ways_on (by decide +kernel) (en 0) (a_cons (en 5) a_nil))) (g_tup rfl (gs_cons (g_nm 6 sc_SumBook_ways_from.nd rfl (by first | exact .inl rfl | exact .inr rfl)) (gs_cons (g_nm 7 sc_SumBook_ways_from.nd rfl (by first | exact .inl rfl | exact .inr rfl)) (gs_cons (g_nm 8 sc_SumBook_ways_from.nd rfl (by first | exact .inl rfl | exact .inr rfl)) gs_nil))) 3 rfl rfl (tglS (tglS (tglS tgl0)))) (b_one (s_if (t_dnin C (en 6) (en 2)) (b_cons (s_dput C (en 2) (en 6) (e_add (e_dget C (en 2) (en 5)) (e_fro (f_lst (a_cons (e_tup (a_cons (en 7) (a_cons (en 8) a_nil))) a_nil)))))
    (b_one (s_do (m_append (en 3) (a_cons (en 6) a_nil))))) b_nil)))
    (b_one (s_set 4 sc_SumBook_ways_from.nd rfl (.inl rfl) (e_add (en 4) e_int))))))
    (b_one (s_ret (en 2)))))))
theorem sc_SumBook_signs_for : FnScope ["self", "a", "b", "one", "other", "signs"] ["self", "a", "b"] (defScope s_SumBook_signs_for) := ⟨rfl, rfl, rfl, by decide +kernel, rfl, by decide +kernel, by decide +kernel⟩
theorem ok_SumBook_signs_for (T : Top K mg Γ A) : Ok P w K mg base 3 A.a_SumBook_signs_for ["self", "a", "b"] (K78.f_SumBook_signs_for Γ) := ok_of .one T.d_SumBook_signs_for sc_SumBook_signs_for fun cdv Ar outer s H E C po tk =>
    (b_cons (s_asg (c_meth nmBook (ok_SumBook_cuts_of T) C (by decide) T.cl_SumBook T.me_SumBook_cuts_of (by decide +kernel) (en 0) (a_cons (en 1) (a_cons (en 2) a_nil))) (g_tup rfl (gs_cons (g_nm 3 sc_SumBook_signs_for.nd rfl (by first | exact .inl rfl | exact .inr rfl)) (gs_cons (g_nm 4 sc_SumBook_signs_for.nd rfl (by first | exact .inl rfl | exact .inr rfl)) gs_nil)) 2 rfl rfl (tglS (tglS tgl0))))
    (b_cons (s_set 5 sc_SumBook_signs_for.nd rfl (.inl rfl) (e_dget1 C (c_meth nmBook (ok_SumBook_ways_from T) C (by decide) T.cl_SumBook T.me_SumBook_ways_from (by decide +kernel) (en 0) (a_cons (en 3) a_nil)) (en 4)))
    (b_cons (s_if (t_cmp op_isN isnS (en 5) e_non (nomark _)) (b_one (s_ret e_non)) b_nil)
    (b_one (s_ret (e_mut (f_cb cr_sortedPO cf_sortP T.b_sorted bt_sorted (by rfl) (a_cons (en 5) a_nil))))))))
theorem sc_SumBook_total_by : FnScope ["self", "signs", "number", "sign"] ["self", "signs"] (defScope s_SumBook_total_by) := ⟨rfl, rfl, rfl, by decide +kernel, rfl, by decide +kernel, by decide +kernel⟩
theorem ok_SumBook_total_by (T : Top K mg Γ A) : Ok P w K mg base 1 A.a_SumBook_total_by ["self", "signs"] (K78.f_SumBook_total_by Γ) := ok_of .keep T.d_SumBook_total_by sc_SumBook_total_by fun cdv Ar outer s H E C po tk =>
    (b_one (s_ret (e_cb (cr_sum rfl) cs_sum T.b_sum bt_sum (by rfl) (a_cons (e_fro (f_lc [("number", 2), ("sign", 3)] rfl sc_SumBook_total_by.nd (i_sq (en 1)) (blkOk_by (N := ["self", "signs", "number", "sign"]) (sc := defScope s_SumBook_total_by) (by decide +kernel)) (fun _ _ _ _ _ => (g_tup rfl (gs_cons (g_nm 2 sc_SumBook_total_by.nd rfl (by first | exact .inl rfl | exact .inr rfl)) (gs_cons (g_nm 3 sc_SumBook_total_by.nd rfl (by first | exact .inl rfl | exact .inr rfl)) gs_nil)) 2 rfl rfl (tglS (tglS tgl0)))) (fun _ _ _ _ _ => ts_nil) (fun _ _ _ _ _ => (e_mul (en 3) (e_ix (e_ix (e_fld Γ.SumBook nmBook 1 T.cl_SumBook T.na_SumBook_kept nd_Book rfl (en 0)) (en 2)) e_int))))) a_nil))))
theorem sc_SumBook_ask_sum : FnScope ["self", "a", "b", "signs"] ["self", "a", "b"] (defScope s_SumBook_ask_sum) := ⟨rfl, rfl, rfl, by decide +kernel, rfl, by decide +kernel, by decide +kernel⟩
theorem ok_SumBook_ask_sum (T : Top K mg Γ A) : Ok P w K mg base 4 A.a_SumBook_ask_sum ["self", "a", "b"] (K79.f_SumBook_ask_sum Γ) := ok_of .keep T.d_SumBook_ask_sum sc_SumBook_ask_sum fun cdv Ar outer s H E C po tk =>
    (b_cons (s_set 3 sc_SumBook_ask_sum.nd rfl (.inl rfl) (c_meth nmBook (ok_SumBook_signs_for T) C (by decide) T.cl_SumBook T.me_SumBook_signs_for (by decide +kernel) (en 0) (a_cons (en 1) (a_cons (en 2) a_nil))))
    (b_cons (s_if (t_cmp op_isN isnS (en 3) e_non (nomark _)) (b_one (s_ret (e_tup (a_cons e_str (a_cons e_non a_nil))))) b_nil)
    (b_one (s_ret (e_tup (a_cons e_str (a_cons (c_meth nmBook (ok_SumBook_total_by T) C (by decide) T.cl_SumBook T.me_SumBook_total_by (by decide +kernel) (en 0) (a_cons (en 3) a_nil)) (a_cons (en 3) a_nil))))))))
theorem sc_SumBook_take_back : FnScope ["self"] ["self"] (defScope s_SumBook_take_back) := ⟨rfl, rfl, rfl, by decide +kernel, rfl, by decide +kernel, by decide +kernel⟩
theorem ok_SumBook_take_back (T : Top K mg Γ A) : Ok P w K mg base 1 A.a_SumBook_take_back ["self"] (K81.f_SumBook_take_back Γ) := ok_of .keep T.d_SumBook_take_back sc_SumBook_take_back fun cdv Ar outer s H E C po tk =>
    (b_cons (s_if (t_cmp (op_eqD (C.room.units)) opS_eq (e_fld Γ.SumBook nmBook 1 T.cl_SumBook T.na_SumBook_kept nd_Book rfl (en 0)) (e_fro (f_lst a_nil)) (nomark _)) (b_one (s_raise tk rfl PySem.F.excBase_ValueError T.x_NoPast T.m_NoPast T.k_NoPast T.e_NoPast T.t_NoPast (by rfl))) b_nil)
    (b_one (s_do (m_pop (e_fld Γ.SumBook nmBook 1 T.cl_SumBook T.na_SumBook_kept nd_Book rfl (en 0))))))
theorem sc_l_whole : FnScope ["thing"] ["thing"] (defScope s_l_whole) := ⟨rfl, rfl, rfl, by decide +kernel, rfl, by decide +kernel, by decide +kernel⟩
theorem ok_l_whole (T : Top K mg Γ A) : Ok P w K mg base 1 A.a_l_whole ["thing"] (K78.f_l_whole Γ) := ok_of .keep T.d_l_whole sc_l_whole fun cdv Ar outer s H E C po tk =>
    (b_one (s_ret (e_and (e_cb call_isi cs_isi T.b_isinstance bt_isinstance (by rfl) (a_cons (en 0) (a_cons (e_ty T.b_int bt_int (by rfl)) a_nil))) (e_one (e_not (e_cb call_isi cs_isi T.b_isinstance bt_isinstance (by rfl) (a_cons (en 0) (a_cons (e_ty T.b_bool bt_bool (by rfl)) a_nil))))))))
theorem sc_l_are_signs : FnScope ["many", "kept", "a", "b", "signs", "numbers", "counts", "number", "sign", "place", "pair"] ["many", "kept", "a", "b", "signs"] (defScope s_l_are_signs) := ⟨rfl, rfl, rfl, by decide +kernel, rfl, by decide +kernel, by decide +kernel⟩
theorem ok_l_are_signs (T : Top K mg Γ A) : Ok P w K mg base 2 A.a_l_are_signs ["many", "kept", "a", "b", "signs"] (K78.f_l_are_signs Γ) := ok_of .cut T.d_l_are_signs sc_l_are_signs fun cdv Ar outer s H E C po tk =>
    (b_cons (s_if (t_w (w_or (t_not (t_val (e_cb call_isi cs_isi T.b_isinstance bt_isinstance (by rfl) (a_cons (en 4) (a_cons (e_ty T.b_list bt_list (by rfl)) a_nil))))) (w_or1 (t_not (t_val (e_cb (cr_all rfl) cs_all T.b_all bt_all (by rfl) (a_cons (e_fro (f_lc [("pair", 10)] rfl sc_l_are_signs.nd (i_sq (en 4)) (blkOk_by (N := ["many", "kept", "a", "b", "signs", "numbers", "counts", "number", "sign", "place", "pair"]) (sc := defScope s_l_are_signs) (by decide +kernel)) (fun _ _ _ _ _ => (g_nm 10 sc_l_are_signs.nd rfl (by first | exact .inl rfl | exact .inr rfl))) (fun _ _ _ _ _ => ts_nil) (fun _ _ _ _ _ => (e_and (e_cb call_isi cs_isi T.b_isinstance bt_isinstance (by rfl) (a_cons (en 10) (a_cons (e_ty T.b_tuple bt_tuple (by rfl)) a_nil))) (e_one (e_cmp (op_eqD ((C.blk _ _ _ _ _).room.units)) opS_eq (e_cb call_len cs_len T.b_len bt_len (by rfl) (a_cons (en 10) a_nil)) e_int (nomark _))))))) a_nil))))))) (b_one (s_ret e_bl)) b_nil)
    (b_cons (s_lcG [("number", 7), ("sign", 8)] 5 rfl sc_l_are_signs.nd rfl rfl (sw_true rfl rfl rfl (by decide +kernel)) (i_sq (en 4)) (blkOk_by (N := ["many", "kept", "a", "b", "signs", "numbers", "counts", "number", "sign", "place", "pair"]) (sc := defScope s_l_are_signs) (by decide +kernel)) (fun _ _ _ _ _ => (g_tup rfl (gs_cons (g_nm 7 sc_l_are_signs.nd rfl (by first | exact .inl rfl | exact .inr rfl)) (gs_cons (g_nm 8 sc_l_are_signs.nd rfl (by first | exact .inl rfl | exact .inr rfl)) gs_nil)) 2 rfl rfl (tglS (tglS tgl0)))) (fun _ _ _ _ _ => ts_nil) (fun _ _ _ _ _ => (en 7)) fro_red)
    (b_cons (s_if (t_w (w_or (t_cmp (op_neD (C.room.units)) opS_ne (en 5) (e_fro (f_sset rfl T.b_sorted T.b_set (by rfl) (by rfl) (en 5))) (nomark _)) (w_or1 (t_not (t_val (e_cb (cr_all rfl) cs_all T.b_all bt_all (by rfl) (a_cons (e_fro (f_lc [("number", 7)] rfl sc_l_are_signs.nd (i_sq (en 5)) (blkOk_by (N := ["many", "kept", "a", "b", "signs", "numbers", "counts", "number", "sign", "place", "pair"]) (sc := defScope s_l_are_signs) (by decide +kernel)) (fun _ _ _ _ _ => (g_nm 7 sc_l_are_signs.nd rfl (by first | exact .inl rfl | exact .inr rfl))) (fun _ _ _ _ _ => ts_nil) (fun _ _ _ _ _ => (c_call (ok_l_whole T) (C.blk _ _ _ _ _) (by decide) T.m_l_whole (by rfl) (a_cons (en 7) a_nil))))) a_nil))))))) (b_one (s_ret e_bl)) b_nil)
    (b_cons (s_set 6 sc_l_are_signs.nd rfl (.inl rfl) (e_mut (f_rep (e_fro (f_lst (a_cons e_int a_nil))) (en 0))))
    (b_cons (s_for po rfl (i_sq (en 4)) (g_tup rfl (gs_cons (g_nm 7 sc_l_are_signs.nd rfl (by first | exact .inl rfl | exact .inr rfl)) (gs_cons (g_nm 8 sc_l_are_signs.nd rfl (by first | exact .inl rfl | exact .inr rfl)) gs_nil)) 2 rfl rfl (tglS (tglS tgl0))) (b_cons (s_if (t_w (w_or (t_not (t_ch c_le cmpS c_lt cmpS e_int (en 7) (e_cb call_len cs_len T.b_len bt_len (by rfl) (a_cons (en 1) a_nil)))) (w_or (t_not (t_val (c_call (ok_l_whole T) C (by decide) T.m_l_whole (by rfl) (a_cons (en 8) a_nil)))) (w_or1 (t_cmp op_notIn_seq (opS_in true) (en 8) (e_tup (a_cons e_int (a_cons (e_neg e_int) a_nil))) (by rfl)))))) (b_one (s_ret e_bl)) b_nil)
    (b_one (s_for po rfl (i_rg2 (by rfl) T.b_range (a_cons (e_ix (e_ix (en 1) (en 7)) e_int) (a_cons (e_add (e_ix (e_ix (en 1) (en 7)) e_int) e_int) a_nil))) (g_nm 9 sc_l_are_signs.nd rfl (by first | exact .inl rfl | exact .inr rfl)) (b_one (s_put (en 6) (en 9) (e_add (e_ix (en 6) (en 9)) (en 8))))))))
    (b_one (s_ret (e_cmp (op_eqD (C.room.units)) opS_eq (en 6) (e_fro (f_lc [("place", 9)] rfl sc_l_are_signs.nd (i_rg1 (by rfl) T.b_range (a_cons (en 0) a_nil)) (blkOk_by (N := ["many", "kept", "a", "b", "signs", "numbers", "counts", "number", "sign", "place", "pair"]) (sc := defScope s_l_are_signs) (by decide +kernel)) (fun _ _ _ _ _ => (g_nm 9 sc_l_are_signs.nd rfl (by first | exact .inl rfl | exact .inr rfl))) (fun _ _ _ _ _ => ts_nil) (fun _ _ _ _ _ => (e_ct call_int1 cs_int T.b_int bt_int (by rfl) (a_cons (e_ch c_le cmpS c_le cmpS (en 2) (en 9) (en 3)) a_nil))))) (nomark _)))))))))
theorem sc_SumBook_can_come : FnScope ["self"] ["self"] (defScope s_SumBook_can_come) := ⟨rfl, rfl, rfl, by decide +kernel, rfl, by decide +kernel, by decide +kernel⟩
theorem ok_SumBook_can_come (T : Top K mg Γ A) : Ok P w K mg base 1 A.a_SumBook_can_come ["self"] (K79.f_SumBook_can_come Γ) := ok_of .keep T.d_SumBook_can_come sc_SumBook_can_come fun cdv Ar outer s H E C po tk =>
    (b_one (s_ret (e_sub (e_fld Γ.SumBook nmBook 0 T.cl_SumBook T.na_SumBook_many nd_Book rfl (en 0)) (e_cb call_len cs_len T.b_len bt_len (by rfl) (a_cons (e_fld Γ.SumBook nmBook 1 T.cl_SumBook T.na_SumBook_kept nd_Book rfl (en 0)) a_nil)))))
theorem sc_SumBook_known_many : FnScope ["self", "cut", "other"] ["self"] (defScope s_SumBook_known_many) := ⟨rfl, rfl, rfl, by decide +kernel, rfl, by decide +kernel, by decide +kernel⟩
theorem ok_SumBook_known_many (T : Top K mg Γ A) : Ok P w K mg base 3 A.a_SumBook_known_many ["self"] (K79.f_SumBook_known_many Γ) := ok_of .cut T.d_SumBook_known_many sc_SumBook_known_many fun cdv Ar outer s H E C po tk =>
    (b_one (s_ret (e_cb (cr_sum rfl) cs_sum T.b_sum bt_sum (by rfl) (a_cons (e_fro (f_lc [("cut", 1)] rfl sc_SumBook_known_many.nd (i_rg1 (by rfl) T.b_range (a_cons (e_fld Γ.SumBook nmBook 0 T.cl_SumBook T.na_SumBook_many nd_Book rfl (en 0)) a_nil)) (blkOk_by (N := ["self", "cut", "other"]) (sc := defScope s_SumBook_known_many) (by decide +kernel)) (fun _ _ _ _ _ => (g_nm 1 sc_SumBook_known_many.nd rfl (by first | exact .inl rfl | exact .inr rfl))) (fun _ _ _ _ _ => ts_nil) (fun _ _ _ _ _ => (e_cb call_len cs_len T.b_len bt_len (by rfl) (a_cons (e_fro (f_lc [("other", 2)] rfl sc_SumBook_known_many.nd (i_keys (c_meth nmBook (ok_SumBook_ways_from T) (C.blk _ _ _ _ _) (by decide) T.cl_SumBook T.me_SumBook_ways_from (by decide +kernel) (en 0) (a_cons (en 1) a_nil))) (blkOk_by (by rfl)) (fun _ _ _ _ _ => (g_nm 2 sc_SumBook_known_many.nd rfl (by first | exact .inl rfl | exact .inr rfl))) (fun _ _ _ _ _ => ts_one (t_cmp c_gt cmpS (en 2) (en 1) (nomark _))) (fun _ _ _ _ _ => (en 2)))) a_nil))))) a_nil))))
theorem sc_SumBook_tell_sum : FnScope ["self", "a", "b", "total", "signs"] ["self", "a", "b", "total"] (defScope s_SumBook_tell_sum) := ⟨rfl, rfl, rfl, by decide +kernel, rfl, by decide +kernel, by decide +kernel⟩
theorem ok_SumBook_tell_sum (T : Top K mg Γ A) : Ok P w K mg base 4 A.a_SumBook_tell_sum ["self", "a", "b", "total"] (K78.f_SumBook_tell_sum Γ) := ok_of .keep T.d_SumBook_tell_sum sc_SumBook_tell_sum fun cdv Ar outer s H E C po tk =>
    (b_cons (s_set 4 sc_SumBook_tell_sum.nd rfl (.inl rfl) (c_meth nmBook (ok_SumBook_signs_for T) C (by decide) T.cl_SumBook T.me_SumBook_signs_for (by decide +kernel) (en 0) (a_cons (en 1) (a_cons (en 2) a_nil))))
    (b_cons (s_if (t_cmp op_isN isnS (en 4) e_non (nomark _)) (b_cons (s_do (m_append (e_fld Γ.SumBook nmBook 1 T.cl_SumBook T.na_SumBook_kept nd_Book rfl (en 0)) (a_cons (e_add (c_meth nmBook (ok_SumBook_cuts_of T) C (by decide) T.cl_SumBook T.me_SumBook_cuts_of (by decide +kernel) (en 0) (a_cons (en 1) (a_cons (en 2) a_nil))) (e_tup (a_cons (en 3) a_nil))) a_nil)))
    (b_one (s_ret (e_tup (a_cons e_str (a_cons (e_sub (e_cb call_len cs_len T.b_len bt_len (by rfl) (a_cons (e_fld Γ.SumBook nmBook 1 T.cl_SumBook T.na_SumBook_kept nd_Book rfl (en 0)) a_nil)) e_int) a_nil)))))) b_nil)
    (b_cons (s_if (t_cmp (op_eqD (C.room.units)) opS_eq (c_meth nmBook (ok_SumBook_total_by T) C (by decide) T.cl_SumBook T.me_SumBook_total_by (by decide +kernel) (en 0) (a_cons (en 4) a_nil)) (en 3) (nomark _)) (b_one (s_ret (e_tup (a_cons e_str (a_cons (en 4) a_nil))))) b_nil)
    (b_one (s_ret (e_tup (a_cons e_str (a_cons (en 4) a_nil))))))))
theorem sc_l_all_known : FnScope ["pot", "book", "kept", "row", "many", "turn", "a", "b", "due"] ["pot", "book", "kept", "row"] (defScope s_l_all_known) := ⟨rfl, rfl, rfl, by decide +kernel, rfl, by decide +kernel, by decide +kernel⟩
theorem ok_l_all_known (T : Top K mg Γ A) : Ok P w K mg base 5 A.a_l_all_known ["pot", "book", "kept", "row"] (f_l_all_known Γ) := ok_of .keep T.d_l_all_known sc_l_all_known fun cdv Ar outer s H E C po tk =>
    (b_cons (s_set 4 sc_l_all_known.nd rfl (.inl rfl) (e_cb call_len cs_len T.b_len bt_len (by rfl) (a_cons (en 3) a_nil)))
    (b_cons (s_for po rfl (i_rg1 (by rfl) T.b_range (a_cons e_int a_nil)) (g_nm 5 sc_l_all_known.nd rfl (by first | exact .inl rfl | exact .inr rfl)) (b_cons (s_asg (c_call (ok_l_stretch T) C (by decide) T.m_l_stretch (by rfl) (a_cons (en 0) (a_cons (en 4) a_nil))) (g_tup rfl (gs_cons (g_nm 6 sc_l_all_known.nd rfl (by first | exact .inl rfl | exact .inr rfl)) (gs_cons (g_nm 7 sc_l_all_known.nd rfl (by first | exact .inl rfl | exact .inr rfl)) gs_nil)) 2 rfl rfl (tglS (tglS tgl0))))
    (b_cons (s_set 8 sc_l_all_known.nd rfl (.inl rfl) (e_cb (cr_sum rfl) cs_sum T.b_sum bt_sum (by rfl) (a_cons (e_sl (en 3) (o_some (en 6)) (o_some (e_add (en 7) e_int))) a_nil)))
    (b_one (s_if (t_w (w_or (t_cmp (op_neD (C.room.units)) opS_ne (e_sl (c_meth nmBook (ok_SumBook_ask_sum T) C (by decide) T.cl_SumBook T.me_SumBook_ask_sum (by decide +kernel) (en 1) (a_cons (en 6) (a_cons (en 7) a_nil))) o_none (o_some e_int)) (e_tup (a_cons e_str (a_cons (en 8) a_nil))) (nomark _)) (w_or1 (t_cmp (op_neD (C.room.units)) opS_ne (e_ix (c_meth nmBook (ok_SumBook_tell_sum T) C (by decide) T.cl_SumBook T.me_SumBook_tell_sum (by decide +kernel) (en 1) (a_cons (en 6) (a_cons (en 7) (a_cons (e_add (en 8) e_int) a_nil)))) e_int) e_str (nomark _))))) (b_one (s_ret e_bl)) b_nil)))))
    (b_cons (s_if (t_not (t_val (c_call (ok_l_are_signs T) C (by decide) T.m_l_are_signs (by rfl) (a_cons (en 4) (a_cons (en 2) (a_cons e_int (a_cons (e_sub (en 4) e_int) (a_cons (e_ix (c_meth nmBook (ok_SumBook_ask_sum T) C (by decide) T.cl_SumBook T.me_SumBook_ask_sum (by decide +kernel) (en 1) (a_cons e_int (a_cons (e_sub (en 4) e_int) a_nil))) e_int) a_nil)))))))) (b_one (s_ret e_bl)) b_nil)
    (b_one (s_ret (e_and (e_cmp (op_eqD (C.room.units)) opS_eq (c_meth0 nmBook (ok_SumBook_can_come T) C (by decide) T.cl_SumBook T.me_SumBook_can_come (by decide +kernel) (en 1)) e_int (nomark _)) (e_one (e_cmp (op_eqD (C.room.units)) opS_eq (c_meth0 nmBook (ok_SumBook_known_many T) C (by decide) T.cl_SumBook T.me_SumBook_known_many (by decide +kernel) (en 1)) (e_div (e_mul (en 4) (e_add (en 4) e_int)) e_int) (nomark _)))))))))
theorem sc_law : FnScope ["script", "k", "pot", "row", "many", "book", "some", "counts", "kept", "a", "b", "asked", "ahead", "turn", "place"] ["script"] (defScope s_law) := ⟨rfl, rfl, rfl, by decide +kernel, rfl, by decide +kernel, by decide +kernel⟩
theorem fd_law (T : Top K mg Γ A) {fd : FuncData} (F : Fun K "law" "law" s_law A.a_law fd) : FnOk P w K mg base (L2.CX P w) 6 A.a_law fd ["script"] (spOf K (f_law Γ)) := fn_ok .cut F sc_law fun cdv Ar outer s H E C po tk =>
    (b_cons (s_for po rfl (i_rg1 (by rfl) T.b_range (a_cons e_int a_nil)) (g_nm 1 sc_law.nd rfl (by first | exact .inl rfl | exact .inr rfl)) (b_cons (s_set 2 sc_law.nd rfl (.inr rfl) (c_call (ok_l_deal T) C (by decide) T.m_l_deal (by rfl) (a_cons (c_call (ok_l_two T) C (by decide) T.m_l_two (by rfl) (a_cons (en 0) a_nil)) (a_cons (en 1) a_nil))))
    (b_cons (s_set 3 sc_law.nd rfl (.inl rfl) (c_call (ok_l_row_told T) C (by decide) T.m_l_row_told (by rfl) (a_cons (en 2) (a_cons (c_call (ok_l_many T) C (by decide) T.m_l_many (by rfl) (a_cons (en 2) a_nil)) a_nil))))
    (b_cons (s_set 4 sc_law.nd rfl (.inr rfl) (e_cb call_len cs_len T.b_len bt_len (by rfl) (a_cons (en 3) a_nil)))
    (b_cons (s_set 5 sc_law.nd rfl (.inl rfl) (c_make nmBook (ok_SumBook___init__ T) C (by decide) T.mk_SumBook T.m_SumBook (by rfl) (a_cons (en 4) a_nil)))
    (b_cons (s_lcG [("turn", 13)] 6 rfl sc_law.nd rfl rfl (sw_true rfl rfl rfl (by decide +kernel)) (i_rg1 (by rfl) T.b_range (a_cons (c_call (ok_l_take T) C (by decide) T.m_l_take (by rfl) (a_cons (en 2) (a_cons e_int a_nil))) a_nil)) (blkOk_by (N := ["script", "k", "pot", "row", "many", "book", "some", "counts", "kept", "a", "b", "asked", "ahead", "turn", "place"]) (sc := defScope s_law) (by decide +kernel)) (fun _ _ _ _ _ => (g_nm 13 sc_law.nd rfl (by first | exact .inl rfl | exact .inr rfl))) (fun _ _ _ _ _ => ts_nil) (fun _ _ _ _ _ => (c_call (ok_l_stretch T) (C.blk _ _ _ _ _) (by decide) T.m_l_stretch (by rfl) (a_cons (en 2) (a_cons (en 4) a_nil)))) fro_red)
    (b_cons (s_set 7 sc_law.nd rfl (.inl rfl) (e_mut (f_lst a_nil)))
    (b_cons (s_set 8 sc_law.nd rfl (.inl rfl) (e_mut (f_lst a_nil)))
    (b_cons (s_for po rfl (i_sq (e_add (en 6) (e_fro (f_lc [("place", 14)] rfl sc_law.nd (i_rg1 (by rfl) T.b_range (a_cons (en 4) a_nil)) (blkOk_by (N := ["script", "k", "pot", "row", "many", "book", "some", "counts", "kept", "a", "b", "asked", "ahead", "turn", "place"]) (sc := defScope s_law) (by decide +kernel)) (fun _ _ _ _ _ => (g_nm 14 sc_law.nd rfl (by first | exact .inl rfl | exact .inr rfl))) (fun _ _ _ _ _ => ts_nil) (fun _ _ _ _ _ => (e_tup (a_cons (en 14) (a_cons (en 14) a_nil)))))))) (g_tup rfl (gs_cons (g_nm 9 sc_law.nd rfl (by first | exact .inl rfl | exact .inr rfl)) (gs_cons (g_nm 10 sc_law.nd rfl (by first | exact .inl rfl | exact .inr rfl)) gs_nil)) 2 rfl rfl (tglS (tglS tgl0))) (b_cons (s_set 11 sc_law.nd rfl (.inl rfl) (c_meth nmBook (ok_SumBook_ask_sum T) C (by decide) T.cl_SumBook T.me_SumBook_ask_sum (by decide +kernel) (en 5) (a_cons (en 9) (a_cons (en 10) a_nil))))
    (b_cons (s_if (t_w (w_and (t_cmp (op_eqD (C.room.units)) opS_eq (e_ix (en 11) e_int) e_str (nomark _)) (w_and1 (t_cmp (op_neD (C.room.units)) opS_ne (e_ix (en 11) e_int) (e_cb (cr_sum rfl) cs_sum T.b_sum bt_sum (by rfl) (a_cons (e_sl (en 3) (o_some (en 9)) (o_some (e_add (en 10) e_int))) a_nil)) (nomark _))))) (b_one (s_ret e_bl)) b_nil)
    (b_cons (s_if (t_cmp (op_eqD (C.room.units)) opS_eq (e_ix (en 11) e_int) e_str (nomark _)) (b_cons (s_set 12 sc_law.nd rfl (.inl rfl) e_non)
    (b_cons (s_if (t_cmp (op_eqD (C.room.units)) opS_eq (e_mod (e_cb call_len cs_len T.b_len bt_len (by rfl) (a_cons (en 7) a_nil)) e_int) e_int (nomark _)) (b_one (s_set 12 sc_law.nd rfl (.inl rfl) (c_meth0 nmBook (ok_SumBook_known_many T) C (by decide) T.cl_SumBook T.me_SumBook_known_many (by decide +kernel) (en 5)))) b_nil)
    (b_cons (s_do (m_append (en 7) (a_cons (en 12) a_nil)))
    (b_one (s_do (m_append (en 8) (a_cons (e_tup (a_cons (en 9) (a_cons (en 10) (a_cons e_int a_nil)))) a_nil))))))) b_nil)
    (b_one (s_if (t_cmp (op_neD (C.room.units)) opS_ne (e_ix (c_meth nmBook (ok_SumBook_tell_sum T) C (by decide) T.cl_SumBook T.me_SumBook_tell_sum (by decide +kernel) (en 5) (a_cons (en 9) (a_cons (en 10) (a_cons (e_cb (cr_sum rfl) cs_sum T.b_sum bt_sum (by rfl) (a_cons (e_sl (en 3) (o_some (en 9)) (o_some (e_add (en 10) e_int))) a_nil)) a_nil)))) e_int) (e_ix (e_tup (a_cons e_str (a_cons e_str a_nil))) (e_ct call_int1 cs_int T.b_int bt_int (by rfl) (a_cons (e_cmp (op_eqD (C.room.units)) opS_eq (e_ix (en 11) e_int) e_str (nomark _)) a_nil))) (nomark _)) (b_one (s_ret e_bl)) b_nil))))))
    (b_cons (s_if (t_w (w_or (t_cmp (op_neD (C.room.units)) opS_ne (e_cb call_len cs_len T.b_len bt_len (by rfl) (a_cons (en 7) a_nil)) (en 4) (nomark _)) (w_or1 (t_not (t_val (c_call (ok_l_all_known T) C (by decide) T.m_l_all_known (by rfl) (a_cons (en 2) (a_cons (en 5) (a_cons (en 8) (a_cons (en 3) a_nil)))))))))) (b_one (s_ret e_bl)) b_nil)
    (b_one (s_for po rfl (i_rv (by rfl) T.b_reversed (en 7)) (g_nm 12 sc_law.nd rfl (by first | exact .inl rfl | exact .inr rfl)) (b_cons (s_do (c_meth0 nmBook (ok_SumBook_take_back T) C (by decide) T.cl_SumBook T.me_SumBook_take_back (by decide +kernel) (en 5)))
    (b_one (s_if (t_w (w_and (t_cmp op_notN notnS (en 12) e_non (nomark _)) (w_and1 (t_cmp (op_neD (C.room.units)) opS_ne (c_meth0 nmBook (ok_SumBook_known_many T) C (by decide) T.cl_SumBook T.me_SumBook_known_many (by decide +kernel) (en 5)) (en 12) (nomark _))))) (b_one (s_ret e_bl)) b_nil)))))))))))))))
    (b_one (s_ret e_bl)))
end
end K83
namespace K78
open PySem PySem.Spec PyProof.Rows L2 PV
section
variable {Γ : Gm}
/-! ### drawing -/
/-- a pot of a number -/
def Pot (h : Hx) (p : Nat) : Prop := ∃ n : Int, h[p]? = some (.lst [.int n])
/-- only the pot is another one -/
def Drawn (p : Nat) (h h' : Hx) : Prop := ∃ n : Int, h' = h.set p (.lst [.int n])
theorem Pot.lt {h : Hx} {p : Nat} (q : Pot h p) : p < h.length := by
  obtain ⟨n, e⟩ := q
  exact (List.getElem?_eq_some_iff.mp e).1
theorem Pot.drawn {h h' : Hx} {p : Nat} (q : Pot h p) (d : Drawn p h h') : Pot h' p := by
  obtain ⟨n, rfl⟩ := d
  exact ⟨n, by rw [List.getElem?_set_self q.lt]⟩
theorem Drawn.refl {h : Hx} {p : Nat} (q : Pot h p) : Drawn p h h := by
  obtain ⟨n, e⟩ := q
  obtain ⟨l, e⟩ := List.getElem?_eq_some_iff.mp e
  exact ⟨n, by rw [← e, List.set_getElem_self]⟩
theorem Drawn.trans {h h1 h2 : Hx} {p : Nat} (a : Drawn p h h1) (b : Drawn p h1 h2) : Drawn p h h2 := by
  obtain ⟨n, rfl⟩ := a
  obtain ⟨m, rfl⟩ := b
  exact ⟨m, by rw [List.set_set]⟩
theorem Drawn.ne {h h1 : Hx} {p q : Nat} (a : Drawn p h h1) (z : p ≠ q) : h1[q]? = h[q]? := by
  obtain ⟨n, rfl⟩ := a
  exact List.getElem?_set_ne z
theorem Drawn.len {h h1 : Hx} {p : Nat} (a : Drawn p h h1) : h1.length = h.length := by
  obtain ⟨n, rfl⟩ := a
  exact List.length_set
theorem take_tr {h : Hx} {p : Nat} {m : Int} (hp : Pot h p) (hm : 0 < m) (sm1 : sm m = true) : (f_l_take Γ [.ref p, .int m] h).tr (fun d h' => ∃ k : Int, d = .int k ∧ 0 ≤ k ∧ k < m ∧ Drawn p h h') E0x := by
  obtain ⟨n, hp⟩ := hp
  refine tr_fn rfl ?_
  unfold b_l_take
  simp [k_ref hp, m_ref hp, ix_int, atI, hm, sm1, ixN]
  exact ⟨by omega, Int.fmod_nonneg_of_pos _ hm, Int.fmod_lt_of_pos _ hm, _, rfl⟩
theorem many_tr {h : Hx} {p : Nat} (hp : Pot h p) : (f_l_many Γ [.ref p] h).tr (fun d h' => ∃ k : Int, d = .int k ∧ 1 ≤ k ∧ k ≤ 24 ∧ Drawn p h h') E0x := by
  refine tr_fn rfl ?_
  unfold b_l_many
  simp
  refine tr_use (take_tr hp (by decide) (by decide +kernel)) ?_
  rintro _ h1 ⟨k, rfl, k0, k1, dr⟩
  have e : k / 3 = 0 ∨ k / 3 = 1 := by omega
  simp
  refine ⟨by decide +kernel, ?_⟩
  rcases e with e | e <;> rw [e] <;> simp [atI, ixN]
  · refine tr_use (take_tr (hp.drawn dr) (by decide) (by decide +kernel)) ?_
    rintro _ h2 ⟨k, rfl, k0, k1, dr2⟩
    exact ⟨_, rfl, by omega, by omega, dr.trans dr2⟩
  · refine tr_use (take_tr (hp.drawn dr) (by decide) (by decide +kernel)) ?_
    rintro _ h2 ⟨k, rfl, k0, k1, dr2⟩
    exact ⟨_, rfl, by omega, by omega, dr.trans dr2⟩
theorem stretch_tr {h : Hx} {p : Nat} {m : Int} (hp : Pot h p) (hm : 1 ≤ m) (hm2 : m ≤ 1000) : (f_l_stretch Γ [.ref p, .int m] h).tr (fun d h' => ∃ a b : Int, d = .tup [.int a, .int b] ∧ 0 ≤ a ∧ a ≤ b ∧ b < m ∧ Drawn p h h') E0x := by
  refine tr_fn rfl ?_
  unfold b_l_stretch
  simp
  refine tr_use (take_tr hp (by omega) (sm_b (by omega) (by omega))) ?_
  rintro _ h1 ⟨k, rfl, k0, k1, dr⟩
  simp [gMin2]
  refine tr_use (take_tr (hp.drawn dr) (by decide) (by decide +kernel)) ?_
  rintro _ h2 ⟨k', rfl, k0', k1', dr2⟩
  have e : k' = 0 ∨ k' = 1 := by omega
  rcases e with e | e <;> rw [e] <;> simp [atI, ixN]
  · refine tr_use (take_tr ((hp.drawn dr).drawn dr2) (by omega) (sm_b (by omega) (by omega))) ?_
    rintro _ h3 ⟨j, rfl, j0, j1, dr3⟩
    exact ⟨_, _, ⟨rfl, rfl⟩, by omega, by omega, by omega, (dr.trans dr2).trans dr3⟩
  · refine tr_use (take_tr ((hp.drawn dr).drawn dr2) (by split <;> omega) (sm_b (by split <;> omega) (by split <;> omega))) ?_
    rintro _ h3 ⟨j, rfl, j0, j1, dr3⟩
    refine ⟨_, _, ⟨rfl, rfl⟩, by omega, by omega, ?_, (dr.trans dr2).trans dr3⟩
    split at j1 <;> omega
/-- a row of so many numbers, none too great -/
structure RowOk (m : Int) (row : List Int) : Prop where
  len : (row.length : Int) = m
  bd : ∀ x ∈ row, -(10 ^ 59) ≤ x ∧ x ≤ 10 ^ 59
theorem row_tr {h : Hx} {p : Nat} {m : Int} (hp : Pot h p) (hm : 0 ≤ m) (hm2 : m ≤ 1000) : (f_l_row_told Γ [.ref p, .int m] h).tr (fun d h' => ∃ row : List Int, d = .lst (row.map D.int) ∧ RowOk m row ∧ Drawn p h h') E0x := by
  refine tr_fn rfl ?_
  unfold b_l_row_told
  simp
  refine tr_use (take_tr hp (by decide) (by decide +kernel)) ?_
  rintro _ h1 ⟨k, rfl, k0, k1, dr⟩
  have e : k = 0 ∨ k = 1 ∨ k = 2 := by omega
  obtain ⟨g, eg, g0, g1⟩ : ∃ g : Int, atI [D.int 1, D.int 1, D.int (10 ^ 57)] k = some (.int g) ∧ 0 ≤ g ∧ g ≤ 10 ^ 57 := by
    rcases e with e | e | e <;> rw [e]
    · exact ⟨1, rfl, by decide, by decide +kernel⟩
    · exact ⟨1, rfl, by decide, by decide +kernel⟩
    · exact ⟨10 ^ 57, rfl, by decide +kernel, by decide +kernel⟩
  have eg : atI [D.int 1, D.int 1, D.int 1000000000000000000000000000000000000000000000000000000000] k = some (.int g) := eg
  simp [eg]
  refine tr_lc (s := .rg 0 m.toNat) (h1 := h1) m.toNat (fun i acc h2 => acc.length = i ∧ (∃ row : List Int, acc = row.map D.int ∧ ∀ x ∈ row, -(10 ^ 59) ≤ x ∧ x ≤ 10 ^ 59) ∧ Drawn p h h2) ?_ rfl (by omega) ⟨rfl, ⟨[], rfl, by simp⟩, dr⟩ ?_ ?_
  · simp [fRg1, smallR]
    have : -1000000 ≤ m := by omega
    have : m ≤ 1000000 := by omega
    simp [*]
  · rintro i hi acc h2 ⟨e1, ⟨row, e2, bd⟩, dr2⟩
    refine ⟨.int (0 + i), if_pos hi, _, v_nm _ _, ?_⟩
    simp [tt1, wipeC]
    refine tr_use (take_tr (hp.drawn dr2) (by decide) (by decide +kernel)) ?_
    rintro _ h3 ⟨a, rfl, a0, a1, dr3⟩
    simp
    refine ⟨⟨sm_b (by omega) (by omega), sm_b (by omega) (by omega)⟩, ?_⟩
    refine tr_use (take_tr ((hp.drawn dr2).drawn dr3) (by decide) (by decide +kernel)) ?_
    rintro _ h4 ⟨b, rfl, b0, b1, dr4⟩
    simp
    refine ⟨e1, ⟨row ++ [g * (a - 9) + b], by simp [e2], ?_⟩, (dr2.trans dr3).trans dr4⟩
    intro x hx
    simp at hx
    rcases hx with hx | hx
    · exact bd x hx
    · subst hx
      have h1 : g * (a - 9) ≤ 10 ^ 57 * 9 := by
        have q1 : g * (a - 9) ≤ g * 9 := Int.mul_le_mul_of_nonneg_left (by omega) g0
        omega
      have h2 : -(10 ^ 57 * 9) ≤ g * (a - 9) := by
        have q1 : g * (-9) ≤ g * (a - 9) := Int.mul_le_mul_of_nonneg_left (by omega) g0
        omega
      omega
  · rintro acc h2 ⟨e1, ⟨row, e2, bd⟩, dr2⟩
    refine ⟨rfl, row, by rw [e2], ⟨?_, bd⟩, dr2⟩
    rw [e2, List.length_map] at e1
    omega
theorem cut_map (xs : List Int) (lo hi : Option Int) : PV.cutD (xs.map D.int) lo hi = (PV.cutD xs lo hi).map D.int := by
  unfold PV.cutD
  rw [List.length_map, List.map_take, List.map_drop]
theorem sum_bd (B : Int) (hB : 0 ≤ B) : ∀ xs : List Int, (∀ x ∈ xs, -B ≤ x ∧ x ≤ B) → -(xs.length * B) ≤ xs.sum ∧ xs.sum ≤ xs.length * B
  | [], _ => by simp
  | x :: xs, h => by
    have q := sum_bd B hB xs fun y hy => h y (List.mem_cons_of_mem _ hy)
    have q2 := h x List.mem_cons_self
    rw [List.sum_cons, List.length_cons]
    have e : ((xs.length + 1 : Nat) : Int) * B = xs.length * B + B := by
      rw [Int.natCast_add, Int.add_mul]; simp
    omega
theorem total_tr {h : Hx} {p : Nat} {m a b : Int} {row : List Int} (hp : Pot h p) (hr : RowOk m row) (hm : m ≤ 24) : (f_l_total_told Γ [.ref p, .lst (row.map D.int), .int a, .int b] h).tr (fun d h' => ∃ t : Int, d = .int t ∧ (-(10 ^ 62) ≤ t ∧ t ≤ 10 ^ 62) ∧ Drawn p h h') E0x := by
  refine tr_fn rfl ?_
  unfold b_l_total_told
  simp [gSum, intsL, cut_map]
  have hb : -(10 ^ 60 * 24) ≤ (PV.cutD row (some a) (some (b + 1))).sum ∧ (PV.cutD row (some a) (some (b + 1))).sum ≤ 10 ^ 60 * 24 := by
    have q := sum_bd (10 ^ 59) (by decide +kernel) (PV.cutD row (some a) (some (b + 1))) fun x hx => hr.bd x (by unfold PV.cutD at hx; exact List.mem_of_mem_drop (List.mem_of_mem_take hx))
    have hl : (PV.cutD row (some a) (some (b + 1))).length ≤ row.length := by
      unfold PV.cutD
      rw [List.length_take, List.length_drop]
      omega
    have := hr.len
    have : ((PV.cutD row (some a) (some (b + 1))).length : Int) ≤ 24 := by omega
    omega
  refine tr_use (take_tr hp (by decide) (by decide +kernel)) ?_
  rintro _ h1 ⟨k, rfl, k0, k1, dr⟩
  obtain ⟨g, eg, g0, g1⟩ : ∃ g : Int, atI [D.int 0, D.int 0, D.int 0, D.int 1, D.int (-1), D.int (10 ^ 59)] k = some (.int g) ∧ -1 ≤ g ∧ g ≤ 10 ^ 59 := by
    have e : k = 0 ∨ k = 1 ∨ k = 2 ∨ k = 3 ∨ k = 4 ∨ k = 5 := by omega
    rcases e with e | e | e | e | e | e <;> rw [e]
    · exact ⟨0, rfl, by decide, by decide +kernel⟩
    · exact ⟨0, rfl, by decide, by decide +kernel⟩
    · exact ⟨0, rfl, by decide, by decide +kernel⟩
    · exact ⟨1, rfl, by decide, by decide +kernel⟩
    · exact ⟨-1, rfl, by decide, by decide +kernel⟩
    · exact ⟨10 ^ 59, rfl, by decide +kernel, by decide +kernel⟩
  have eg : atI [D.int 0, D.int 0, D.int 0, D.int 1, D.int (-1), D.int 100000000000000000000000000000000000000000000000000000000000] k = some (.int g) := eg
  simp [eg]
  exact ⟨⟨by omega, by omega⟩, dr⟩
/-! ### the script -/
theorem pick_map (xs : List Int) (lo hi st : Option Int) : pickD (xs.map D.int) lo hi st = (pickD xs lo hi st).map D.int := by
  unfold pickD
  rw [List.length_map, List.map_filterMap]
  congr 1
  funext i
  simp
theorem filterMap_le {α β : Type} (f : α → Option β) : ∀ xs : List α, (xs.filterMap f).length ≤ xs.length := fun xs => List.length_filterMap_le f xs
theorem pick2_le (xs : List D) (lo : Option Int) (hlo : lo = none ∨ lo = some 1) (hl : xs.length ≤ 63) : (pickD xs lo none (some 2)).length ≤ 1000000 := by
  unfold pickD
  refine Nat.le_trans (filterMap_le _ _) ?_
  unfold sliceRange
  rw [List.length_map, List.length_range]
  rcases hlo with e | e <;> subst e <;> simp [sliceBounds] <;> omega
theorem two_tr {h : Hx} {ns : List Int} (hl : ns.length ≤ 63) : (f_l_two Γ [.rol (ns.map D.int)] h).tr (fun d h' => ∃ a b : Int, d = .lst [.int a, .int b] ∧ h' = h) E0x := by
  refine tr_fn rfl ?_
  unfold b_l_two
  have q1 := pick2_le (ns.map D.int) none (.inl rfl) (by rw [List.length_map]; exact hl)
  have q2 := pick2_le (ns.map D.int) (some 1) (.inr rfl) (by rw [List.length_map]; exact hl)
  rw [pick_map, List.length_map] at q1 q2
  simp [gSum, intsL, pick_map, q1, q2]
  omega
/-- a cell's number, folded -/
theorem pow_b {i : Nat} {n : Int} (hi : i ≤ 40) (n0 : 0 ≤ n) (n1 : n < ((16777216 ^ i : Nat) : Int)) : sm n = true := by
  have q : (16777216 ^ i : Nat) ≤ 16777216 ^ 40 := Nat.pow_le_pow_right (by decide) hi
  have q2 : (16777216 ^ 40 : Nat) < 10 ^ 300 := by decide +kernel
  exact sm_b (by omega) (by omega)
theorem pow_s {i : Nat} {n r : Int} (n1 : n < ((16777216 ^ i : Nat) : Int)) (r1 : r < 16777216) : n * 16777216 + r < ((16777216 ^ (i + 1) : Nat) : Int) := by
  rw [Nat.pow_succ]
  omega
theorem fb (x : Int) : 0 ≤ x.fmod 2147483629 ∧ x.fmod 2147483629 < 2147483629 := ⟨Int.fmod_nonneg_of_pos _ (by decide), Int.fmod_lt_of_pos _ (by decide)⟩
theorem fb1 (x : Int) : 0 ≤ x.fmod 2147483629 + 1 ∧ x.fmod 2147483629 + 1 ≤ 2 ^ 32 := by have := fb x; omega
theorem fb2 (x : Int) : 0 ≤ x.fmod 2147483629 + 7919 + 1 ∧ x.fmod 2147483629 + 7919 + 1 ≤ 2 ^ 32 := by have := fb x; omega
def dealBody : En → Hx → SR := (sSeq (sAsg (r2 opMod (r2 opAdd (r2 opMul (rV 3) (rC (.int 48271))) (rC (.int 12345))) (rC (.int 2147483647))) (.nm 3))
    (sAsg (r2 opAdd (r2 opMul (rV 4) (rC (.int 16777216))) (r2 opMod (r2 opDivP (r2 opMod (r2 opMul (rV 3) (rV 3)) (rC (.int 2147483629))) (rC (.int 64))) (rC (.int 16777216)))) (.nm 4)))
theorem deal_loop {P : Po} {h : Hx} {x0 x1 x2 : Option D} {s0 : Int} (q0 : 0 ≤ s0) (q1 : s0 ≤ 2 ^ 32) (fin : ∀ (x3 x5 : Option D) (v : Int), P.nx [x0, x1, x2, x3, some (.int v), x5] h) :
    (sFor (iOf (aCons (rC (.int 40)) aNil) fRg1) (.nm 5) dealBody [x0, x1, x2, some (.int s0), some (.int 0), none] h).tr P := by
  refine tr_forR (lo := 0) (h1 := h) 40 (fun i c h' => ∃ (s n : Int) (x5 : Option D), c = [x0, x1, x2, some (.int s), some (.int n), x5] ∧ h' = h ∧ (0 ≤ s ∧ s ≤ 2 ^ 32) ∧ 0 ≤ n ∧ n < ((16777216 ^ i : Nat) : Int)) (by simp [fRg1, smallR]) ⟨_, _, _, rfl, rfl, ⟨q0, q1⟩, by decide, by decide⟩ ?_ ?_
  · rintro i hi c h' ⟨s, n, x5, rfl, rfl, ⟨s0, s1⟩, n0, n1⟩
    refine ⟨_, v_nm _ _, ?_⟩
    unfold dealBody
    have m1 := Int.fmod_nonneg_of_pos (s * 48271 + 12345) (b := 2147483647) (by decide)
    have m2 := Int.fmod_lt_of_pos (s * 48271 + 12345) (b := 2147483647) (by decide)
    simp
    refine ⟨⟨sm_b (by omega) (by omega), by decide +kernel⟩, ⟨pow_b (by omega) n0 n1, by decide +kernel⟩, sm_b (by omega) (by omega), by decide +kernel, _, _, ⟨rfl, rfl⟩, ⟨m1, by omega⟩, ?_, ?_⟩
    · have := Int.fmod_nonneg_of_pos (((s * 48271 + 12345).fmod 2147483647 * (s * 48271 + 12345).fmod 2147483647).fmod 2147483629 / 64) (b := 16777216) (by decide)
      omega
    · have q := pow_s n1 (Int.fmod_lt_of_pos ((((s * 48271 + 12345).fmod 2147483647 * (s * 48271 + 12345).fmod 2147483647).fmod 2147483629) / 64) (b := 16777216) (by decide))
      simpa using q
  · rintro c h' ⟨s, n, x5, rfl, rfl, _, _, _⟩
    exact fin _ _ _
theorem deal_tr {h : Hx} {a b k : Int} (hk : 0 ≤ k) (hk2 : k < 2) : (f_l_deal Γ [.lst [.int a, .int b], .int k] h).tr (fun d h' => ∃ v : Int, d = .ref h.length ∧ h' = h ++ [.lst [.int v]]) E0x := by
  refine tr_fn rfl ?_
  unfold b_l_deal
  have e : k = 0 ∨ k = 1 := by omega
  rcases e with e | e <;> subst e
  · simp [gLen, atI, ixN]
    refine ⟨by decide +kernel, by decide +kernel, by decide +kernel, fun _ => ⟨by decide +kernel, ?_⟩⟩
    refine deal_loop (fb1 _).1 (fb1 _).2 fun x3 x5 v => ?_
    simp
  · simp [gLen, atI, ixN]
    refine ⟨by decide +kernel, by decide +kernel, by decide +kernel, fun _ => ⟨by decide +kernel, ?_⟩⟩
    refine deal_loop (fb2 _).1 (fb2 _).2 fun x3 x5 v => ?_
    simp
end
end K78
namespace Bk
open PV
/-! ### books in plain Lean -/
/-- a kept sum: first place, last place, total -/
abbrev Ed := Int × Int × Int
structure EdOk (m : Int) (e : Ed) : Prop where
  lo : 0 ≤ e.1
  le : e.1 ≤ e.2.1
  hi : e.2.1 < m
  sm : sm e.2.2 = true
def waysAt (cut : Int) (i : Nat) (e : Ed) : List (Int × Int × Int) := (if e.1 = cut then [(e.2.1 + 1, (i : Int), (1 : Int))] else []) ++ (if e.2.1 + 1 = cut then [(e.1, (i : Int), (-1 : Int))] else [])
/-- the kept sums that tie a cut, in their order -/
def waysOn (ks : List Ed) (cut : Int) : List (Int × Int × Int) := (ks.zipIdx.map fun q => waysAt cut q.2 q.1).flatten
theorem mem_waysOn {ks : List Ed} {cut : Int} {t : Int × Int × Int} : t ∈ waysOn ks cut ↔ ∃ (i : Nat) (e : Ed), ks[i]? = some e ∧ ((e.1 = cut ∧ t = (e.2.1 + 1, (i : Int), (1 : Int))) ∨ (e.2.1 + 1 = cut ∧ t = (e.1, (i : Int), (-1 : Int)))) := by
  unfold waysOn
  simp only [List.mem_flatten, List.mem_map]
  constructor
  · rintro ⟨l, ⟨⟨e, i⟩, hq, rfl⟩, ht⟩
    refine ⟨i, e, ?_, ?_⟩
    · have := List.mem_zipIdx_iff_getElem?.mp hq
      exact this
    · unfold waysAt at ht
      rw [List.mem_append] at ht
      rcases ht with ht | ht
      · by_cases z : e.1 = cut
        · rw [if_pos z] at ht; exact .inl ⟨z, List.mem_singleton.mp ht⟩
        · rw [if_neg z] at ht; simp at ht
      · by_cases z : e.2.1 + 1 = cut
        · rw [if_pos z] at ht; exact .inr ⟨z, List.mem_singleton.mp ht⟩
        · rw [if_neg z] at ht; simp at ht
  · rintro ⟨i, e, he, h⟩
    refine ⟨_, ⟨(e, i), List.mem_zipIdx_iff_getElem?.mpr he, rfl⟩, ?_⟩
    unfold waysAt
    rw [List.mem_append]
    rcases h with ⟨z, rfl⟩ | ⟨z, rfl⟩
    · left; rw [if_pos z]; simp
    · right; rw [if_pos z]; simp
/-- what a kept sum's stretch is in a potential -/
def dif (φ : Int → Int) (ks : List Ed) (n : Int) : Int := match ks[n.toNat]? with
  | some e => φ (e.2.1 + 1) - φ e.1
  | none => 0
/-- kept sums with signs from one cut to another one -/
structure Path (ks : List Ed) (s c : Int) (p : List (Int × Int)) : Prop where
  nd : (p.map (·.1)).Nodup
  ok : ∀ q ∈ p, 0 ≤ q.1 ∧ q.1 < ks.length ∧ (q.2 = 1 ∨ q.2 = -1)
  tele : ∀ φ : Int → Int, (p.map fun q => q.2 * dif φ ks q.1).sum = φ c - φ s
theorem Path.nil (ks : List Ed) (s : Int) : Path ks s s [] := ⟨List.nodup_nil, by simp, by simp⟩
/-- what the search has reached -/
structure Reach (m : Int) (ks : List Ed) (s : Int) (W : List (Int × List (Int × Int))) : Prop where
  st : (s, []) ∈ W
  nd : (W.map (·.1)).Nodup
  rng : ∀ q ∈ W, 0 ≤ q.1 ∧ q.1 ≤ m
  pth : ∀ q ∈ W, Path ks s q.1 q.2
  ends : ∀ q ∈ W, ∀ r ∈ q.2, ∃ e, ks[r.1.toNat]? = some e ∧ e.1 ∈ W.map (·.1) ∧ e.2.1 + 1 ∈ W.map (·.1)
  len : ∀ q ∈ W, q.2.length ≤ W.length
theorem Reach.init {m : Int} {ks : List Ed} {s : Int} (h0 : 0 ≤ s) (h1 : s ≤ m) : Reach m ks s [(s, [])] where
  st := List.mem_cons_self
  nd := by simp
  rng := by simp; exact ⟨h0, h1⟩
  pth := by simp; exact Path.nil ks s
  ends := by simp
  len := by simp
theorem Path.more {ks : List Ed} {s c o n g : Int} {p : List (Int × Int)} (P : Path ks s c p) (w : (o, n, g) ∈ waysOn ks c) (hn : n ∉ p.map (·.1)) : Path ks s o (p ++ [(n, g)]) := by
  obtain ⟨i, e, he, h⟩ := mem_waysOn.mp w
  have hi : i < ks.length := (List.getElem?_eq_some_iff.mp he).1
  have hni : n = i ∧ (g = 1 ∨ g = -1) ∧ ∀ φ : Int → Int, g * dif φ ks n = φ o - φ c := by
    rcases h with ⟨z, h⟩ | ⟨z, h⟩ <;> cases h
    · refine ⟨rfl, .inl rfl, fun φ => ?_⟩
      unfold dif
      rw [Int.toNat_natCast, he]
      simp [z]
    · refine ⟨rfl, .inr rfl, fun φ => ?_⟩
      unfold dif
      rw [Int.toNat_natCast, he]
      simp [z]
      omega
  obtain ⟨e1, e2, e3⟩ := hni
  refine ⟨?_, ?_, ?_⟩
  · rw [List.map_append, List.nodup_append]
    refine ⟨P.nd, by simp, ?_⟩
    intro x hx y hy
    simp at hy
    subst hy
    exact fun z => hn (z ▸ hx)
  · intro q hq
    rw [List.mem_append] at hq
    rcases hq with hq | hq
    · exact P.ok q hq
    · simp at hq
      subst hq
      exact ⟨by omega, by omega, e2⟩
  · intro φ
    rw [List.map_append, List.sum_append, P.tele φ]
    simp [e3]
    omega
theorem Reach.more {m : Int} {ks : List Ed} {s c o n g : Int} {W : List (Int × List (Int × Int))} {p : List (Int × Int)} (R : Reach m ks s W) (ok : ∀ e ∈ ks, EdOk m e) (hc : (c, p) ∈ W) (w : (o, n, g) ∈ waysOn ks c) (ho : o ∉ W.map (·.1)) : Reach m ks s (W ++ [(o, p ++ [(n, g)])]) := by
  have w0 := w
  obtain ⟨i, e, he, h⟩ := mem_waysOn.mp w
  have hi : i < ks.length := (List.getElem?_eq_some_iff.mp he).1
  have hE := ok e (List.mem_of_getElem? he)
  have hn : n = i ∧ (e.1 = o ∨ e.2.1 + 1 = o) ∧ (e.1 = c ∨ e.2.1 + 1 = c) ∧ 0 ≤ o ∧ o ≤ m := by
    have := hE.lo
    have := hE.le
    have := hE.hi
    rcases h with ⟨z, h⟩ | ⟨z, h⟩ <;> cases h
    · exact ⟨rfl, .inr rfl, .inl z, by omega, by omega⟩
    · exact ⟨rfl, .inl rfl, .inr z, by omega, by omega⟩
  obtain ⟨e1, e2, e2c, e3, e4⟩ := hn
  have nn : n ∉ p.map (·.1) := by
    intro hx
    obtain ⟨r, hr, rfl⟩ := List.mem_map.mp hx
    obtain ⟨e', he', q1, q2⟩ := R.ends _ hc r hr
    rw [e1, Int.toNat_natCast, he] at he'
    cases he'
    rcases e2 with e2 | e2
    · exact ho (e2 ▸ q1)
    · exact ho (e2 ▸ q2)
  have cm : c ∈ W.map (·.1) := List.mem_map.mpr ⟨_, hc, rfl⟩
  refine ⟨List.mem_append_left _ R.st, ?_, ?_, ?_, ?_, ?_⟩
  · rw [List.map_append, List.nodup_append]
    refine ⟨R.nd, by simp, ?_⟩
    intro x hx y hy
    simp at hy
    subst hy
    exact fun z => ho (z ▸ hx)
  · intro q hq
    rw [List.mem_append] at hq
    rcases hq with hq | hq
    · exact R.rng q hq
    · simp at hq
      subst hq
      exact ⟨e3, e4⟩
  · intro q hq
    rw [List.mem_append] at hq
    rcases hq with hq | hq
    · exact R.pth q hq
    · simp at hq
      subst hq
      exact (R.pth _ hc).more w0 nn
  · intro q hq r hr
    have sub : ∀ x, x ∈ W.map (·.1) → x ∈ (W ++ [(o, p ++ [(n, g)])]).map (·.1) := fun x hx => by rw [List.map_append]; exact List.mem_append_left _ hx
    rw [List.mem_append] at hq
    rcases hq with hq | hq
    · obtain ⟨e', a1, a2, a3⟩ := R.ends q hq r hr
      exact ⟨e', a1, sub _ a2, sub _ a3⟩
    · simp at hq
      subst hq
      rw [List.mem_append] at hr
      rcases hr with hr | hr
      · obtain ⟨e', a1, a2, a3⟩ := R.ends _ hc r hr
        exact ⟨e', a1, sub _ a2, sub _ a3⟩
      · simp at hr
        subst hr
        refine ⟨e, by rw [e1, Int.toNat_natCast]; exact he, ?_, ?_⟩
        · rcases e2 with z | z
          · rw [List.map_append]; refine List.mem_append_right _ ?_; simp [z]
          · rcases e2c with z2 | z2
            · exact sub _ (z2 ▸ cm)
            · exact absurd (z.symm.trans z2) (fun q => ho (q ▸ cm))
        · rcases e2 with z | z
          · rcases e2c with z2 | z2
            · exact absurd (z.symm.trans z2) (fun q => ho (q ▸ cm))
            · exact sub _ (z2 ▸ cm)
          · rw [List.map_append]; refine List.mem_append_right _ ?_; simp [z]
  · intro q hq
    rw [List.mem_append] at hq
    rw [List.length_append, List.length_singleton]
    rcases hq with hq | hq
    · have := R.len q hq
      omega
    · simp at hq
      subst hq
      have q : p.length ≤ W.length := R.len _ hc
      rw [List.length_append, List.length_singleton]
      omega
/-- so many unlike numbers below a bound -/
theorem pigeon : ∀ (n : Nat) (xs : List Int), xs.Nodup → (∀ x ∈ xs, 0 ≤ x ∧ x < n) → xs.length ≤ n
  | 0, xs, _, h => by
    cases xs with
    | nil => exact Nat.le_refl _
    | cons a r => have := h a List.mem_cons_self; omega
  | n + 1, xs, nd, h => by
    by_cases z : (n : Int) ∈ xs
    · have q := pigeon n (xs.erase (n : Int)) (nd.erase _) fun x hx => by
        have q1 := h x (List.mem_of_mem_erase hx)
        have q2 : x ≠ (n : Int) := by
          intro e
          subst e
          exact (List.Nodup.not_mem_erase nd) hx
        omega
      rw [List.length_erase_of_mem z] at q
      omega
    · have q := pigeon n xs nd fun x hx => by
        have q1 := h x hx
        have q2 : x ≠ (n : Int) := fun e => z (e ▸ hx)
        omega
      omega
theorem Reach.small {m : Int} {ks : List Ed} {s : Int} {W : List (Int × List (Int × Int))} (R : Reach m ks s W) (hm : 0 ≤ m) : W.length ≤ (m + 1).toNat := by
  have q := pigeon (m + 1).toNat (W.map (·.1)) R.nd fun x hx => by
    obtain ⟨q, hq, rfl⟩ := List.mem_map.mp hx
    have := R.rng q hq
    omega
  rwa [List.length_map] at q
/-- no kept sums tell it: a set of cuts, closed by the kept sums, with one cut and without the other one -/
def Sep (ks : List Ed) (s c : Int) : Prop := ∃ χ : Int → Prop, (∀ e ∈ ks, (χ e.1 ↔ χ (e.2.1 + 1))) ∧ χ s ∧ ¬ χ c
theorem Reach.sep {m : Int} {ks : List Ed} {s c : Int} {W : List (Int × List (Int × Int))} (R : Reach m ks s W) (cl : ∀ q ∈ W, ∀ t ∈ waysOn ks q.1, t.1 ∈ W.map (·.1)) (hc : c ∉ W.map (·.1)) : Sep ks s c := by
  refine ⟨fun x => x ∈ W.map (·.1), ?_, List.mem_map.mpr ⟨_, R.st, rfl⟩, hc⟩
  intro e he
  obtain ⟨i, hi⟩ := List.getElem?_of_mem he
  constructor
  · intro h
    obtain ⟨q, hq, e1⟩ := List.mem_map.mp h
    exact cl q hq (e.2.1 + 1, i, 1) (mem_waysOn.mpr ⟨i, e, hi, .inl ⟨e1.symm, rfl⟩⟩)
  · intro h
    obtain ⟨q, hq, e1⟩ := List.mem_map.mp h
    exact cl q hq (e.1, i, -1) (mem_waysOn.mpr ⟨i, e, hi, .inr ⟨e1.symm, rfl⟩⟩)
theorem Path.not_sep {ks : List Ed} {s c : Int} {p : List (Int × Int)} (P : Path ks s c p) (S : Sep ks s c) : False := by
  obtain ⟨χ, cl, h1, h2⟩ := S
  classical
  have t := P.tele fun x => if χ x then 1 else 0
  have z : (p.map fun q => q.2 * dif (fun x => if χ x then 1 else 0) ks q.1) = p.map fun _ => (0 : Int) := by
    apply List.map_congr_left
    intro q hq
    have e : dif (fun x => if χ x then 1 else 0) ks q.1 = 0 := by
      unfold dif
      split
      · rename_i e he
        have := cl e (List.mem_of_getElem? he)
        by_cases y : χ e.1
        · simp [y, this.mp y]
        · have y2 : ¬ χ (e.2.1 + 1) := fun w => y (this.mpr w)
          simp [y, y2]
      · rfl
    rw [e, Int.mul_zero]
  rw [z] at t
  have z2 : ∀ l : List (Int × Int), (l.map fun _ => (0 : Int)).sum = 0 := by
    intro l
    induction l with
    | nil => rfl
    | cons a r ih => simp [ih]
  rw [z2] at t
  simp [h1, h2] at t
/-- the told signs of a stretch: rising -/
structure Sig (ks : List Ed) (s c : Int) (p : List (Int × Int)) : Prop where
  path : Path ks s c p
  up : (p.map (·.1)).Pairwise (· < ·)
theorem leP_trans (a b c : Int × Int) (h1 : leP a b = true) (h2 : leP b c = true) : leP a c = true := by
  unfold leP at *
  simp at *
  omega
theorem leP_total (a b : Int × Int) : (leP a b || leP b a) = true := by
  unfold leP
  simp
  omega
theorem perm_sum {a b : List Int} (p : a.Perm b) : a.sum = b.sum := by
  induction p with
  | nil => rfl
  | cons x _ ih => rw [List.sum_cons, List.sum_cons, ih]
  | swap x y l => simp only [List.sum_cons]; omega
  | trans _ _ h1 h2 => exact h1.trans h2
theorem Path.sorted {ks : List Ed} {s c : Int} {p : List (Int × Int)} (P : Path ks s c p) : Sig ks s c (srtP p) := by
  have pm : (srtP p).Perm p := List.mergeSort_perm p leP
  have pw := List.pairwise_mergeSort (le := leP) (fun a b c => leP_trans a b c) (fun a b => leP_total a b) p
  have nd : ((srtP p).map (·.1)).Nodup := (pm.map _).nodup_iff.mpr P.nd
  refine ⟨⟨nd, fun q hq => P.ok q (pm.mem_iff.mp hq), fun φ => ?_⟩, ?_⟩
  · rw [← P.tele φ]
    exact perm_sum (pm.map _)
  · rw [List.pairwise_map]
    have nd2 : (srtP p).Pairwise fun a b => a.1 ≠ b.1 := by
      rw [List.Nodup, List.pairwise_map] at nd
      exact nd
    refine (List.Pairwise.and pw nd2).imp ?_
    intro a b ⟨h1, h2⟩
    unfold leP at h1
    simp at h1
    omega
end Bk
namespace K78
open PySem PySem.Spec PyProof.Rows L2 PV Bk
/-! ### heaps -/
mutual
theorem und_mono {n m : Nat} (q : n ≤ m) : ∀ d : D, d.und n = true → d.und m = true
  | .non, _ => rfl
  | .bl _, _ => rfl
  | .int _, _ => rfl
  | .str _, _ => rfl
  | .ty _, _ => rfl
  | .ob _, _ => rfl
  | .ref k, h => by
    unfold D.und at *
    exact decide_eq_true (Nat.lt_of_lt_of_le (of_decide_eq_true h) q)
  | .tup ds, h => by unfold D.und at *; exact unds_mono q ds h
  | .lst ds, h => by unfold D.und at *; exact unds_mono q ds h
  | .rol ds, h => by unfold D.und at *; exact unds_mono q ds h
  | .rot ds, h => by unfold D.und at *; exact unds_mono q ds h
theorem unds_mono {n m : Nat} (q : n ≤ m) : ∀ ds : List D, D.unds n ds = true → D.unds m ds = true
  | [], _ => by unfold D.unds; rfl
  | d :: ds, h => by
    unfold D.unds at *
    rw [Bool.and_eq_true] at *
    exact ⟨und_mono q d h.1, unds_mono q ds h.2⟩
end
theorem mund_mono {n m : Nat} (q : n ≤ m) : ∀ o : MO, o.und n = true → o.und m = true
  | .gone, _ => rfl
  | .lst ds, h => unds_mono q ds h
  | .dic _, h => unds_mono q _ h
  | .ins _ _ ds, h => unds_mono q ds h
theorem unds_all {n : Nat} : ∀ ds : List D, D.unds n ds = true ↔ ∀ d ∈ ds, d.und n = true
  | [] => by unfold D.unds; simp
  | d :: ds => by unfold D.unds; rw [Bool.and_eq_true, unds_all ds]; simp
/-- nothing in it tells of what is not there -/
def Wf (h : Hx) : Prop := ∀ o ∈ h, o.und h.length = true
theorem Wf.nil : Wf [] := by intro o ho; simp at ho
theorem Wf.push {h : Hx} {o : MO} (w : Wf h) (q : o.und (h.length + 1) = true) : Wf (h ++ [o]) := by
  intro x hx
  rw [List.length_append, List.length_singleton]
  rw [List.mem_append, List.mem_singleton] at hx
  rcases hx with hx | hx
  · exact mund_mono (Nat.le_succ _) x (w x hx)
  · exact hx ▸ q
theorem Wf.set {h : Hx} {o : MO} (w : Wf h) (p : Nat) (q : o.und h.length = true) : Wf (h.set p o) := by
  intro x hx
  rw [List.length_set]
  rcases List.mem_or_eq_of_mem_set hx with hx | hx
  · exact w x hx
  · exact hx ▸ q
theorem Wf.all {h : Hx} (w : Wf h) : h.all (MO.und h.length) = true := List.all_eq_true.mpr w
theorem ge0 {h l : Hx} {a : MO} : (h ++ a :: l)[h.length]? = some a := by simp
theorem ge1 {h l : Hx} {a b : MO} : (h ++ a :: b :: l)[h.length + 1]? = some b := by simp
theorem geL {h t : Hx} {i : Nat} {o : MO} (e : h[i]? = some o) : (h ++ t)[i]? = some o := by
  rw [List.getElem?_append_left (List.getElem?_eq_some_iff.mp e).1]; exact e
theorem set0 {h l : Hx} {a b : MO} : (h ++ a :: l).set h.length b = h ++ b :: l := by
  rw [List.set_append_right _ _ (Nat.le_refl _)]; simp
theorem set1 {h l : Hx} {a b c : MO} : (h ++ a :: b :: l).set (h.length + 1) c = h ++ a :: c :: l := by
  rw [List.set_append_right _ _ (Nat.le_succ _)]; simp
theorem cut_ok {h t : Hx} {d : D} (w : Wf h) (q : d.und h.length = true) : rEnd .cut h.length d (h ++ t) = .ok d h := by
  unfold rEnd
  simp only [List.take_left, q, w.all, Bool.and_self, if_true]
theorem one_ok {h h1 t : Hx} {m : Nat} {o : MO} (w : Wf h) (e : h1[m]? = some o) (hm : h.length ≤ m) (q : o.und h.length = true) (ht : h1 = h ++ t) : rEnd .one h.length (.ref m) h1 = .ok (.ref h.length) (h ++ [o]) := by
  unfold rEnd
  dsimp only
  rw [e]
  subst ht
  simp only [List.take_left, q, w.all, Bool.and_self, hm, decide_true, if_true]
theorem one_ok0 {h t : Hx} {d : D} (w : Wf h) (q : d.und h.length = true) (nr : ∀ m, d ≠ .ref m) : rEnd .one h.length d (h ++ t) = .ok d h := by
  unfold rEnd
  cases d with
  | ref m => exact absurd rfl (nr m)
  | _ => simp only [List.take_left, q, w.all, Bool.and_self, if_true]
@[simp] theorem eq_ii {h : Hx} (a b : Int) : opEq (.int a) (.int b) h = .ok (.bl (a == b)) h := by
  unfold opEq toPh
  simp [toP, SeqAt.shaped, PyData.canLay0, PyData.depth, PyData.eqv]
@[simp] theorem ne_ii {h : Hx} (a b : Int) : opNe (.int a) (.int b) h = .ok (.bl (!(a == b))) h := by
  unfold opNe toPh
  simp [toP, SeqAt.shaped, PyData.canLay0, PyData.depth, PyData.eqv]
section
variable {Γ : Gm}
def bookD (e : Ed) : D := .tup [.int e.1, .int (e.2.1 + 1), .int e.2.2]
def tripD (t : Int × Int × Int) : D := .tup [.int t.1, .int t.2.1, .int t.2.2]
structure BookAt (Γ : Gm) (h : Hx) (bk kp : Nat) (m : Int) (ks : List Ed) : Prop where
  ins : h[bk]? = some (.ins Γ.SumBook nmBook [.int m, .ref kp])
  kept : h[kp]? = some (.lst (ks.map bookD))
  ok : ∀ e ∈ ks, EdOk m e
  m0 : 1 ≤ m
  m1 : m ≤ 1000
  few : ks.length ≤ 10000
theorem BookAt.more {h t : Hx} {bk kp : Nat} {m : Int} {ks : List Ed} (B : BookAt Γ h bk kp m ks) : BookAt Γ (h ++ t) bk kp m ks := ⟨geL B.ins, geL B.kept, B.ok, B.m0, B.m1, B.few⟩
theorem fld_many {h : Hx} {bk kp : Nat} {m : Int} (e : h[bk]? = some (.ins Γ.SumBook nmBook [.int m, .ref kp])) : fldD Γ.SumBook nmBook 0 (.ref bk) h = .ok (.int m) h := by simp [fldD, e]
theorem fld_kept {h : Hx} {bk kp : Nat} {m : Int} (e : h[bk]? = some (.ins Γ.SumBook nmBook [.int m, .ref kp])) : fldD Γ.SumBook nmBook 1 (.ref bk) h = .ok (.ref kp) h := by simp [fldD, e]
theorem waysOn_snoc (ks : List Ed) (cut : Int) (e : Ed) : waysOn (ks ++ [e]) cut = waysOn ks cut ++ waysAt cut ks.length e := by
  unfold waysOn
  rw [List.zipIdx_append, List.map_append, List.flatten_append]
  simp
theorem waysAt_len (cut : Int) (i : Nat) (e : Ed) : (waysAt cut i e).length ≤ 2 := by
  unfold waysAt
  rw [List.length_append]
  split <;> split <;> simp
theorem waysOn_len (cut : Int) (ks : List Ed) : (waysOn ks cut).length ≤ 2 * ks.length := by
  have key : ∀ n, (waysOn (ks.take n) cut).length ≤ 2 * (ks.take n).length := by
    intro n
    induction n with
    | zero => simp [waysOn]
    | succ n ih =>
      cases z : ks[n]? with
      | none => rw [List.take_add_one, z]; simpa using ih
      | some e =>
        rw [List.take_add_one, z]
        show (waysOn (ks.take n ++ [e]) cut).length ≤ _
        rw [waysOn_snoc, List.length_append]
        have := waysAt_len cut (ks.take n).length e
        simp only [Option.toList_some, List.length_append, List.length_singleton]
        omega
  have q := key ks.length
  rwa [List.take_length] at q
theorem on_eq {h : Hx} {bk kp : Nat} {m cut : Int} {ks : List Ed} (B : BookAt Γ h bk kp m ks) (w : Wf h) : f_SumBook_ways_on Γ [.ref bk, .int cut] h = .ok (.lst ((waysOn ks cut).map tripD)) h := by
  refine tr_eq (tr_fn rfl ?_)
  unfold b_SumBook_ways_on
  simp
  refine tr_for (s := .en (.ref kp)) (h1 := h ++ [.lst []]) ks.length (fun i c h' => ∃ x3 x4 x5 x6, c = [some (.ref bk), some (.int cut), some (.ref h.length), x3, x4, x5, x6] ∧ h' = h ++ [.lst ((waysOn (ks.take i) cut).map tripD)]) ?_ ?_ ⟨_, _, _, _, rfl, by simp [waysOn]⟩ ?_ ?_
  · simp [fld_kept (geL B.ins), fEn, k_ref (geL B.kept)]
  · simp [Src.len, k_ref (geL B.kept)]
  · rintro i hi c h' ⟨x3, x4, x5, x6, rfl, rfl⟩
    refine ⟨.tup [.int i, bookD ks[i]], ?_, ?_⟩
    · simp [Src.item, k_ref (geL B.kept), hi]
    · have e4 : ks.take (i + 1) = ks.take i ++ [ks[i]] := by rw [List.take_add_one, List.getElem?_eq_getElem hi]; rfl
      have e5 : (ks.take i).length = i := by rw [List.length_take]; omega
      have e6 : waysOn (ks.take (i + 1)) cut = waysOn (ks.take i) cut ++ waysAt cut i ks[i] := by rw [e4, waysOn_snoc, e5]
      have e7 := waysOn_len cut (ks.take i)
      have e8 := B.few
      rw [e6]
      simp [waysAt, bookD]
      by_cases z1 : ks[i].1 = cut
      · simp [z1, mApp, m_ref ge0, k_ref ge0, set0, tripD]
        refine ⟨by omega, ?_⟩
        by_cases z2 : ks[i].2.1 + 1 = cut
        · simp [z2, mApp, m_ref ge0, k_ref ge0, set0, tripD]
          omega
        · simp [z2, tripD]
      · simp [z1]
        by_cases z2 : ks[i].2.1 + 1 = cut
        · simp [z2, mApp, m_ref ge0, k_ref ge0, set0, tripD]
          omega
        · simp [z2, tripD]
  · rintro c h' ⟨x3, x4, x5, x6, rfl, rfl⟩
    refine ⟨by simp [Src.len, k_ref (geL B.kept)], ?_⟩
    simp [rFz, ge0, set0]
    rw [cut_ok w]
    · simp
    · unfold D.und
      rw [unds_all]
      intro d hd
      obtain ⟨t, _, rfl⟩ := List.mem_map.mp hd
      rfl
end
end K78
namespace K78
open PySem PySem.Spec PyProof.Rows L2 PV Bk
section
variable {Γ : Gm}
def wayD (q : Int × List (Int × Int)) : Key × D := (.inl q.1, .lst (q.2.map pairD))
theorem dval_none {W : List (Int × List (Int × Int))} {x : Int} (hx : x ∉ W.map (·.1)) : dval (W.map wayD) (.inl x) = none := by
  unfold dval
  rw [Option.map_eq_none_iff, List.find?_eq_none]
  intro kv hkv
  obtain ⟨q, hq, rfl⟩ := List.mem_map.mp hkv
  simp [wayD]
  exact fun e => hx (List.mem_map.mpr ⟨q, hq, e⟩)
theorem dval_some : ∀ {W : List (Int × List (Int × Int))} {x : Int} {p : List (Int × Int)}, (W.map (·.1)).Nodup → (x, p) ∈ W → dval (W.map wayD) (.inl x) = some (.lst (p.map pairD))
  | [], _, _, _, h => by simp at h
  | (y, q) :: W, x, p, nd, h => by
    rw [List.map_cons, List.nodup_cons] at nd
    unfold dval
    rw [List.map_cons, List.find?_cons]
    by_cases z : y = x
    · subst z
      rw [List.mem_cons] at h
      rcases h with h | h
      · cases h
        simp [wayD]
      · exact absurd (List.mem_map.mpr ⟨_, h, rfl⟩) nd.1
    · have z2 : decide ((wayD (y, q)).1 = Sum.inl x) = false := by simp [wayD, z]
      rw [z2]
      rw [List.mem_cons] at h
      rcases h with h | h
      · cases h; exact absurd rfl z
      · exact dval_some nd.2 h
theorem dput_new {W : List (Int × List (Int × Int))} {x : Int} {p : List (Int × Int)} (hx : x ∉ W.map (·.1)) : dput (W.map wayD) (.inl x) (.lst (p.map pairD)) = (W ++ [(x, p)]).map wayD := by
  unfold dput
  rw [if_neg]
  · rw [List.map_append]; rfl
  · rw [List.any_eq_true]
    rintro ⟨kv, hkv, e⟩
    obtain ⟨q, hq, rfl⟩ := List.mem_map.mp hkv
    have e := of_decide_eq_true e
    simp [wayD] at e
    exact hx (List.mem_map.mpr ⟨q, hq, e⟩)
theorem cuts_tr {h : Hx} {bk kp : Nat} {m a b : Int} (e : h[bk]? = some (.ins Γ.SumBook nmBook [.int m, .ref kp])) (h0 : 0 ≤ a) (h1 : a ≤ b) (h2 : b < m) : f_SumBook_cuts_of Γ [.ref bk, .int a, .int b] h = .ok (.tup [.int a, .int (b + 1)]) h := by
  refine tr_eq (tr_fn rfl ?_)
  unfold b_SumBook_cuts_of
  simp [fld_many e, h0, h1, h2]
/-- what the search leaves -/
structure Found (m : Int) (ks : List Ed) (s : Int) (W : List (Int × List (Int × Int))) : Prop where
  re : Reach m ks s W
  cl : ∀ q ∈ W, ∀ t ∈ waysOn ks q.1, t.1 ∈ W.map (·.1)
theorem pairs_und {n : Nat} (p : List (Int × Int)) : D.unds n (p.map pairD) = true := by
  rw [unds_all]
  intro d hd
  obtain ⟨q, _, rfl⟩ := List.mem_map.mp hd
  rfl
theorem ways_und {n : Nat} (W : List (Int × List (Int × Int))) : (MO.dic (W.map wayD)).und n = true := by
  show D.unds n ((W.map wayD).map (·.2)) = true
  rw [unds_all]
  intro d hd
  rw [List.map_map] at hd
  obtain ⟨q, _, rfl⟩ := List.mem_map.mp hd
  show D.und n (D.lst (q.2.map pairD)) = true
  unfold D.und
  exact pairs_und _
def FInv (h : Hx) (bk : Nat) (cut m : Int) (ks : List Ed) (n : Nat) (c : En) (h' : Hx) : Prop := ∃ (W : List (Int × List (Int × Int))) (at_ : Nat) (x5 x6 x7 x8 : Option D), c = [some (.ref bk), some (.int cut), some (.ref h.length), some (.ref (h.length + 1)), some (.int at_), x5, x6, x7, x8] ∧
    h' = h ++ [.dic (W.map wayD), .lst (W.map fun q => .int q.1)] ∧ Reach m ks cut W ∧ (∀ i, i < at_ → ∀ q, W[i]? = some q → ∀ t ∈ waysOn ks q.1, t.1 ∈ W.map (·.1)) ∧ at_ ≤ W.length ∧ n = (m + 1).toNat - at_
def GInv (h : Hx) (bk : Nat) (cut m : Int) (ks : List Ed) (W : List (Int × List (Int × Int))) (at_ : Nat) (here : Int) (j : Nat) (c : En) (h'' : Hx) : Prop := ∃ (tl : List (Int × List (Int × Int))) (x6 x7 x8 : Option D), c = [some (.ref bk), some (.int cut), some (.ref h.length), some (.ref (h.length + 1)), some (.int at_), some (.int here), x6, x7, x8] ∧
      h'' = h ++ [.dic ((W ++ tl).map wayD), .lst ((W ++ tl).map fun q => .int q.1)] ∧ Reach m ks cut (W ++ tl) ∧ ∀ k, k < j → ∀ t, (waysOn ks here)[k]? = some t → t.1 ∈ (W ++ tl).map (·.1)
def FPost (h : Hx) (m cut : Int) (ks : List Ed) (d : D) (h' : Hx) : Prop := d = .ref h.length ∧ ∃ W, h' = h ++ [.dic (W.map wayD)] ∧ Found m ks cut W
theorem from_tr {h : Hx} {bk kp : Nat} {m cut : Int} {ks : List Ed} (B : BookAt Γ h bk kp m ks) (w : Wf h) (c0 : 0 ≤ cut) (c1 : cut ≤ m) : (f_SumBook_ways_from Γ [.ref bk, .int cut] h).tr (FPost h m cut ks) E0x := by
  refine tr_fn rfl ?_
  unfold b_SumBook_ways_from
  simp
  have hm := B.m0
  have hm1 := B.m1
  refine tr_while (FInv h bk cut m ks) ?_ (m + 1).toNat _ _ ⟨[(cut, [])], 0, none, none, none, none, rfl, rfl, Reach.init c0 c1, fun i hi => absurd hi (Nat.not_lt_zero _), Nat.zero_le _, rfl⟩
  rintro n c h' ⟨W, at_, x5, x6, x7, x8, rfl, rfl, R, cl, hat, rfl⟩
  have small := R.small (by omega)
  simp only [v_rB, v_r2, v_rV, v_rCall, v_aCons, v_aNil, List.getElem?_cons_succ, List.getElem?_cons_zero, bind_ok, gLen, q_ref, k_ref ge1, o_cmp, tr_ok]
  by_cases lt : at_ < W.length
  · rw [if_pos (by rw [decide_eq_true_eq, List.length_map]; omega)]
    have hw : W[at_]? = some W[at_] := List.getElem?_eq_getElem lt
    have ea : atI (W.map fun q => D.int q.1) (at_ : Int) = some (.int W[at_].1) := by
      rw [at_nat _ (by rw [List.length_map]; exact lt), List.getElem?_map, hw]
      rfl
    simp [ea, k_ref ge1]
    have Bh : BookAt Γ (h ++ [.dic (W.map wayD), .lst (W.map fun q => .int q.1)]) bk kp m ks := B.more
    have wh : Wf (h ++ [.dic (W.map wayD), .lst (W.map fun q => .int q.1)]) := by
      have e : h ++ [.dic (W.map wayD), .lst (W.map fun q => .int q.1)] = (h ++ [.dic (W.map wayD)]) ++ [.lst (W.map fun q => .int q.1)] := by simp
      rw [e]
      refine (w.push (ways_und W)).push ?_
      show D.unds _ _ = true
      rw [unds_all]
      intro d hd
      obtain ⟨q, _, rfl⟩ := List.mem_map.mp hd
      rfl
    refine tr_forL (ds := (waysOn ks W[at_].1).map tripD) (d0 := .lst ((waysOn ks W[at_].1).map tripD)) (h1 := h ++ [.dic (W.map wayD), .lst (W.map fun q => .int q.1)]) (GInv h bk cut m ks W at_ W[at_].1) ?_ (fun _ => rfl) ⟨[], x6, x7, x8, rfl, by simp, by simpa using R, fun k hk => absurd hk (Nat.not_lt_zero _)⟩ ?_ ?_
    · simp [geL B.ins, on_eq Bh wh, fSq]
    · rintro j d hj c h'' ⟨tl, x6, x7, x8, rfl, rfl, R', cl'⟩
      rw [List.getElem?_map, Option.map_eq_some_iff] at hj
      obtain ⟨⟨o, nn, g⟩, hj, rfl⟩ := hj
      have small' := R'.small (by omega)
      have hmem : (o, nn, g) ∈ waysOn ks W[at_].1 := List.mem_of_getElem? hj
      have hin : (W[at_].1, W[at_].2) ∈ W ++ tl := List.mem_append_left _ (List.getElem_mem lt)
      generalize eW : W ++ tl = W' at *
      by_cases z : o ∈ W'.map (·.1)
      · obtain ⟨⟨o', p'⟩, hp', e⟩ := List.mem_map.mp z
        cases e
        have dv := dval_some R'.nd hp'
        simp [tripD, d_ref ge0, dv]
        refine ⟨tl, _, _, _, rfl, by rw [eW], by rw [eW]; exact R', ?_⟩
        intro k hk t ht
        rw [eW]
        by_cases y : k = j
        · subst y
          rw [hj] at ht
          cases ht
          exact z
        · exact cl' k (by omega) t ht
      · have dv := dval_none z
        have dw := dval_some R'.nd hin
        have lenp := R'.len _ hin
        simp at lenp
        have dp := dput_new (x := o) (p := W[at_].2 ++ [(nn, g)]) z
        simp [PV.pairD] at dp
        simp [tripD, d_ref ge0, dv, dw, mApp, m_ref ge1, k_ref ge1, set0, set1]
        refine ⟨by omega, ?_⟩
        refine ⟨by omega, ?_⟩
        refine ⟨tl ++ [(o, W[at_].2 ++ [(nn, g)])], _, _, _, rfl, ?_, ?_, ?_⟩
        · rw [← List.append_assoc, eW]
          simp [dp]
        · rw [← List.append_assoc, eW]
          exact R'.more B.ok hin hmem z
        · intro k hk t ht
          rw [← List.append_assoc, eW, List.map_append]
          by_cases y : k = j
          · subst y
            rw [hj] at ht
            cases ht
            exact List.mem_append_right _ (by simp)
          · exact List.mem_append_left _ (cl' k (by omega) t ht)
    · rintro c h'' ⟨tl, x6, x7, x8, rfl, rfl, R', cl'⟩
      simp
      refine ⟨(m + 1).toNat - (at_ + 1), by omega, W ++ tl, at_ + 1, some (.int W[at_].1), x6, x7, x8, by simp, by simp, R', ?_, by rw [List.length_append]; omega, rfl⟩
      intro i hi q hq t ht
      by_cases y : i = at_
      · subst y
        rw [List.getElem?_append_left lt, hw] at hq
        cases hq
        obtain ⟨k, hk⟩ := List.getElem?_of_mem ht
        have hk2 := (List.getElem?_eq_some_iff.mp hk).1
        exact cl' k (by rw [List.length_map]; exact hk2) t hk
      · rw [List.getElem?_append_left (by omega)] at hq
        rw [List.map_append]
        exact List.mem_append_left _ (cl i (by omega) q hq t ht)
  · rw [if_neg (by rw [decide_eq_true_eq, List.length_map]; omega)]
    rw [one_ok w ge0 (Nat.le_refl _) (ways_und W) rfl]
    refine ⟨rfl, W, rfl, R, fun q hq t ht => ?_⟩
    obtain ⟨i, hi⟩ := List.getElem?_of_mem hq
    have hi2 := (List.getElem?_eq_some_iff.mp hi).1
    exact cl i (by omega) q hi t ht
end
end K78
namespace K78
open PySem PV Bk
open L2 (atI ixN)
section
variable {Γ : Gm}
@[simp] theorem at_0 {α : Type} (a : α) (l : List α) : atI (a :: l) 0 = some a := by unfold atI ixN; simp
@[simp] theorem at_1 {α : Type} (a b : α) (l : List α) : atI (a :: b :: l) 1 = some b := by
  unfold atI ixN
  rw [if_pos (by decide), if_pos (by simp; omega)]
  simp
@[simp] theorem at_2 {α : Type} (a b c : α) (l : List α) : atI (a :: b :: c :: l) 2 = some c := by
  unfold atI ixN
  rw [if_pos (by decide), if_pos (by simp; omega)]
  simp
@[simp] theorem i_comp {α : Type} (f : α → Int) (l : List α) : intsOf (l.map (D.int ∘ f)) = some (l.map f) := by
  rw [← List.map_map]; exact i_map _
@[simp] theorem i_fun {α : Type} (f : α → Int) (l : List α) : intsOf (l.map fun x => D.int (f x)) = some (l.map f) := i_comp f l
def SPost (m : Int) (h : Hx) (ks : List Ed) (a b : Int) (d : D) (h' : Hx) : Prop := (d = .non ∧ h' = h ∧ Sep ks a (b + 1)) ∨ ∃ p, d = .ref h.length ∧ h' = h ++ [.lst (p.map PV.pairD)] ∧ Sig ks a (b + 1) p ∧ p.length ≤ (m + 1).toNat
theorem pairs_of (p : List (Int × Int)) : pairsOf (p.map PV.pairD) = some p := by
  induction p with
  | nil => rfl
  | cons a r ih => simp [pairsOf, pairOf, PV.pairD, ih]
theorem signs_tr {h : Hx} {bk kp : Nat} {m a b : Int} {ks : List Ed} (B : BookAt Γ h bk kp m ks) (w : Wf h) (h0 : 0 ≤ a) (h1 : a ≤ b) (h2 : b < m) : (f_SumBook_signs_for Γ [.ref bk, .int a, .int b] h).tr (SPost m h ks a b) E0x := by
  refine tr_fn rfl ?_
  unfold b_SumBook_signs_for
  simp [B.ins, cuts_tr B.ins h0 h1 h2]
  refine tr_use (from_tr B w h0 (by omega)) ?_
  rintro _ h1 ⟨rfl, W, rfl, F⟩
  by_cases z : b + 1 ∈ W.map (·.1)
  · obtain ⟨⟨c, p⟩, hp, e⟩ := List.mem_map.mp z
    have e : c = b + 1 := e
    subst e
    have dv := dval_some F.re.nd hp
    simp [d_ref ge0, dv, opIsN, isNon, gSortP, pairs_of]
    have e2 : h ++ [.dic (W.map wayD), .lst ((srtP p).map PV.pairD)] = h ++ ([.dic (W.map wayD)] ++ [.lst ((srtP p).map PV.pairD)]) := rfl
    rw [one_ok w ge1 (Nat.le_succ _) (o := .lst ((srtP p).map PV.pairD)) (pairs_und _) rfl]
    have l1 : p.length ≤ W.length := F.re.len _ hp
    have l2 := F.re.small (by have := B.m0; omega)
    have l3 : (srtP p).length = p.length := (List.mergeSort_perm p leP).length_eq
    exact .inr ⟨_, rfl, rfl, (F.re.pth _ hp).sorted, by omega⟩
  · have dv := dval_none z
    simp [d_ref ge0, dv, opIsN, isNon]
    rw [one_ok0 w rfl (fun _ q => by cases q)]
    exact .inl ⟨rfl, rfl, F.re.sep F.cl z⟩
/-- what kept sums come to -/
def totBy (ks : List Ed) (p : List (Int × Int)) : Int := (p.map fun q => q.2 * ((ks[q.1.toNat]?).elim 0 fun e => e.2.2)).sum
theorem totby_eq {h : Hx} {bk kp : Nat} {m : Int} {ks : List Ed} {p : List (Int × Int)} {d : D} (B : BookAt Γ h bk kp m ks) (hp : ∀ q ∈ p, 0 ≤ q.1 ∧ q.1 < ks.length ∧ (q.2 = 1 ∨ q.2 = -1)) (hd : seqOf h d = some (p.map PV.pairD)) (hl : p.length ≤ 1000000) : f_SumBook_total_by Γ [.ref bk, d] h = .ok (.int (totBy ks p)) h := by
  refine tr_eq (tr_fn rfl ?_)
  unfold b_SumBook_total_by
  simp
  have key := lc_map (c := [some (.ref bk), some d, none, none]) (h := h) (s := .sq d) (h1 := h) (r := iOf (rV 1) fSq) (t := .tp (.cons (.nm 2) (.cons (.nm 3) .nil))) (vs := [2, 3])
    (te := r2 opMul (rV 3) (r2 opIx (r2 opIx (rFld Γ.SumBook nmBook 1 (rV 0)) (rV 2)) (rC (.int 2)))) (p.map PV.pairD) (fun x => match x with
      | .tup [.int n, .int g] => .int (g * ((ks[n.toNat]?).elim 0 fun e => e.2.2))
      | x => x) (by simp [fSq, hd]) (by simp [Src.len, hd]) (fun i hi => by simp [Src.item, hd]) (by rw [List.length_map]; exact hl) ?_
  · rw [key]
    have e : (p.map PV.pairD).map (fun x => match x with
      | .tup [.int n, .int g] => .int (g * ((ks[n.toNat]?).elim 0 fun e => e.2.2))
      | x => x) = (p.map fun q => q.2 * ((ks[q.1.toNat]?).elim 0 fun e => e.2.2)).map D.int := by
      rw [List.map_map, List.map_map]
      rfl
    rw [e]
    simp [gSum, intsL, totBy]
  · intro x hx
    obtain ⟨q, hq, rfl⟩ := List.mem_map.mp hx
    obtain ⟨n0, n1, g⟩ := hp q hq
    obtain ⟨e, he⟩ : ∃ e, ks[q.1.toNat]? = some e := ⟨ks[q.1.toNat]'(by omega), List.getElem?_eq_getElem _⟩
    have hs := (B.ok e (List.mem_of_getElem? he)).sm
    have hs2 : sm q.2 = true := by rcases g with g | g <;> rw [g] <;> decide +kernel
    have ea : atI (ks.map bookD) q.1 = some (bookD e) := by rw [at_int _ n0 (by rw [List.length_map]; omega), List.getElem?_map, he]; rfl
    simp [PV.pairD, wipeC, fld_kept B.ins, k_ref B.kept, ea, bookD, he, hs, hs2]
def tellD (m : Int) (h : Hx) (kp : Nat) (ks : List Ed) (a b t : Int) (d : D) (h' : Hx) : Prop := (d = .tup [.str "new", .int ks.length] ∧ h' = h.set kp (.lst ((ks ++ [(a, b, t)]).map bookD)) ∧ Sep ks a (b + 1)) ∨
  ∃ p, d = .tup [.str (if totBy ks p = t then "known" else "clash"), .ref h.length] ∧ h' = h ++ [.lst (p.map PV.pairD)] ∧ Sig ks a (b + 1) p ∧ p.length ≤ (m + 1).toNat
theorem sig_len {ks : List Ed} {s c : Int} {p : List (Int × Int)} (P : Path ks s c p) : p.length ≤ ks.length := by
  have q := pigeon ks.length (p.map (·.1)) P.nd fun x hx => by
    obtain ⟨q, hq, rfl⟩ := List.mem_map.mp hx
    have := P.ok q hq
    omega
  rwa [List.length_map] at q
theorem tell_tr {h : Hx} {bk kp : Nat} {m a b t : Int} {ks : List Ed} (B : BookAt Γ h bk kp m ks) (hn : bk ≠ kp) (w : Wf h) (h0 : 0 ≤ a) (h1 : a ≤ b) (h2 : b < m) : (f_SumBook_tell_sum Γ [.ref bk, .int a, .int b, .int t] h).tr (tellD m h kp ks a b t) E0x := by
  refine tr_fn rfl ?_
  unfold b_SumBook_tell_sum
  simp [B.ins]
  refine tr_use (signs_tr B w h0 h1 h2) ?_
  have few := B.few
  rintro d h' (⟨rfl, rfl, S⟩ | ⟨p, rfl, rfl, S, lp⟩)
  · have kl : kp < h'.length := (List.getElem?_eq_some_iff.mp B.kept).1
    have hi : (h'.set kp (.lst ((ks ++ [(a, b, t)]).map bookD)))[bk]? = some (.ins Γ.SumBook nmBook [.int m, .ref kp]) := by rw [List.getElem?_set_ne (fun e => hn e.symm)]; exact B.ins
    have hk : (h'.set kp (.lst ((ks ++ [(a, b, t)]).map bookD)))[kp]? = some (.lst ((ks ++ [(a, b, t)]).map bookD)) := by rw [List.getElem?_set_self kl]
    have e : (ks ++ [(a, b, t)]).map bookD = ks.map bookD ++ [.tup [.int a, .int (b + 1), .int t]] := by rw [List.map_append]; rfl
    rw [e] at hi hk
    simp [opIsN, isNon, fld_kept B.ins, k_ref B.kept, B.ins, cuts_tr B.ins h0 h1 h2, mApp, m_ref B.kept, fld_kept hi, gLen, k_ref hk]
    exact ⟨by omega, .inl ⟨by simp, by rw [e], S⟩⟩
  · have Bh : BookAt Γ (h ++ [.lst (p.map PV.pairD)]) bk kp m ks := B.more
    have hl := sig_len S.path
    have te := totby_eq (d := .ref h.length) Bh S.path.ok (by rw [q_ref, k_ref ge0]) (by omega)
    simp [opIsN, isNon, Bh.ins, te]
    by_cases z : totBy ks p = t
    · simp [z]
      exact .inr ⟨p, by rw [if_pos z], rfl, S, lp⟩
    · simp [z]
      exact .inr ⟨p, by rw [if_neg z], rfl, S, lp⟩
end
end K78
namespace PV
open PySem
open L2 (atI ixN)
theorem toPs_int (ns : List Int) : toPs (ns.map D.int) = some (ns.map PyData.int) := by
  induction ns with
  | nil => simp [toPs]
  | cons a r ih => simp [toPs, toP, ih]
theorem lay_int (ns : List Int) : PyData.canLayAll0 (ns.map PyData.int) = true := by
  induction ns with
  | nil => simp [PyData.canLayAll0]
  | cons a r ih => simp [PyData.canLayAll0, PyData.canLay0, ih]
theorem dep_int (ns : List Int) : PyData.depthAll (ns.map PyData.int) = 0 := by
  induction ns with
  | nil => simp [PyData.depthAll]
  | cons a r ih => simp [PyData.depthAll, PyData.depth, ih]
theorem shp_int (ns : List Int) : SeqAt.shaped (.list (ns.map PyData.int)) = true := by
  simp [SeqAt.shaped, PyData.canLay0, PyData.depth, lay_int, dep_int]
theorem eqv_int : ∀ xs ys : List Int, PyData.eqvAll (xs.map PyData.int) (ys.map PyData.int) = decide (xs = ys)
  | [], [] => by simp [PyData.eqvAll]
  | [], _ :: _ => by simp [PyData.eqvAll]
  | _ :: _, [] => by simp [PyData.eqvAll]
  | x :: xs, y :: ys => by simp [PyData.eqvAll, PyData.eqv, eqv_int xs ys, Bool.beq_eq_decide_eq]
theorem toPh_int {h : Hx} {d : D} {ns : List Int} (e : lstOf h d = some (ns.map D.int)) : toPh h d = some (.list (ns.map PyData.int)) := by
  unfold toPh
  rw [e]
  simp [toPs_int]
theorem eq_lists {h : Hx} {d e : D} {xs ys : List Int} (e1 : lstOf h d = some (xs.map D.int)) (e2 : lstOf h e = some (ys.map D.int)) : opEq d e h = .ok (.bl (decide (xs = ys))) h := by
  unfold opEq
  rw [toPh_int e1, toPh_int e2]
  simp [shp_int, PyData.eqv, eqv_int]
theorem ne_lists {h : Hx} {d e : D} {xs ys : List Int} (e1 : lstOf h d = some (xs.map D.int)) (e2 : lstOf h e = some (ys.map D.int)) : opNe d e h = .ok (.bl (!decide (xs = ys))) h := by
  unfold opNe
  rw [toPh_int e1, toPh_int e2]
  simp [shp_int, PyData.eqv, eqv_int]
theorem in_pair {h : Hx} (neg : Bool) (x p q : Int) : opIn neg (.int x) (.tup [.int p, .int q]) h = .ok (.bl (if neg then !(decide (x = p) || decide (x = q)) else (decide (x = p) || decide (x = q)))) h := by
  have e : L2.inV (.int x) [.int p, .int q] = (decide (x = p) || decide (x = q)) := by
    simp [L2.inV, L2.eqV, Bool.beq_eq_decide_eq, eq_comm]
  unfold opIn
  simp [flV, flVs, e]
theorem isi_list {h : Hx} {n : Nat} {ds : List D} (e : h[n]? = some (.lst ds)) : gIsi [.ref n, .ty "list"] h = .ok (.bl true) h := by
  have k : L2.kitB "list" "list" = some true := by decide +kernel
  simp [gIsi, tyOf, e, k]
theorem isi_int_list {h : Hx} (n : Int) : gIsi [.int n, .ty "list"] h = .ok (.bl false) h := by
  have k : L2.kitB "int" "list" = some false := by decide +kernel
  simp [gIsi, tyOf, k]
theorem isi_tup_tup {h : Hx} (ds : List D) : gIsi [.tup ds, .ty "tuple"] h = .ok (.bl true) h := by
  have k : L2.kitB "tuple" "tuple" = some true := by decide +kernel
  simp [gIsi, tyOf, k]
theorem isi_int_int {h : Hx} (n : Int) : gIsi [.int n, .ty "int"] h = .ok (.bl true) h := by
  have k : L2.kitB "int" "int" = some true := by decide +kernel
  simp [gIsi, tyOf, k]
theorem isi_int_bool {h : Hx} (n : Int) : gIsi [.int n, .ty "bool"] h = .ok (.bl false) h := by
  have k : L2.kitB "int" "bool" = some false := by decide +kernel
  simp [gIsi, tyOf, k]
end PV
namespace K78
open PySem PV Bk
open L2 (atI ixN)
section
variable {Γ : Gm}
@[simp] theorem whole_eq {h : Hx} (n : Int) : f_l_whole Γ [.int n] h = .ok (.bl true) h := by
  refine tr_eq (tr_fn rfl ?_)
  unfold b_l_whole
  simp [isi_int_int, isi_int_bool]
def lawD (e : Ed) : D := .tup [.int e.1, .int e.2.1, .int e.2.2]
/-! ### the labels -/
structure Lab (m : Int) (ks : List Ed) (Ls : List Int) : Prop where
  len : (Ls.length : Int) = m + 1
  tie : ∀ e ∈ ks, Ls[e.1.toNat]? = Ls[(e.2.1 + 1).toNat]?
  fine : ∀ χ : Int → Prop, (∀ e ∈ ks, (χ e.1 ↔ χ (e.2.1 + 1))) → ∀ x y : Int, 0 ≤ x → x ≤ m → 0 ≤ y → y ≤ m → Ls[x.toNat]? = Ls[y.toNat]? → (χ x ↔ χ y)
def relab (p q v : Int) : Int := if v = p ∨ v = q then (if q < p then q else p) else v
theorem Lab.init {m : Int} (hm : 0 ≤ m) : Lab m [] ((List.range (m + 1).toNat).map fun i : Nat => (i : Int)) where
  len := by rw [List.length_map, List.length_range]; omega
  tie := by simp
  fine := by
    intro χ _ x y x0 x1 y0 y1 e
    rw [List.getElem?_map, List.getElem?_map, List.getElem?_range (by omega), List.getElem?_range (by omega)] at e
    simp at e
    have : x = y := by omega
    rw [this]
theorem Lab.more {m p q : Int} {ks : List Ed} {Ls : List Int} {e : Ed} (L : Lab m ks Ls) (ok : EdOk m e) (hp : Ls[e.1.toNat]? = some p) (hq : Ls[(e.2.1 + 1).toNat]? = some q) : Lab m (ks ++ [e]) (Ls.map (relab p q)) where
  len := by rw [List.length_map]; exact L.len
  tie := by
    intro x hx
    rw [List.mem_append, List.mem_singleton] at hx
    rw [List.getElem?_map, List.getElem?_map]
    rcases hx with hx | hx
    · rw [L.tie x hx]
    · subst hx
      rw [hp, hq]
      simp [relab]
  fine := by
    intro χ hχ x y x0 x1 y0 y1 h
    have old := L.fine χ (fun e he => hχ e (List.mem_append_left _ he))
    have new := hχ e (List.mem_append_right _ (by simp))
    have len := L.len
    have e0 := ok.lo
    have e1 := ok.le
    have e2 := ok.hi
    obtain ⟨u, hu⟩ : ∃ u, Ls[x.toNat]? = some u := ⟨Ls[x.toNat]'(by omega), List.getElem?_eq_getElem _⟩
    obtain ⟨v, hv⟩ : ∃ v, Ls[y.toNat]? = some v := ⟨Ls[y.toNat]'(by omega), List.getElem?_eq_getElem _⟩
    rw [List.getElem?_map, List.getElem?_map, hu, hv] at h
    simp at h
    have A : ∀ z w, 0 ≤ z → z ≤ m → Ls[z.toNat]? = some w → w = p ∨ w = q → (χ z ↔ χ e.1) := by
      intro z w z0 z1 hz hw
      rcases hw with hw | hw
      · exact old z e.1 z0 z1 (by omega) (by omega) (by rw [hz, hp, hw])
      · exact (old z (e.2.1 + 1) z0 z1 (by omega) (by omega) (by rw [hz, hq, hw])).trans new.symm
    unfold relab at h
    by_cases zu : u = p ∨ u = q <;> by_cases zv : v = p ∨ v = q
    · exact (A x u x0 x1 hu zu).trans (A y v y0 y1 hv zv).symm
    · rw [if_pos zu, if_neg zv] at h
      split at h <;> simp [← h] at zv
    · rw [if_neg zu, if_pos zv] at h
      split at h <;> simp [h] at zu
    · rw [if_neg zu, if_neg zv] at h
      exact old x y x0 x1 y0 y1 (by rw [hu, hv, h])
theorem Lab.of_sep {m a b : Int} {ks : List Ed} {Ls : List Int} (L : Lab m ks Ls) (S : Sep ks a b) (a0 : 0 ≤ a) (a1 : a ≤ m) (b0 : 0 ≤ b) (b1 : b ≤ m) : Ls[a.toNat]? ≠ Ls[b.toNat]? := by
  intro e
  obtain ⟨χ, h1, h2, h3⟩ := S
  exact h3 ((L.fine χ h1 a b a0 a1 b0 b1 e).mp h2)
theorem Lab.of_path {m a b : Int} {ks : List Ed} {Ls : List Int} {p : List (Int × Int)} (L : Lab m ks Ls) (P : Path ks a b p) : Ls[a.toNat]? = Ls[b.toNat]? := by
  by_cases z : Ls[a.toNat]? = Ls[b.toNat]?
  · exact z
  · exfalso
    refine P.not_sep ⟨fun x => Ls[x.toNat]? = Ls[a.toNat]?, fun e he => ?_, rfl, fun y => z y.symm⟩
    show Ls[e.1.toNat]? = _ ↔ Ls[(e.2.1 + 1).toNat]? = _
    rw [L.tie e he]
def LInv (h : Hx) (lp : Nat) (m : Int) (ks : List Ed) (i : Nat) (c : En) (h' : Hx) : Prop := ∃ Ls x3 x4 x5 x6 x7, c = [some (.int m), some (.ref lp), some (.lst (Ls.map D.int)), x3, x4, x5, x6, x7, none] ∧ h' = h ∧ Lab m (ks.take i) Ls
theorem labels_tr {h : Hx} {lp : Nat} {m : Int} {ks : List Ed} (hl : h[lp]? = some (.lst (ks.map lawD))) (hok : ∀ e ∈ ks, EdOk m e) (m0 : 0 ≤ m) (m1 : m ≤ 1000) : (f_l_labels Γ [.int m, .ref lp] h).tr (fun d h' => ∃ Ls, d = .lst (Ls.map D.int) ∧ h' = h ∧ Lab m ks Ls) E0x := by
  refine tr_fn rfl ?_
  unfold b_l_labels
  have sr : smallR (m + 1) = true := by
    unfold smallR
    have : -1000000 ≤ m + 1 := by omega
    have : m + 1 ≤ 1000000 := by omega
    simp [*]
  simp [sr]
  refine tr_for (s := .sq (.ref lp)) (h1 := h) ks.length (LInv h lp m ks) (by simp [fSq, k_ref hl]) (by simp [Src.len, k_ref hl]) ⟨(List.range (m + 1).toNat).map fun i : Nat => (i : Int), none, none, none, none, none, by simp, rfl, Lab.init m0⟩ ?_ ?_
  · rintro i hi c h' ⟨Ls, x3, x4, x5, x6, x7, rfl, rfl, L⟩
    refine ⟨lawD ks[i], by simp [Src.item, k_ref hl, hi], ?_⟩
    have ok := hok ks[i] (List.getElem_mem hi)
    have e0 := ok.lo
    have e1 := ok.le
    have e2 := ok.hi
    have len := L.len
    obtain ⟨p, hp⟩ : ∃ u, Ls[ks[i].1.toNat]? = some u := ⟨Ls[ks[i].1.toNat]'(by omega), List.getElem?_eq_getElem _⟩
    obtain ⟨q, hq⟩ : ∃ u, Ls[(ks[i].2.1 + 1).toNat]? = some u := ⟨Ls[(ks[i].2.1 + 1).toNat]'(by omega), List.getElem?_eq_getElem _⟩
    have ap : atI (Ls.map D.int) ks[i].1 = some (.int p) := by rw [PV.at_int _ (by omega) (by rw [List.length_map]; omega), List.getElem?_map, hp]; rfl
    have aq : atI (Ls.map D.int) (ks[i].2.1 + 1) = some (.int q) := by rw [PV.at_int _ (by omega) (by rw [List.length_map]; omega), List.getElem?_map, hq]; rfl
    simp [lawD, ap, aq]
    have key := lc_map (c := [some (.int m), some (.ref lp), some (.lst (Ls.map D.int)), some (.int ks[i].1), some (.int ks[i].2.1), some (.int ks[i].2.2), some (.int p), some (.int q), none]) (h := h') (h1 := h') (s := .sq (.lst (Ls.map D.int))) (r := iOf (rV 2) fSq) (t := .nm 8) (vs := [8])
      (te := r2 opIx (rTup (aCons (rV 8) (aCons (rCall gMin2 (aCons (rV 6) (aCons (rV 7) aNil))) aNil))) (rCall gInt (aCons (r2 (opIn false) (rV 8) (rTup (aCons (rV 6) (aCons (rV 7) aNil)))) aNil)))
      (Ls.map D.int) (fun d => match d with
        | .int v => .int (relab p q v)
        | d => d) (by simp [fSq]) (by simp [Src.len]) (fun i hi => by simp [Src.item]) (by rw [List.length_map]; omega) ?_
    · rw [key]
      have e4 : ks.take (i + 1) = ks.take i ++ [ks[i]] := by rw [List.take_add_one, List.getElem?_eq_getElem hi]; rfl
      refine ⟨Ls.map (relab p q), _, _, _, _, _, by simp <;> exact ⟨rfl, rfl, rfl, rfl, rfl⟩, rfl, ?_⟩
      rw [e4]
      exact L.more ok hp hq
    · intro d hd
      obtain ⟨v, hv, rfl⟩ := List.mem_map.mp hd
      simp [wipeC, gMin2, in_pair, gInt]
      unfold relab
      by_cases z : v = p ∨ v = q
      · rcases z with z | z <;> simp [z]
      · have z1 : ¬ v = p := fun y => z (.inl y)
        have z2 : ¬ v = q := fun y => z (.inr y)
        simp [z1, z2]
  · rintro c h' ⟨Ls, x3, x4, x5, x6, x7, rfl, rfl, L⟩
    refine ⟨by simp [Src.len, k_ref hl], ?_⟩
    simp
    exact ⟨Ls, rfl, by rwa [List.take_length] at L⟩
end
end K78
namespace K78
open PySem PV Bk
open L2 (atI ixN)
section
variable {Γ : Gm}
theorem small_ok {i : Int} (h0 : -1000000 ≤ i) (h1 : i ≤ 1000000) : smallR i = true := by
  unfold smallR
  simp [h0, h1]
/-- a stretch, place by place, in what one potential tells -/
def stp (x : Int) (c : Int) : Int := if x < c then 1 else 0
def cov (ks : List Ed) (p : List (Int × Int)) (x : Int) : Int := (p.map fun q => q.2 * dif (stp x) ks q.1).sum
theorem dif_stp {ks : List Ed} {n : Int} {e : Ed} (he : ks[n.toNat]? = some e) (hl : e.1 ≤ e.2.1) (x : Int) : dif (stp x) ks n = if e.1 ≤ x ∧ x ≤ e.2.1 then 1 else 0 := by
  unfold dif
  rw [he]
  show stp x (e.2.1 + 1) - stp x e.1 = _
  unfold stp
  by_cases z1 : e.1 ≤ x <;> by_cases z2 : x ≤ e.2.1
  · rw [if_pos (by omega), if_neg (by omega), if_pos ⟨z1, z2⟩]; rfl
  · rw [if_neg (by omega), if_neg (by omega), if_neg (fun y => z2 y.2)]; rfl
  · rw [if_pos (by omega), if_pos (by omega), if_neg (fun y => z1 y.1)]; rfl
  · omega
theorem cov_all {ks : List Ed} {a b : Int} {p : List (Int × Int)} (P : Path ks a (b + 1) p) (h : a ≤ b) (x : Int) : cov ks p x = if a ≤ x ∧ x ≤ b then 1 else 0 := by
  unfold cov
  rw [P.tele (stp x)]
  unfold stp
  by_cases z1 : a ≤ x <;> by_cases z2 : x ≤ b
  · rw [if_pos (by omega), if_neg (by omega), if_pos ⟨z1, z2⟩]; rfl
  · rw [if_neg (by omega), if_neg (by omega), if_neg (fun y => z2 y.2)]; rfl
  · rw [if_pos (by omega), if_pos (by omega), if_neg (fun y => z1 y.1)]; rfl
  · omega
/-- a list of counts from what stands at each place -/
def cnts (m : Int) (F : Int → Int) : List D := (List.range m.toNat).map fun i : Nat => D.int (F i)
theorem cnts_len (m : Int) (F : Int → Int) : (cnts m F).length = m.toNat := by simp [cnts]
theorem cnts_at {m : Int} {F : Int → Int} {x : Int} (x0 : 0 ≤ x) (x1 : x < m) : atI (cnts m F) x = some (.int (F x)) := by
  rw [PV.at_int _ x0 (by rw [cnts_len]; omega)]
  unfold cnts
  rw [List.getElem?_map, List.getElem?_range (by omega)]
  simp
  rw [Int.max_eq_left x0]
theorem cnts_set {m : Int} {F : Int → Int} {x v : Int} (x0 : 0 ≤ x) (x1 : x < m) : (cnts m F).set x.toNat (.int v) = cnts m fun y => if y = x then v else F y := by
  apply List.ext_getElem?
  intro i
  rw [List.getElem?_set]
  unfold cnts
  simp only [List.length_map, List.length_range, List.getElem?_map]
  by_cases z : x.toNat = i
  · subst z
    rw [if_pos rfl, if_pos (by omega), List.getElem?_range (by omega)]
    simp
    omega
  · rw [if_neg z]
    by_cases z2 : i < m.toNat
    · rw [List.getElem?_range z2]
      simp
      intro y
      omega
    · rw [List.getElem?_eq_none (by simp; omega)]
      rfl
theorem cnts_congr {m : Int} {F G : Int → Int} (h : ∀ x, 0 ≤ x → x < m → F x = G x) : cnts m F = cnts m G := by
  unfold cnts
  apply List.map_congr_left
  intro i hi
  rw [List.mem_range] at hi
  rw [h _ (by omega) (by omega)]
theorem srt_up : ∀ (ns : List Int), ns.Pairwise (· < ·) → srtU ns = ns := by
  intro ns h
  have nd : ∀ l : List Int, l.Pairwise (· < ·) → ddp l = l := by
    intro l
    induction l with
    | nil => intro _; rfl
    | cons a r ih =>
      intro h
      rw [List.pairwise_cons] at h
      unfold ddp
      rw [if_neg (fun z => Int.lt_irrefl a (h.1 a z)), ih h.2]
  unfold srtU srtI
  rw [nd ns h]
  exact List.mergeSort_of_pairwise (h.imp fun x => decide_eq_true (Int.le_of_lt x))
@[simp] theorem b_rep (n : Nat) (b : Bool) : blsOf (List.replicate n (D.bl b)) = some (List.replicate n b) := by rw [← List.map_replicate]; exact b_map _
@[simp] theorem all_rep {h : Hx} (n : Nat) : gAll [.lst (List.replicate n (D.bl true))] h = .ok (.bl true) h := by simp [gAll]
theorem lc_true {c : En} {h : Hx} {r : En → Hx → PV.R Src} {t : Tg} {vs : List Nat} {te : En → Hx → PV.R D} {E : Addr → Hx → Prop} {Q : List D → Hx → Prop} (d0 : D) (ds : List D) (hr : r c h = .ok (.sq d0) h) (hs : seqOf h d0 = some ds) (hN : ds.length ≤ 1000000)
    (he : ∀ d ∈ ds, OnT (tgS t d (wipeC c vs)) fun c1 => (te c1 h).tr (fun x h2 => x = .bl true ∧ h2 = h) E0x) (q : Q (List.replicate ds.length (D.bl true)) h) : (rLc r t vs tt1 te c h).tr Q E := by
  have key := lc_map (te := te) ds (fun _ => .bl true) hr (by simp [Src.len, hs]) (fun i hi => by simp [Src.item, hs]) hN he
  rw [key]
  have e : ds.map (fun _ => D.bl true) = List.replicate ds.length (D.bl true) := List.map_const'
  rw [e]
  exact q
theorem total_eq {h : Hx} {lp : Nat} {m : Int} {ks : List Ed} {p : List (Int × Int)} {d : D} (hl : h[lp]? = some (.lst (ks.map lawD))) (hok : ∀ e ∈ ks, EdOk m e) (hp : ∀ q ∈ p, 0 ≤ q.1 ∧ q.1 < ks.length ∧ (q.2 = 1 ∨ q.2 = -1)) (hd : seqOf h d = some (p.map PV.pairD)) (hn : p.length ≤ 1000000) : f_l_total Γ [.ref lp, d] h = .ok (.int (totBy ks p)) h := by
  refine tr_eq (tr_fn rfl ?_)
  unfold b_l_total
  simp
  have key := lc_map (c := [some (.ref lp), some d, none, none]) (h := h) (s := .sq d) (h1 := h) (r := iOf (rV 1) fSq) (t := .tp (.cons (.nm 2) (.cons (.nm 3) .nil))) (vs := [2, 3])
    (te := r2 opMul (rV 3) (r2 opIx (r2 opIx (rV 0) (rV 2)) (rC (.int 2)))) (p.map PV.pairD) (fun x => match x with
      | .tup [.int n, .int g] => .int (g * ((ks[n.toNat]?).elim 0 fun e => e.2.2))
      | x => x) (by simp [fSq, hd]) (by simp [Src.len, hd]) (fun i hi => by simp [Src.item, hd]) (by rw [List.length_map]; exact hn) ?_
  · rw [key]
    have e : (p.map PV.pairD).map (fun x => match x with
      | .tup [.int n, .int g] => .int (g * ((ks[n.toNat]?).elim 0 fun e => e.2.2))
      | x => x) = (p.map fun q => q.2 * ((ks[q.1.toNat]?).elim 0 fun e => e.2.2)).map D.int := by
      rw [List.map_map, List.map_map]
      rfl
    rw [e]
    simp [gSum, intsL, totBy]
  · intro x hx
    obtain ⟨q, hq, rfl⟩ := List.mem_map.mp hx
    obtain ⟨n0, n1, g⟩ := hp q hq
    obtain ⟨e, he⟩ : ∃ e, ks[q.1.toNat]? = some e := ⟨ks[q.1.toNat]'(by omega), List.getElem?_eq_getElem _⟩
    have hs := (hok e (List.mem_of_getElem? he)).sm
    have hs2 : sm q.2 = true := by rcases g with g | g <;> rw [g] <;> decide +kernel
    have ea : atI (ks.map lawD) q.1 = some (lawD e) := by rw [PV.at_int _ n0 (by rw [List.length_map]; omega), List.getElem?_map, he]; rfl
    simp [PV.pairD, wipeC, k_ref hl, ea, lawD, he, hs, hs2]
/-! ### are signs -/
def AInv (h : Hx) (lp sp : Nat) (a b m : Int) (ks : List Ed) (p : List (Int × Int)) (i : Nat) (c : En) (h' : Hx) : Prop := ∃ x5 x7 x8 x9, c = [some (.int m), some (.ref lp), some (.int a), some (.int b), some (.ref sp), x5, some (.ref h.length), x7, x8, x9, none] ∧ h' = h ++ [.lst (cnts m (cov ks (p.take i)))]
def BInv (h : Hx) (lp sp : Nat) (a b m : Int) (x5 : Option D) (n g lo : Int) (F : Int → Int) (j : Nat) (c : En) (h' : Hx) : Prop := ∃ x9, c = [some (.int m), some (.ref lp), some (.int a), some (.int b), some (.ref sp), x5, some (.ref h.length), some (.int n), some (.int g), x9, none] ∧
  h' = h ++ [.lst (cnts m fun x => F x + if lo ≤ x ∧ x < lo + j then g else 0)]
theorem cov_more (ks : List Ed) (p : List (Int × Int)) (n g : Int) (x : Int) : cov ks (p ++ [(n, g)]) x = cov ks p x + g * dif (stp x) ks n := by
  unfold cov
  rw [List.map_append, List.sum_append]
  simp
theorem are_eq {h : Hx} {lp sp : Nat} {m a b : Int} {ks : List Ed} {p : List (Int × Int)} (w : Wf h) (hl : h[lp]? = some (.lst (ks.map lawD))) (hs : h[sp]? = some (.lst (p.map PV.pairD))) (hok : ∀ e ∈ ks, EdOk m e) (m0 : 1 ≤ m) (m1 : m ≤ 1000) (ab : a ≤ b) (few : ks.length ≤ 10000)
    (S : Sig ks a (b + 1) p) (hp : p.length < 63) : f_l_are_signs Γ [.int m, .ref lp, .int a, .int b, .ref sp] h = .ok (.bl true) h := by
  refine tr_eq (tr_fn rfl ?_)
  unfold b_l_are_signs
  simp [isi_list hs]
  refine lc_true (.ref sp) (p.map PV.pairD) (by simp [fSq, k_ref hs]) (by simp [k_ref hs]) (by rw [List.length_map]; omega) ?_ ?_
  · intro d hd
    obtain ⟨q, hq, rfl⟩ := List.mem_map.mp hd
    simp [PV.pairD, wipeC, isi_tup_tup, gLen]
  simp
  have key := lc_map (c := [some (.int m), some (.ref lp), some (.int a), some (.int b), some (.ref sp), none, none, none, none, none, none]) (h := h) (s := .sq (.ref sp)) (h1 := h) (r := iOf (rV 4) fSq) (t := .tp (.cons (.nm 7) (.cons (.nm 8) .nil))) (vs := [7, 8])
    (te := rV 7) (p.map PV.pairD) (fun x => match x with
      | .tup [.int n, .int g] => .int n
      | x => x) (by simp [fSq, k_ref hs]) (by simp [Src.len, k_ref hs]) (fun i hi => by simp [Src.item, k_ref hs]) (by rw [List.length_map]; omega) (by
        intro x hx
        obtain ⟨q, hq, rfl⟩ := List.mem_map.mp hx
        simp [PV.pairD, wipeC])
  have e : (p.map PV.pairD).map (fun x => match x with
      | .tup [.int n, .int g] => .int n
      | x => x) = (p.map (·.1)).map D.int := by
    rw [List.map_map, List.map_map]
    rfl
  rw [e] at key
  rw [key]
  have up := srt_up _ S.up
  have ne := ne_lists (h := h) (d := .lst ((p.map (·.1)).map D.int)) (e := .lst ((p.map (·.1)).map D.int)) rfl rfl
  have il : intsL h (.lst ((p.map (·.1)).map D.int)) = some (p.map (·.1)) := i_map _
  simp only [tr_ok, il, List.length_map, if_pos hp, up, ne]
  simp only [decide_true, Bool.not_true, tr_ok, Bool.false_eq_true, if_false]
  refine lc_true (.lst ((p.map (·.1)).map D.int)) ((p.map (·.1)).map D.int) (by simp [fSq]) rfl (by simp; omega) ?_ ?_
  · intro d hd
    obtain ⟨q, hq, rfl⟩ := List.mem_map.mp hd
    simp [wipeC]
  simp
  refine ⟨⟨by omega, by omega⟩, ?_⟩
  have e0 : List.replicate m.toNat (D.int 0) = cnts m (cov ks (p.take 0)) := by
    unfold cnts
    simp [cov]
    rw [List.map_const', List.length_range]
  rw [e0]
  refine tr_for (s := .sq (.ref sp)) (h1 := h ++ [.lst (cnts m (cov ks (p.take 0)))]) p.length (AInv h lp sp a b m ks p) (by simp [fSq, k_ref (geL hs)]) (by simp [Src.len, k_ref (geL hs)]) ⟨_, _, _, _, rfl, rfl⟩ ?_ ?_
  · rintro i hi c h' ⟨x5, x7, x8, x9, rfl, rfl⟩
    refine ⟨PV.pairD p[i], by simp [Src.item, k_ref (geL hs), hi], ?_⟩
    obtain ⟨n0, n1, g⟩ := S.path.ok p[i] (List.getElem_mem hi)
    obtain ⟨e, he⟩ : ∃ e, ks[p[i].1.toNat]? = some e := ⟨ks[p[i].1.toNat]'(by omega), List.getElem?_eq_getElem _⟩
    have ok := hok e (List.mem_of_getElem? he)
    have o0 := ok.lo
    have o1 := ok.le
    have o2 := ok.hi
    have ea : atI (ks.map lawD) p[i].1 = some (lawD e) := by rw [PV.at_int _ n0 (by rw [List.length_map]; omega), List.getElem?_map, he]; rfl
    have g3 : (p[i].2 = 1 ∨ p[i].2 = -1) := g
    simp [PV.pairD, gLen, k_ref (geL hl), n0, n1, in_pair, g3]
    rw [if_neg (fun y => by rcases g with g | g; exact y.1 g; exact y.2 g)]
    refine tr_forR (lo := e.1) (h1 := h ++ [.lst (cnts m (cov ks (p.take i)))]) (e.2.1 + 1 - e.1).toNat (BInv h lp sp a b m x5 p[i].1 p[i].2 e.1 (cov ks (p.take i))) ?_ ⟨_, rfl, ?_⟩ ?_ ?_
    · have s1 : smallR e.1 = true := small_ok (by omega) (by omega)
      have s2 : smallR (e.2.1 + 1) = true := small_ok (by omega) (by omega)
      refine tr_eq ?_
      simp [k_ref (geL hl), ea, lawD, fRg2, s1, s2]
    · congr 3
      apply cnts_congr
      intro x x0 x1
      rw [if_neg (by omega), Int.add_zero]
    · rintro j hj c h' ⟨x9, rfl, rfl⟩
      have c1 := cnts_at (m := m) (F := fun x => cov ks (p.take i) x + if e.1 ≤ x ∧ x < e.1 + j then p[i].2 else 0) (x := e.1 + j) (by omega) (by omega)
      have c2 := cnts_set (m := m) (F := fun x => cov ks (p.take i) x + if e.1 ≤ x ∧ x < e.1 + j then p[i].2 else 0) (x := e.1 + j) (v := cov ks (p.take i) (e.1 + j) + p[i].2) (by omega) (by omega)
      simp [k_ref ge0, m_ref ge0, c1, cnts_len, ix_int (n := m.toNat) (i := e.1 + j) (by omega) (by omega), c2, set0]
      refine ⟨_, rfl, ?_⟩
      congr 3
      apply cnts_congr
      intro x x0 x1
      by_cases z : x = e.1 + j
      · subst z
        rw [if_pos rfl, if_pos (by omega)]
      · rw [if_neg z]
        by_cases z2 : e.1 ≤ x ∧ x < e.1 + j
        · rw [if_pos z2, if_pos (by omega)]
        · rw [if_neg z2, if_neg (by omega)]
    · rintro c h' ⟨x9, rfl, rfl⟩
      refine ⟨_, _, _, _, rfl, ?_⟩
      congr 3
      apply cnts_congr
      intro x x0 x1
      have e4 : p.take (i + 1) = p.take i ++ [(p[i].1, p[i].2)] := by rw [List.take_add_one, List.getElem?_eq_getElem hi]; rfl
      rw [e4, cov_more, dif_stp he o1]
      by_cases z2 : e.1 ≤ x ∧ x ≤ e.2.1
      · rw [if_pos (by omega), if_pos z2, Int.mul_one]
      · rw [if_neg (by omega), if_neg z2, Int.mul_zero]
  · rintro c h' ⟨x5, x7, x8, x9, rfl, rfl⟩
    refine ⟨by simp [Src.len, k_ref (geL hs)], ?_⟩
    simp
    have sr : smallR m = true := by
      unfold smallR
      have : -1000000 ≤ m := by omega
      have : m ≤ 1000000 := by omega
      simp [*]
    have key := lc_map (c := [some (.int m), some (.ref lp), some (.int a), some (.int b), some (.ref sp), x5, some (.ref h.length), x7, x8, x9, none]) (h := h ++ [.lst (cnts m (cov ks p))]) (s := .rg 0 m.toNat) (h1 := h ++ [.lst (cnts m (cov ks p))]) (r := iOf (aCons (rV 0) aNil) fRg1) (t := .nm 9) (vs := [9])
      (te := rCall gInt (aCons (rCh opLe opLe (rV 2) (rV 9) (rV 3)) aNil)) ((List.range m.toNat).map fun i : Nat => D.int i) (fun x => match x with
      | .int x => .int (if a ≤ x ∧ x ≤ b then 1 else 0)
      | x => x) (by simp [fRg1, sr]) (by simp [Src.len]) (fun i hi => by simp at hi; simp [Src.item, hi]) (by simp; omega) (by
        intro x hx
        obtain ⟨y, hy, rfl⟩ := List.mem_map.mp hx
        simp [wipeC]
        by_cases z1 : a ≤ (y : Int) <;> by_cases z2 : (y : Int) ≤ b <;> simp [z1, z2, gInt])
    rw [key]
    have e2 : ((List.range m.toNat).map fun i : Nat => D.int i).map (fun x => match x with
      | .int x => .int (if a ≤ x ∧ x ≤ b then 1 else 0)
      | x => x) = ((List.range m.toNat).map fun i : Nat => cov ks p i).map D.int := by
      rw [List.map_map, List.map_map]
      apply List.map_congr_left
      intro i hi
      show D.int _ = D.int (cov ks p (i : Int))
      rw [cov_all S.path ab]
    rw [e2]
    have e3 : cnts m (cov ks p) = ((List.range m.toNat).map fun i : Nat => cov ks p i).map D.int := by
      unfold cnts
      rw [List.map_map]
      rfl
    have ee := eq_lists (h := h ++ [.lst (cnts m (cov ks p))]) (d := .ref h.length) (e := .lst (((List.range m.toNat).map fun i : Nat => cov ks p i).map D.int)) (by rw [k_ref ge0, e3]) rfl
    simp only [tr_ok, ee, decide_true]
    rw [cut_ok w rfl]
    exact ⟨rfl, rfl⟩
end
end K78
namespace K78
open PySem PV Bk
open L2 (atI ixN)
section
variable {Γ : Gm}
theorem eq_ss {h : Hx} (a b : Str) (ha : PyData.canLay0 (.str a) = true) (hb : PyData.canLay0 (.str b) = true) : opEq (.str a) (.str b) h = .ok (.bl (a == b)) h := by
  unfold opEq toPh
  simp only [k_str, toP]
  rw [if_pos ⟨by unfold SeqAt.shaped; rw [ha]; simp [PyData.depth], by unfold SeqAt.shaped; rw [hb]; simp [PyData.depth]⟩]
  simp [PyData.eqv]
theorem eq_new {h : Hx} (n k : Int) : opEq (.tup [.str "new", .int n]) (.tup [.str "new", .int k]) h = .ok (.bl (n == k)) h := by
  have e : PyData.canLay0 (.str "new") = true := by decide +kernel
  unfold opEq toPh
  simp only [k_tup, toP, toPs, Option.map_some, Option.bind_some]
  rw [if_pos ⟨by unfold SeqAt.shaped; simp [PyData.canLay0, PyData.canLayAll0] at e ⊢; simp [PyData.depth, PyData.depthAll, e], by unfold SeqAt.shaped; simp [PyData.canLay0, PyData.canLayAll0] at e ⊢; simp [PyData.depth, PyData.depthAll, e]⟩]
  simp [PyData.eqv, PyData.eqvAll]
theorem right_new {h : Hx} {lp : Nat} {m a b t : Int} {ks : List Ed} (hl : h[lp]? = some (.lst (ks.map lawD))) (hok : ∀ e ∈ ks, EdOk m e) (m0 : 1 ≤ m) (m1 : m ≤ 1000) (h0 : 0 ≤ a) (h1 : a ≤ b) (h2 : b < m) (few : ks.length ≤ 10000) (S : Sep ks a (b + 1)) :
    f_l_told_right Γ [.int m, .ref lp, .int a, .int b, .int t, .tup [.str "new", .int ks.length]] h = .ok (.bl true) (h.set lp (.lst ((ks ++ [(a, b, t)]).map lawD))) := by
  refine tr_eq (tr_fn rfl ?_)
  unfold b_l_told_right
  simp
  refine tr_use (labels_tr hl hok (by omega) m1) ?_
  rintro _ h' ⟨Ls, rfl, rfl, L⟩
  have ne := L.of_sep S h0 (by omega) (by omega) (by omega)
  have len := L.len
  obtain ⟨p, hp⟩ : ∃ u, Ls[a.toNat]? = some u := ⟨Ls[a.toNat]'(by omega), List.getElem?_eq_getElem _⟩
  obtain ⟨q, hq⟩ : ∃ u, Ls[(b + 1).toNat]? = some u := ⟨Ls[(b + 1).toNat]'(by omega), List.getElem?_eq_getElem _⟩
  have ap : atI (Ls.map D.int) a = some (.int p) := by rw [PV.at_int _ h0 (by rw [List.length_map]; omega), List.getElem?_map, hp]; rfl
  have aq : atI (Ls.map D.int) (b + 1) = some (.int q) := by rw [PV.at_int _ (by omega) (by rw [List.length_map]; omega), List.getElem?_map, hq]; rfl
  have pq : ¬ p = q := fun e => ne (by rw [hp, hq, e])
  have kl : lp < h'.length := (List.getElem?_eq_some_iff.mp hl).1
  have hk : (h'.set lp (.lst (ks.map lawD ++ [.tup [.int a, .int b, .int t]])))[lp]? = some (.lst (ks.map lawD ++ [.tup [.int a, .int b, .int t]])) := by rw [List.getElem?_set_self kl]
  simp [isi_tup_tup, gLen, ap, aq, pq, k_ref hl, mApp, m_ref hl, k_ref hk, eq_new]
  exact ⟨by omega, by simp [lawD]⟩
theorem right_old {h : Hx} {lp sp : Nat} {m a b t : Int} {ks : List Ed} {p : List (Int × Int)} (w : Wf h) (hl : h[lp]? = some (.lst (ks.map lawD))) (hs : h[sp]? = some (.lst (p.map PV.pairD))) (hok : ∀ e ∈ ks, EdOk m e) (m0 : 1 ≤ m) (m1 : m ≤ 1000) (h0 : 0 ≤ a) (h1 : a ≤ b) (h2 : b < m) (few : ks.length ≤ 10000) (S : Sig ks a (b + 1) p) (hp : p.length < 63) :
    f_l_told_right Γ [.int m, .ref lp, .int a, .int b, .int t, .tup [.str (if totBy ks p = t then "known" else "clash"), .ref sp]] h = .ok (.bl true) h := by
  refine tr_eq (tr_fn rfl ?_)
  unfold b_l_told_right
  simp
  refine tr_use (labels_tr hl hok (by omega) m1) ?_
  rintro _ h' ⟨Ls, rfl, rfl, L⟩
  have eq := L.of_path S.path
  have len := L.len
  obtain ⟨u, hu⟩ : ∃ u, Ls[a.toNat]? = some u := ⟨Ls[a.toNat]'(by omega), List.getElem?_eq_getElem _⟩
  have ap : atI (Ls.map D.int) a = some (.int u) := by rw [PV.at_int _ h0 (by rw [List.length_map]; omega), List.getElem?_map, hu]; rfl
  have aq : atI (Ls.map D.int) (b + 1) = some (.int u) := by rw [PV.at_int _ (by omega) (by rw [List.length_map]; omega), List.getElem?_map, ← eq, hu]; rfl
  have ar := are_eq (Γ := Γ) w hl hs hok m0 m1 h1 few S hp
  have tt := total_eq (Γ := Γ) (d := .ref sp) hl hok S.path.ok (by rw [q_ref, k_ref hs]) (by omega)
  have k1 : PyData.canLay0 (.str "known") = true := by decide +kernel
  have k2 : PyData.canLay0 (.str "clash") = true := by decide +kernel
  simp [isi_tup_tup, gLen, ap, aq, ar, tt]
  by_cases z : totBy ks p = t
  · simp [z, gInt, eq_ss _ _ k1 k1]
  · simp [z, gInt, eq_ss _ _ k2 k2]
end
end K78
namespace K78
open PySem PV Bk
open L2 (atI ixN)
section
variable {Γ : Gm}
theorem made_eq {h : Hx} {m : Int} : rMake Γ.SumBook nmBook (f_SumBook___init__ Γ) (aCons (rC (.int m)) aNil) [] h = .ok (.ref h.length) (h ++ [.ins Γ.SumBook nmBook [.int m, .ref (h.length + 1)], .lst []]) := by
  have e : f_SumBook___init__ Γ [.ref h.length, .int m] (h ++ [.ins Γ.SumBook nmBook []]) = .ok .non (h ++ [.ins Γ.SumBook nmBook [.int m, .ref (h.length + 1)], .lst []]) := by
    refine tr_eq (tr_fn rfl ?_)
    unfold b_SumBook___init__
    simp [putD, set0]
  unfold rMake
  simp [e]
theorem made_c {c : En} {h : Hx} {m : Int} (hc : c[3]? = some (some (.int m))) : rMake Γ.SumBook nmBook (f_SumBook___init__ Γ) (aCons (rV 3) aNil) c h = .ok (.ref h.length) (h ++ [.ins Γ.SumBook nmBook [.int m, .ref (h.length + 1)], .lst []]) := by
  rw [← made_eq]
  unfold rMake
  simp [hc]
theorem law_und {n : Nat} (ks : List Ed) : (MO.lst (ks.map lawD)).und n = true := by
  show D.unds n _ = true
  rw [unds_all]
  intro d hd
  obtain ⟨q, _, rfl⟩ := List.mem_map.mp hd
  rfl
theorem book_und {n : Nat} (ks : List Ed) : (MO.lst (ks.map bookD)).und n = true := by
  show D.unds n _ = true
  rw [unds_all]
  intro d hd
  obtain ⟨q, _, rfl⟩ := List.mem_map.mp hd
  rfl
theorem Wf.drawn {h h' : Hx} {p : Nat} (w : Wf h) (d : Drawn p h h') : Wf h' := by
  obtain ⟨n, rfl⟩ := d
  exact w.set p rfl
theorem BookAt.drawn {h h' : Hx} {bk kp p : Nat} {m : Int} {ks : List Ed} (B : BookAt Γ h bk kp m ks) (d : Drawn p h h') (h1 : p ≠ bk) (h2 : p ≠ kp) : BookAt Γ h' bk kp m ks :=
  ⟨by rw [d.ne h1]; exact B.ins, by rw [d.ne h2]; exact B.kept, B.ok, B.m0, B.m1, B.few⟩
/-- what stands between two turns -/
structure Mid (Γ : Gm) (n : Nat) (m : Int) (ks : List Ed) (h : Hx) : Prop where
  wf : Wf h
  pot : Pot h n
  bk : BookAt Γ h (n + 1) (n + 2) m ks
  law : h[n + 3]? = some (.lst (ks.map lawD))
  m24 : m ≤ 24
theorem Mid.drawn {n : Nat} {m : Int} {ks : List Ed} {h h' : Hx} (M : Mid Γ n m ks h) (d : Drawn n h h') : Mid Γ n m ks h' :=
  ⟨M.wf.drawn d, M.pot.drawn d, M.bk.drawn d (by omega) (by omega), by rw [d.ne (by omega)]; exact M.law, M.m24⟩
theorem Mid.more {n : Nat} {m : Int} {ks : List Ed} {h : Hx} {o : MO} (M : Mid Γ n m ks h) (ho : o.und (h.length + 1) = true) : Mid Γ n m ks (h ++ [o]) :=
  ⟨M.wf.push ho, by obtain ⟨k, e⟩ := M.pot; exact ⟨k, geL e⟩, M.bk.more, geL M.law, M.m24⟩
theorem Mid.set {n q : Nat} {m : Int} {ks : List Ed} {h : Hx} {o : MO} (M : Mid Γ n m ks h) (hq : n + 3 < q) (ho : o.und h.length = true) : Mid Γ n m ks (h.set q o) := by
  have ne : ∀ i, i ≤ n + 3 → (h.set q o)[i]? = h[i]? := fun i hi => List.getElem?_set_ne (by omega)
  exact ⟨M.wf.set q ho, by obtain ⟨k, e⟩ := M.pot; exact ⟨k, by rw [ne _ (by omega)]; exact e⟩, ⟨by rw [ne _ (by omega)]; exact M.bk.ins, by rw [ne _ (by omega)]; exact M.bk.kept, M.bk.ok, M.bk.m0, M.bk.m1, M.bk.few⟩, by rw [ne _ (by omega)]; exact M.law, M.m24⟩
theorem Mid.kept {n : Nat} {m a b t : Int} {ks : List Ed} {h : Hx} (M : Mid Γ n m ks h) (ok : EdOk m (a, b, t)) (few : ks.length + 1 ≤ 10000) : Mid Γ n m (ks ++ [(a, b, t)]) ((h.set (n + 2) (.lst ((ks ++ [(a, b, t)]).map bookD))).set (n + 3) (.lst ((ks ++ [(a, b, t)]).map lawD))) := by
  have l3 : n + 3 < h.length := (List.getElem?_eq_some_iff.mp M.law).1
  refine ⟨(M.wf.set _ (book_und _)).set _ (law_und _), ?_, ⟨?_, ?_, ?_, M.bk.m0, M.bk.m1, by simpa using few⟩, ?_, M.m24⟩
  · obtain ⟨k, e⟩ := M.pot
    exact ⟨k, by rw [List.getElem?_set_ne (by omega), List.getElem?_set_ne (by omega)]; exact e⟩
  · rw [List.getElem?_set_ne (by omega), List.getElem?_set_ne (by omega)]; exact M.bk.ins
  · rw [List.getElem?_set_ne (by omega), List.getElem?_set_self (by omega)]
  · intro e he
    rw [List.mem_append, List.mem_singleton] at he
    rcases he with he | he
    · exact M.bk.ok e he
    · exact he ▸ ok
  · rw [List.getElem?_set_self (by rw [List.length_set]; omega)]
theorem mid_start {h1 h3 : Hx} {v m : Int} (w : Wf h1) (d : Drawn h1.length (h1 ++ [.lst [.int v]]) h3) (m0 : 1 ≤ m) (m1 : m ≤ 24) : Mid Γ h1.length m [] (h3 ++ [.ins Γ.SumBook nmBook [.int m, .ref (h3.length + 1)], .lst [], .lst []]) ∧ h3.length = h1.length + 1 := by
  have l3 : h3.length = h1.length + 1 := by rw [d.len, List.length_append]; rfl
  have P0 : Pot (h1 ++ [.lst [.int v]]) h1.length := ⟨v, ge0⟩
  have P3 := P0.drawn d
  have w3 : Wf h3 := Wf.drawn (w.push rfl) d
  refine ⟨⟨?_, ?_, ⟨?_, ?_, by simp, m0, by omega, by simp⟩, ?_, m1⟩, l3⟩
  · intro o ho
    rw [List.mem_append] at ho
    rcases ho with ho | ho
    · exact mund_mono (by simp) o (w3 o ho)
    · simp at ho
      rcases ho with ho | ho
      · subst ho
        show D.unds _ _ = true
        unfold D.unds D.und
        simp [D.unds, D.und]
      · subst ho
        rfl
  · obtain ⟨k, e⟩ := P3
    exact ⟨k, geL e⟩
  · rw [← l3, ge0]
    rw [l3]
  · rw [show h1.length + 2 = h3.length + 1 from by omega, ge1]; rfl
  · rw [show h1.length + 3 = h3.length + 2 from by omega]
    simp
theorem told_tr {n : Nat} {m a b t : Int} {ks : List Ed} {h : Hx} (M : Mid Γ n m ks h) (a0 : 0 ≤ a) (ab : a ≤ b) (bm : b < m) (tb : -(10 ^ 62) ≤ t ∧ t ≤ 10 ^ 62) (few : ks.length + 1 ≤ 10000) : (f_SumBook_tell_sum Γ [.ref (n + 1), .int a, .int b, .int t] h).tr (fun d h' => (f_l_told_right Γ [.int m, .ref (n + 3), .int a, .int b, .int t, d] h').tr (fun r h2 => r = .bl true ∧ ∃ ks', Mid Γ n m ks' h2 ∧ ks'.length ≤ ks.length + 1) E0x) E0x := by
  refine tr_use (tell_tr M.bk (by omega) M.wf a0 ab bm) ?_
  have smt : sm t = true := sm_b (by omega) (by omega)
  have fw := M.bk.few
  have m24 := M.m24
  have m0 := M.bk.m0
  rintro d h8 (⟨rfl, rfl, S⟩ | ⟨p, rfl, rfl, S, pl⟩)
  · have hl8 : (h.set (n + 2) (.lst ((ks ++ [(a, b, t)]).map bookD)))[n + 3]? = some (.lst (ks.map lawD)) := by rw [List.getElem?_set_ne (by omega)]; exact M.law
    rw [right_new (Γ := Γ) (t := t) hl8 M.bk.ok m0 (by omega) a0 ab bm fw S]
    exact ⟨rfl, ks ++ [(a, b, t)], M.kept ⟨a0, ab, bm, smt⟩ few, by simp⟩
  · have M8 := M.more (o := .lst (p.map PV.pairD)) (pairs_und p)
    rw [right_old (Γ := Γ) (t := t) (sp := h.length) M8.wf M8.law ge0 M8.bk.ok m0 (by omega) a0 ab bm fw S (by omega)]
    exact ⟨rfl, ks, M8, by omega⟩
end
end K78
namespace Bk
open PV
/-! ### counting pairs -/
theorem count_swap {α β : Type} (P : α → β → Bool) (B : List β) : ∀ A : List α, (A.map fun a => (B.filter (P a)).length).sum = (B.map fun b => (A.filter fun a => P a b).length).sum
  | [] => by
    induction B with
    | nil => rfl
    | cons b r ih => simpa using ih
  | a :: A => by
    rw [List.map_cons, List.sum_cons, count_swap P B A]
    have key : ∀ B : List β, (B.filter (P a)).length + (B.map fun b => (A.filter fun a => P a b).length).sum = (B.map fun b => ((a :: A).filter fun a => P a b).length).sum := by
      intro B
      induction B with
      | nil => rfl
      | cons b r ih =>
        rw [List.map_cons, List.sum_cons, List.map_cons, List.sum_cons, ← ih]
        by_cases z : P a b = true
        · rw [List.filter_cons_of_pos z, List.filter_cons_of_pos (p := fun a => P a b) z, List.length_cons, List.length_cons]
          omega
        · rw [List.filter_cons_of_neg z, List.filter_cons_of_neg (p := fun a => P a b) z]
          omega
    exact key B
theorem nodup_count (n : Nat) (xs : List Int) (nd : xs.Nodup) (h : ∀ x ∈ xs, 0 ≤ x ∧ x < n) (p : Int → Bool) : (xs.filter p).length = ((List.range n).filter fun y : Nat => decide ((y : Int) ∈ xs) && p y).length := by
  have pm : (xs.filter p).Perm (((List.range n).filter fun y : Nat => decide ((y : Int) ∈ xs) && p y).map fun y : Nat => (y : Int)) := by
    rw [List.perm_ext_iff_of_nodup (nd.filter p)]
    · intro a
      constructor
      · intro ha
        rw [List.mem_filter] at ha
        have := h a ha.1
        refine List.mem_map.mpr ⟨a.toNat, List.mem_filter.mpr ⟨List.mem_range.mpr (by omega), ?_⟩, by omega⟩
        have e : ((a.toNat : Nat) : Int) = a := by omega
        rw [e]
        simp [ha.1, ha.2]
      · intro ha
        obtain ⟨y, hy, rfl⟩ := List.mem_map.mp ha
        rw [List.mem_filter] at hy
        simp at hy
        exact List.mem_filter.mpr ⟨hy.2.1, hy.2.2⟩
    · unfold List.Nodup
      rw [List.pairwise_map]
      exact ((List.nodup_range (n := n)).filter _).imp fun h e => h (by omega)
  have q := pm.length_eq
  rwa [List.length_map] at q
end Bk
namespace K79
open PySem PV Bk K78
open L2 (atI ixN)
section
variable {Γ : Gm}
theorem pow_b {i : Nat} {n : Int} (hi : i ≤ 64) (n0 : 0 ≤ n) (n1 : n < ((16777216 ^ i : Nat) : Int)) : sm n = true := by
  have q : (16777216 ^ i : Nat) ≤ 16777216 ^ 64 := Nat.pow_le_pow_right (by decide) hi
  have q2 : (16777216 ^ 64 : Nat) < 2 ^ 3999 := by decide +kernel
  exact sm_of (by omega)
theorem deal_loop {P : Po} {h : Hx} {x0 x1 x2 : Option D} {s0 : Int} (q0 : 0 ≤ s0) (q1 : s0 ≤ 2 ^ 32) (fin : ∀ (x3 x5 : Option D) (v : Int), P.nx [x0, x1, x2, x3, some (.int v), x5] h) :
    (sFor (iOf (aCons (rC (.int 64)) aNil) fRg1) (.nm 5) dealBody [x0, x1, x2, some (.int s0), some (.int 0), none] h).tr P := by
  refine tr_forR (lo := 0) (h1 := h) 64 (fun i c h' => ∃ (s n : Int) (x5 : Option D), c = [x0, x1, x2, some (.int s), some (.int n), x5] ∧ h' = h ∧ (0 ≤ s ∧ s ≤ 2 ^ 32) ∧ 0 ≤ n ∧ n < ((16777216 ^ i : Nat) : Int)) (by simp [fRg1, smallR]) ⟨_, _, _, rfl, rfl, ⟨q0, q1⟩, by decide, by decide⟩ ?_ ?_
  · rintro i hi c h' ⟨s, n, x5, rfl, rfl, ⟨s0, s1⟩, n0, n1⟩
    refine ⟨_, v_nm _ _, ?_⟩
    unfold dealBody
    have m1 := Int.fmod_nonneg_of_pos (s * 48271 + 12345) (b := 2147483647) (by decide)
    have m2 := Int.fmod_lt_of_pos (s * 48271 + 12345) (b := 2147483647) (by decide)
    simp
    refine ⟨⟨sm_b (by omega) (by omega), by decide +kernel⟩, ⟨pow_b (by omega) n0 n1, by decide +kernel⟩, sm_b (by omega) (by omega), by decide +kernel, _, _, ⟨rfl, rfl⟩, ⟨m1, by omega⟩, ?_, ?_⟩
    · have := Int.fmod_nonneg_of_pos (((s * 48271 + 12345).fmod 2147483647 * (s * 48271 + 12345).fmod 2147483647).fmod 2147483629 / 64) (b := 16777216) (by decide)
      omega
    · have q := pow_s n1 (Int.fmod_lt_of_pos ((((s * 48271 + 12345).fmod 2147483647 * (s * 48271 + 12345).fmod 2147483647).fmod 2147483629) / 64) (b := 16777216) (by decide))
      simpa using q
  · rintro c h' ⟨s, n, x5, rfl, rfl, _, _, _⟩
    exact fin _ _ _
theorem deal_tr {h : Hx} {a b k : Int} (hk : 0 ≤ k) (hk2 : k < 2) : (K79.f_l_deal Γ [.lst [.int a, .int b], .int k] h).tr (fun d h' => ∃ v : Int, d = .ref h.length ∧ h' = h ++ [.lst [.int v]]) E0x := by
  refine tr_fn rfl ?_
  unfold K79.b_l_deal
  have e : k = 0 ∨ k = 1 := by omega
  rcases e with e | e <;> subst e
  · simp [gLen, atI, ixN]
    refine ⟨by decide +kernel, by decide +kernel, by decide +kernel, fun _ => ⟨by decide +kernel, ?_⟩⟩
    refine deal_loop (fb1 _).1 (fb1 _).2 fun x3 x5 v => ?_
    simp
  · simp [gLen, atI, ixN]
    refine ⟨by decide +kernel, by decide +kernel, by decide +kernel, fun _ => ⟨by decide +kernel, ?_⟩⟩
    refine deal_loop (fb2 _).1 (fb2 _).2 fun x3 x5 v => ?_
    simp
theorem can_eq {h : Hx} {bk kp : Nat} {m : Int} {ks : List Ed} (B : BookAt Γ h bk kp m ks) : f_SumBook_can_come Γ [.ref bk] h = .ok (.int (m - ks.length)) h := by
  refine tr_eq (tr_fn rfl ?_)
  unfold b_SumBook_can_come
  simp [fld_many B.ins, fld_kept B.ins, gLen, k_ref B.kept]
/-- how many cuts behind this one have its label -/
def cntL (m : Int) (Ls : List Int) (x : Int) : Nat := ((List.range (m + 1).toNat).filter fun y : Nat => decide (Ls[x.toNat]? = Ls[y]?) && decide (x < (y : Int))).length
def knownN (m : Int) (Ls : List Int) : Int := ((List.range m.toNat).map fun x : Nat => ((cntL m Ls x : Nat) : Int)).sum
theorem found_cnt {m s : Int} {ks : List Ed} {Ls : List Int} {W : List (Int × List (Int × Int))} (F : Found m ks s W) (L : Lab m ks Ls) (s0 : 0 ≤ s) (s1 : s ≤ m) : ((W.map (·.1)).filter fun x => decide (s < x)).length = cntL m Ls s := by
  rw [nodup_count (m + 1).toNat _ F.re.nd (fun x hx => by
    obtain ⟨q, hq, rfl⟩ := List.mem_map.mp hx
    have := F.re.rng q hq
    omega)]
  unfold cntL
  congr 1
  apply List.filter_congr
  intro y hy
  rw [List.mem_range] at hy
  congr 1
  by_cases z : (y : Int) ∈ W.map (·.1)
  · obtain ⟨q, hq, e⟩ := List.mem_map.mp z
    have P := F.re.pth q hq
    have z2 := L.of_path P
    rw [show q.1 = (y : Int) from e] at z2
    simp only [Int.toNat_natCast] at z2
    simp only [z, z2]
  · have z2 := L.of_sep (F.re.sep F.cl z) s0 s1 (by omega) (by omega)
    simp only [Int.toNat_natCast] at z2
    simp only [z, z2]
end
end K79
namespace K79
open PySem PV Bk K78
open L2 (atI ixN)
section
variable {Γ : Gm}
def KInv (h : Hx) (m : Int) (Ls : List Int) (i : Nat) (acc : List D) (h' : Hx) : Prop := acc = ((List.range i).map fun x : Nat => ((cntL m Ls x : Nat) : Int)).map D.int ∧ Wf h' ∧ ∃ t, h' = h ++ t
theorem known_eq {h : Hx} {bk kp : Nat} {m : Int} {ks : List Ed} {Ls : List Int} (B : BookAt Γ h bk kp m ks) (w : Wf h) (L : Lab m ks Ls) : f_SumBook_known_many Γ [.ref bk] h = .ok (.int (knownN m Ls)) h := by
  refine tr_eq (tr_fn rfl ?_)
  unfold b_SumBook_known_many
  have m0 := B.m0
  have m1 := B.m1
  simp
  refine tr_lc (s := .rg 0 m.toNat) (h1 := h) m.toNat (KInv h m Ls) ?_ rfl (by omega) ⟨rfl, w, [], by simp⟩ ?_ ?_
  · simp [fld_many B.ins, fRg1, small_ok (i := m) (by omega) (by omega)]
  · rintro i hi acc h' ⟨e1, w', t, rfl⟩
    refine ⟨.int (0 + i), if_pos hi, ?_⟩
    have Bh : BookAt Γ (h ++ t) bk kp m ks := B.more
    simp [wipeC, tt1]
    refine tr_lcsrc ?_
    simp [Bh.ins]
    refine tr_use (from_tr Bh w' (by omega) (by omega)) ?_
    rintro _ h2 ⟨rfl, W, rfl, F⟩
    have cnt := found_cnt (s := (i : Int)) F L (by omega) (by omega)
    have sm := F.re.small (by omega)
    simp only [d_ref ge0, set0, tr_ok]
    have ek : (W.map wayD).map (fun kv => keyD kv.1) = (W.map (·.1)).map D.int := by
      rw [List.map_map, List.map_map]
      rfl
    rw [ek]
    have key := lc_filter (c := [some (.ref bk), some (.int i), none]) (h := (h ++ t) ++ [.gone]) (s := .sq (.lst ((W.map (·.1)).map D.int))) (h1 := (h ++ t) ++ [.gone]) (r := fun _ h => .ok (.sq (.lst ((W.map (·.1)).map D.int))) h) (t := .nm 2) (vs := [2])
      (tt := rB (r2 opGt (rV 2) (rV 1))) (te := rV 2) ((W.map (·.1)).map D.int) (fun d => match d with
        | .int x => decide ((i : Int) < x)
        | _ => false) (fun d => d) rfl rfl (fun j hj => rfl) (by simp; omega) (by
          intro d hd
          obtain ⟨x, hx, rfl⟩ := List.mem_map.mp hd
          simp [wipeC])
    rw [key]
    have e2 : (((W.map (·.1)).map D.int).filter fun d => match d with
        | .int x => decide ((i : Int) < x)
        | _ => false).length = cntL m Ls i := by
      rw [List.filter_map, List.length_map, ← cnt]
      rfl
    simp only [List.map_id', tr_ok, gLen, q_lst, e2]
    refine ⟨?_, w'.push rfl, t ++ [.gone], by simp⟩
    rw [e1, List.range_succ]
    simp
  · rintro acc h' ⟨e1, w', t, rfl⟩
    refine ⟨rfl, ?_⟩
    subst e1
    simp only [gSum, intsL, l_lst, Option.bind_some, i_map, tr_ok]
    rw [cut_ok w rfl]
    exact ⟨rfl, rfl⟩
/-- the law's own count -/
def pairsN (m : Int) (Ls : List Int) : Int := ((List.range (m + 1).toNat).map fun y : Nat => (((Ls.take y).count (Ls[y]?.getD 0) : Nat) : Int)).sum
theorem cast_sum (f : Nat → Nat) (l : List Nat) : (l.map fun x => ((f x : Nat) : Int)).sum = (((l.map f).sum : Nat) : Int) := by
  induction l with
  | nil => rfl
  | cons a r ih => simp [ih]
theorem count_take (Ls : List Int) (v : Int) : ∀ y, y ≤ Ls.length → (Ls.take y).count v = ((List.range y).filter fun x => decide (Ls[x]? = some v)).length
  | 0, _ => rfl
  | y + 1, h => by
    rw [List.take_add_one, List.getElem?_eq_getElem (by omega), List.count_append, count_take Ls v y (by omega), List.range_succ, List.filter_append, List.length_append]
    congr 1
    by_cases z : Ls[y] = v
    · simp [z, List.getElem?_eq_getElem (show y < Ls.length by omega)]
    · simp [z, List.getElem?_eq_getElem (show y < Ls.length by omega)]
theorem pairs_known {m : Int} {ks : List Ed} {Ls : List Int} (L : Lab m ks Ls) (m0 : 0 ≤ m) : pairsN m Ls = knownN m Ls := by
  have len := L.len
  unfold pairsN knownN
  rw [cast_sum (fun y => (Ls.take y).count (Ls[y]?.getD 0)), cast_sum (fun x : Nat => cntL m Ls x)]
  congr 1
  have e1 : ((List.range (m + 1).toNat).map fun y => (Ls.take y).count (Ls[y]?.getD 0)) = ((List.range (m + 1).toNat).map fun y => ((List.range (m + 1).toNat).filter fun x => decide (Ls[x]? = Ls[y]?) && decide (x < y)).length) := by
    apply List.map_congr_left
    intro y hy
    rw [List.mem_range] at hy
    have hv : Ls[y]? = some Ls[y] := List.getElem?_eq_getElem (by omega)
    rw [hv, Option.getD_some, count_take Ls _ y (by omega)]
    have e : (List.range (m + 1).toNat) = List.range y ++ (List.range ((m + 1).toNat - y)).map (y + ·) := by
      rw [← List.range_add]
      congr 1
      omega
    rw [e, List.filter_append, List.length_append]
    have z : ((List.range ((m + 1).toNat - y)).map (y + ·)).filter (fun x => decide (Ls[x]? = some Ls[y]) && decide (x < y)) = [] := by
      rw [List.filter_eq_nil_iff]
      intro x hx
      obtain ⟨u, _, rfl⟩ := List.mem_map.mp hx
      simp
    rw [z, List.length_nil, Nat.add_zero]
    congr 1
    apply List.filter_congr
    intro x hx
    rw [List.mem_range] at hx
    simp [hx]
  rw [e1, ← count_swap (fun x y => decide (Ls[x]? = Ls[y]?) && decide (x < y)) (List.range (m + 1).toNat) (List.range (m + 1).toNat)]
  have e2 : (List.range (m + 1).toNat) = List.range m.toNat ++ [m.toNat] := by
    rw [show (m + 1).toNat = m.toNat + 1 from by omega, List.range_succ]
  have e3 : ((List.range (m + 1).toNat).map fun x => ((List.range (m + 1).toNat).filter fun y => decide (Ls[x]? = Ls[y]?) && decide (x < y)).length) = (List.range m.toNat).map (fun x => ((List.range (m + 1).toNat).filter fun y => decide (Ls[x]? = Ls[y]?) && decide (x < y)).length) ++ [0] := by
    conv => lhs; arg 2; rw [e2]
    rw [List.map_append]
    congr 1
    have z : ((List.range (m + 1).toNat).filter fun y => decide (Ls[m.toNat]? = Ls[y]?) && decide (m.toNat < y)) = [] := by
      rw [List.filter_eq_nil_iff]
      intro x hx
      rw [List.mem_range] at hx
      simp
      omega
    simp [z]
  rw [e3, List.sum_append]
  simp only [List.sum_cons, List.sum_nil, Nat.add_zero]
  congr 1
  apply List.map_congr_left
  intro x hx
  unfold cntL
  congr 1
  apply List.filter_congr
  intro y hy
  simp
end
end K79
namespace K79
open PySem PV Bk K78
open L2 (atI ixN)
section
variable {Γ : Gm}
def askD (m : Int) (h : Hx) (ks : List Ed) (a b : Int) (d : D) (h' : Hx) : Prop := (d = .tup [.str "free", .non] ∧ h' = h ∧ Sep ks a (b + 1)) ∨
  ∃ p, d = .tup [.str "sum", .int (totBy ks p), .ref h.length] ∧ h' = h ++ [.lst (p.map PV.pairD)] ∧ Sig ks a (b + 1) p ∧ p.length ≤ (m + 1).toNat
theorem ask_tr {h : Hx} {bk kp : Nat} {m a b : Int} {ks : List Ed} (B : BookAt Γ h bk kp m ks) (w : Wf h) (h0 : 0 ≤ a) (h1 : a ≤ b) (h2 : b < m) : (f_SumBook_ask_sum Γ [.ref bk, .int a, .int b] h).tr (askD m h ks a b) E0x := by
  refine tr_fn rfl ?_
  unfold b_SumBook_ask_sum
  simp [B.ins]
  refine tr_use (signs_tr B w h0 h1 h2) ?_
  have few := B.few
  rintro d h' (⟨rfl, rfl, S⟩ | ⟨p, rfl, rfl, S, lp⟩)
  · simp [opIsN, isNon]
    exact .inl ⟨rfl, rfl, S⟩
  · have Bh : BookAt Γ (h ++ [.lst (p.map PV.pairD)]) bk kp m ks := B.more
    have hl := sig_len S.path
    have te := totby_eq (d := .ref h.length) Bh S.path.ok (by rw [q_ref, k_ref ge0]) (by omega)
    simp [opIsN, isNon, Bh.ins, te]
    exact .inr ⟨p, rfl, rfl, S, lp⟩
theorem eq_free {h : Hx} : opEq (.tup [.str "free", .non]) (.tup [.str "free", .non]) h = .ok (.bl true) h := by
  have e : PyData.canLay0 (.str "free") = true := by decide +kernel
  unfold opEq toPh
  simp only [k_tup, toP, toPs, Option.map_some, Option.bind_some]
  rw [if_pos ⟨by unfold SeqAt.shaped; simp [PyData.canLay0, PyData.canLayAll0] at e ⊢; simp [PyData.depth, PyData.depthAll, e], by unfold SeqAt.shaped; simp [PyData.canLay0, PyData.canLayAll0] at e ⊢; simp [PyData.depth, PyData.depthAll, e]⟩]
  simp [PyData.eqv, PyData.eqvAll]
theorem ne_ss {h : Hx} (a b : Str) (ha : PyData.canLay0 (.str a) = true) (hb : PyData.canLay0 (.str b) = true) : opNe (.str a) (.str b) h = .ok (.bl (!(a == b))) h := by
  unfold opNe toPh
  simp only [k_str, toP]
  rw [if_pos ⟨by unfold SeqAt.shaped; rw [ha]; simp [PyData.depth], by unfold SeqAt.shaped; rw [hb]; simp [PyData.depth]⟩]
  simp [PyData.eqv]
theorem eq_2i {h : Hx} (a b c d : Int) : opEq (.tup [.int a, .int b]) (.tup [.int c, .int d]) h = .ok (.bl (a == c && b == d)) h := by
  unfold opEq toPh
  simp [toP, toPs, SeqAt.shaped, PyData.canLay0, PyData.canLayAll0, PyData.depth, PyData.depthAll, PyData.eqv, PyData.eqvAll]
theorem asked_free {h : Hx} {lp : Nat} {m a b : Int} {ks : List Ed} (hl : h[lp]? = some (.lst (ks.map lawD))) (hok : ∀ e ∈ ks, EdOk m e) (m0 : 1 ≤ m) (m1 : m ≤ 1000) (h0 : 0 ≤ a) (h1 : a ≤ b) (h2 : b < m) (S : Sep ks a (b + 1)) :
    f_l_asked_right Γ [.int m, .ref lp, .int a, .int b, .tup [.str "free", .non]] h = .ok (.bl true) h := by
  refine tr_eq (tr_fn rfl ?_)
  unfold b_l_asked_right
  simp
  refine tr_use (labels_tr hl hok (by omega) m1) ?_
  rintro _ h' ⟨Ls, rfl, rfl, L⟩
  have ne := L.of_sep S h0 (by omega) (by omega) (by omega)
  have len := L.len
  obtain ⟨p, hp⟩ : ∃ u, Ls[a.toNat]? = some u := ⟨Ls[a.toNat]'(by omega), List.getElem?_eq_getElem _⟩
  obtain ⟨q, hq⟩ : ∃ u, Ls[(b + 1).toNat]? = some u := ⟨Ls[(b + 1).toNat]'(by omega), List.getElem?_eq_getElem _⟩
  have ap : atI (Ls.map D.int) a = some (.int p) := by rw [PV.at_int _ h0 (by rw [List.length_map]; omega), List.getElem?_map, hp]; rfl
  have aq : atI (Ls.map D.int) (b + 1) = some (.int q) := by rw [PV.at_int _ (by omega) (by rw [List.length_map]; omega), List.getElem?_map, hq]; rfl
  have pq : ¬ p = q := fun e => ne (by rw [hp, hq, e])
  simp [ap, aq, pq, eq_free]
theorem asked_sum {h : Hx} {lp sp : Nat} {m a b : Int} {ks : List Ed} {p : List (Int × Int)} (w : Wf h) (hl : h[lp]? = some (.lst (ks.map lawD))) (hs : h[sp]? = some (.lst (p.map PV.pairD))) (hok : ∀ e ∈ ks, EdOk m e) (m0 : 1 ≤ m) (m1 : m ≤ 1000) (h0 : 0 ≤ a) (h1 : a ≤ b) (h2 : b < m) (few : ks.length ≤ 10000) (S : Sig ks a (b + 1) p) (hp : p.length < 63) :
    f_l_asked_right Γ [.int m, .ref lp, .int a, .int b, .tup [.str "sum", .int (totBy ks p), .ref sp]] h = .ok (.bl true) h := by
  refine tr_eq (tr_fn rfl ?_)
  unfold b_l_asked_right
  simp
  refine tr_use (labels_tr hl hok (by omega) m1) ?_
  rintro _ h' ⟨Ls, rfl, rfl, L⟩
  have eq := L.of_path S.path
  have len := L.len
  obtain ⟨u, hu⟩ : ∃ u, Ls[a.toNat]? = some u := ⟨Ls[a.toNat]'(by omega), List.getElem?_eq_getElem _⟩
  have ap : atI (Ls.map D.int) a = some (.int u) := by rw [PV.at_int _ h0 (by rw [List.length_map]; omega), List.getElem?_map, hu]; rfl
  have aq : atI (Ls.map D.int) (b + 1) = some (.int u) := by rw [PV.at_int _ (by omega) (by rw [List.length_map]; omega), List.getElem?_map, ← eq, hu]; rfl
  have ar := are_eq (Γ := Γ) w hl hs hok m0 m1 h1 few S hp
  have tt := total_eq (Γ := Γ) (d := .ref sp) hl hok S.path.ok (by rw [q_ref, k_ref hs]) (by omega)
  have k1 : PyData.canLay0 (.str "sum") = true := by decide +kernel
  simp [isi_tup_tup, gLen, ap, aq, ar, tt, ne_ss _ _ k1 k1]
theorem count_eq {h : Hx} (ns : List Int) (k : Int) : mCnt (.lst (ns.map D.int)) [.int k] h = .ok (.int (ns.count k : Nat)) h := by
  unfold mCnt intsL
  simp
def CInv (bk lp : Nat) (m : Int) (Ls : List Int) (h : Hx) (i : Nat) (c : En) (h' : Hx) : Prop := ∃ x5, c = [some (.ref bk), some (.int m), some (.ref lp), some (.lst (Ls.map D.int)), some (.int (((List.range i).map fun y : Nat => (((Ls.take y).count (Ls[y]?.getD 0) : Nat) : Int)).sum)), x5, none] ∧ h' = h
theorem cut_take {α : Type} (xs : List α) (i : Nat) : PV.cutD xs none (some (i : Int)) = xs.take i := by
  unfold PV.cutD
  rw [HT.sIx_nat, HT.sIx_none, List.drop_zero, Nat.sub_zero]
  rw [List.take_eq_take_iff]
  omega
theorem counts_eq {h : Hx} {bk kp lp : Nat} {m : Int} {ks : List Ed} (B : BookAt Γ h bk kp m ks) (w : Wf h) (hl : h[lp]? = some (.lst (ks.map lawD))) : f_l_counts_right Γ [.ref bk, .int m, .ref lp] h = .ok (.bl true) h := by
  refine tr_eq (tr_fn rfl ?_)
  unfold b_l_counts_right
  have m0 := B.m0
  have m1 := B.m1
  simp
  refine tr_use (labels_tr hl B.ok (by omega) m1) ?_
  rintro _ h' ⟨Ls, rfl, rfl, L⟩
  have len := L.len
  refine tr_forR (lo := 0) (h1 := h') (m + 1).toNat (CInv bk lp m Ls h') ?_ ⟨none, rfl, rfl⟩ ?_ ?_
  · simp [fRg1, small_ok (i := m + 1) (by omega) (by omega)]
  · rintro i hi c h2 ⟨x5, rfl, rfl⟩
    have hv : Ls[i]? = some Ls[i] := List.getElem?_eq_getElem (by omega)
    have ai : atI (Ls.map D.int) (i : Int) = some (.int Ls[i]) := by rw [PV.at_nat _ (by rw [List.length_map]; omega), List.getElem?_map, hv]; rfl
    have ce := count_eq (h := h2) (Ls.take i) Ls[i]
    rw [List.map_take] at ce
    simp [ai]
    rw [cut_take, ce]
    simp
    refine ⟨some (.int i), ?_, rfl⟩
    rw [List.range_succ]
    simp [hv]
  · rintro c h2 ⟨x5, rfl, rfl⟩
    have kk := pairs_known L (by omega)
    unfold pairsN at kk
    rw [kk]
    simp [B.ins, can_eq B, known_eq B w L, gLen, k_ref hl, eq_2i]
end
end K79
namespace K79
open PySem PV Bk K78
open L2 (atI ixN)
section
variable {Γ : Gm}
def strD (p : Int × Int) : D := .tup [.int p.1, .int p.2]
def StrOk (m : Int) (p : Int × Int) : Prop := 0 ≤ p.1 ∧ p.1 ≤ p.2 ∧ p.2 < m
def DInv (n : Nat) (m : Int) (ks : List Ed) (i : Nat) (acc : List D) (h : Hx) : Prop := ∃ ps : List (Int × Int), acc = ps.map strD ∧ ps.length = i ∧ (∀ p ∈ ps, StrOk m p) ∧ Mid Γ n m ks h
def EInv (Γ : Gm) (n : Nat) (m : Int) (ks : List Ed) (x4 x5 : Option D) (i : Nat) (c : En) (h : Hx) : Prop := ∃ x6 x7 x8, c = [some (.ref n), some (.ref (n + 1)), some (.int m), some (.ref (n + 3)), x4, x5, x6, x7, x8, none] ∧ Mid Γ n m ks h
theorem clear_eq {h : Hx} {n : Nat} {ds : List D} (e : h[n]? = some (.lst ds)) : mClear (.ref n) [] h = .ok .non (h.set n (.lst [])) := by
  unfold mClear
  simp [m_ref e]
theorem eq_sum {h : Hx} (s : Str) (k1 : PyData.canLay0 (.str s) = true) : opEq (.str s) (.str "sum") h = .ok (.bl (s == "sum")) h := eq_ss _ _ k1 (by decide +kernel)
theorem asks_tr {n : Nat} {m a b : Int} {ks : List Ed} {h : Hx} (M : Mid Γ n m ks h) (a0 : 0 ≤ a) (ab : a ≤ b) (bm : b < m) : (f_l_asks_right Γ [.ref n, .ref (n + 1), .int m, .ref (n + 3), .tup [.int a, .int b]] h).tr (fun d h' => d = .bl true ∧ Mid Γ n m ks h') E0x := by
  refine tr_fn rfl ?_
  unfold b_l_asks_right
  have m0 := M.bk.m0
  have m24 := M.m24
  simp
  refine tr_lc (s := .rg 0 3) (h1 := h) 3 (DInv (Γ := Γ) n m ks) (by simp [fRg1, smallR]) rfl (by omega) ⟨[], rfl, rfl, by simp, M⟩ ?_ ?_
  · rintro i hi acc h' ⟨ps, rfl, e2, ok, M'⟩
    refine ⟨.int (0 + i), if_pos hi, ?_⟩
    simp [tt1, wipeC]
    refine tr_use (stretch_tr M'.pot m0 (by omega)) ?_
    rintro _ h2 ⟨x, y, rfl, x0, xy, ym, dr⟩
    refine ⟨ps ++ [(x, y)], by simp [strD], by simp [e2], ?_, M'.drawn dr⟩
    intro p hp
    rw [List.mem_append, List.mem_singleton] at hp
    rcases hp with hp | hp
    · exact ok p hp
    · subst hp; exact ⟨x0, xy, ym⟩
  · rintro acc h' ⟨ps, rfl, e2, ok, M'⟩
    refine ⟨rfl, ?_⟩
    simp [e2]
    have es : ps.map strD ++ [.tup [.int a, .int b]] = (ps ++ [(a, b)]).map strD := by simp [strD]
    rw [es]
    have ok2 : ∀ p ∈ ps ++ [(a, b)], StrOk m p := by
      intro p hp
      rw [List.mem_append, List.mem_singleton] at hp
      rcases hp with hp | hp
      · exact ok p hp
      · subst hp; exact ⟨a0, ab, bm⟩
    generalize ps ++ [(a, b)] = qs at ok2
    refine tr_forL (ds := qs.map strD) (d0 := .lst (qs.map strD)) (h1 := h') (EInv Γ n m ks (some (.tup [.int a, .int b])) (some (.lst (qs.map strD)))) (by simp [fSq]) (fun _ => rfl) ⟨_, _, _, rfl, M'⟩ ?_ ?_
    · rintro i d hd c h2 ⟨x6, x7, x8, rfl, M2⟩
      rw [List.getElem?_map, Option.map_eq_some_iff] at hd
      obtain ⟨⟨x, y⟩, hd, rfl⟩ := hd
      obtain ⟨x0, xy, ym⟩ := ok2 _ (List.mem_of_getElem? hd)
      have x0 : 0 ≤ x := x0
      have xy : x ≤ y := xy
      have ym : y < m := ym
      simp [strD, M2.bk.ins]
      refine tr_use (ask_tr M2.bk M2.wf x0 xy ym) ?_
      rintro d h3 (⟨rfl, rfl, S⟩ | ⟨p, rfl, rfl, S, pl⟩)
      · simp [asked_free (Γ := Γ) M2.law M2.bk.ok m0 (by omega) x0 xy ym S, eq_sum "free" (by decide +kernel)]
        exact ⟨_, _, _, rfl, M2⟩
      · have M3 := M2.more (o := .lst (p.map PV.pairD)) (pairs_und p)
        have l3 : n + 3 < h2.length := (List.getElem?_eq_some_iff.mp M2.law).1
        have M4 := M3.set (q := h2.length) (o := .lst []) (by omega) rfl
        rw [set0] at M4
        simp [asked_sum (Γ := Γ) M3.wf M3.law ge0 M3.bk.ok m0 (by omega) x0 xy ym M3.bk.few S (by omega), eq_sum "sum" (by decide +kernel), k_ref ge0, clear_eq ge0, set0, M4.bk.ins]
        refine tr_use (ask_tr M4.bk M4.wf x0 xy ym) ?_
        rintro d h5 (⟨rfl, rfl, S2⟩ | ⟨p2, rfl, rfl, S2, pl2⟩)
        · exact (S.path.not_sep S2).elim
        · have M5 := M4.more (o := .lst (p2.map PV.pairD)) (pairs_und p2)
          rw [asked_sum (Γ := Γ) M5.wf M5.law ge0 M5.bk.ok m0 (by omega) x0 xy ym M5.bk.few S2 (by omega)]
          simp
          exact ⟨_, _, _, rfl, by simpa using M5⟩
    · rintro c h2 ⟨x6, x7, x8, rfl, M2⟩
      simp [counts_eq M2.bk M2.wf M2.law, M2]
end
end K79
namespace K81
open PySem PV Bk K78 K79
open L2 (atI ixN)
section
variable {Γ : Gm}
def tpP (e : Ed) : PyData := .tuple [.int e.1, .int (e.2.1 + 1), .int e.2.2]
theorem toPs_book (ks : List Ed) : toPs (ks.map bookD) = some (ks.map tpP) := by
  induction ks with
  | nil => simp [toPs]
  | cons a r ih => simp [toPs, toP, bookD, tpP, ih]
theorem lay_book (ks : List Ed) : PyData.canLayAll0 (ks.map tpP) = true := by
  induction ks with
  | nil => simp [PyData.canLayAll0]
  | cons a r ih => simp [PyData.canLayAll0, PyData.canLay0, tpP, ih]
theorem dep_book (ks : List Ed) : PyData.depthAll (ks.map tpP) ≤ 1 := by
  induction ks with
  | nil => simp [PyData.depthAll]
  | cons a r ih => simp [PyData.depthAll, PyData.depth, tpP]; omega
theorem eq_nilb {h : Hx} {kp : Nat} {ks : List Ed} (e : h[kp]? = some (.lst (ks.map bookD))) : opEq (.ref kp) (.lst []) h = .ok (.bl (decide (ks = []))) h := by
  have d := dep_book ks
  have s1 : SeqAt.shaped (.list (ks.map tpP)) = true := by
    unfold SeqAt.shaped
    simp [PyData.canLay0, PyData.depth, lay_book]
    omega
  have s2 : SeqAt.shaped (.list []) = true := by decide +kernel
  unfold opEq toPh
  rw [k_ref e, k_lst]
  simp only [toPs_book, toPs, Option.map_some]
  rw [if_pos ⟨s1, s2⟩]
  cases ks <;> simp [PyData.eqv, PyData.eqvAll]
theorem eq_tw {h : Hx} (a b t : Int) (s : Str) (k1 : PyData.canLay0 (.str s) = true) : opEq (.tup [.int a, .int b, .int t]) (.str s) h = .ok (.bl false) h := by
  unfold opEq toPh
  simp only [k_tup, k_str, toP, toPs, Option.map_some, Option.bind_some]
  rw [if_pos ⟨by simp [SeqAt.shaped, PyData.canLay0, PyData.canLayAll0, PyData.depth, PyData.depthAll], by unfold SeqAt.shaped; rw [k1]; simp [PyData.depth]⟩]
  simp [PyData.eqv]
theorem eq_nw {h : Hx} (s : Str) (k1 : PyData.canLay0 (.str s) = true) : opEq .non (.str s) h = .ok (.bl false) h := by
  unfold opEq toPh
  simp only [k_non, k_str, toP]
  rw [if_pos ⟨by decide +kernel, by unfold SeqAt.shaped; rw [k1]; simp [PyData.depth]⟩]
  simp [PyData.eqv]
theorem pop_eq {h : Hx} {n : Nat} {xs : List D} {d : D} (e : h[n]? = some (.lst xs)) (hd : xs.getLast? = some d) : mPop (.ref n) [] h = .ok d (h.set n (.lst xs.dropLast)) := by
  have z : xs[xs.length - 1]? = some d := by rw [← List.getLast?_eq_getElem?]; exact hd
  unfold mPop
  simp [m_ref e, z]
theorem back_eq {h : Hx} {bk kp : Nat} {m : Int} {ks : List Ed} (B : BookAt Γ h bk kp m ks) (ne : ks ≠ []) : f_SumBook_take_back Γ [.ref bk] h = .ok .non (h.set kp (.lst (ks.dropLast.map bookD))) := by
  obtain ⟨e, he⟩ : ∃ e, ks.getLast? = some e := ⟨_, List.getLast?_eq_some_getLast ne⟩
  have hd : (ks.map bookD).getLast? = some (bookD e) := by rw [List.getLast?_map, he]; rfl
  refine tr_eq (tr_fn rfl ?_)
  unfold b_SumBook_take_back
  simp [fld_kept B.ins, eq_nilb B.kept, ne, k_ref B.kept, pop_eq B.kept hd]
theorem mid_back {n : Nat} {m : Int} {ks : List Ed} {h : Hx} (M : Mid Γ n m ks h) : Mid Γ n m ks.dropLast ((h.set (n + 2) (.lst (ks.dropLast.map bookD))).set (n + 3) (.lst (ks.dropLast.map lawD))) := by
  have l3 : n + 3 < h.length := (List.getElem?_eq_some_iff.mp M.law).1
  refine ⟨(M.wf.set _ (book_und _)).set _ (law_und _), ?_, ⟨?_, ?_, fun e he => M.bk.ok e ((List.dropLast_sublist ks).subset he), M.bk.m0, M.bk.m1, ?_⟩, ?_, M.m24⟩
  · obtain ⟨k, e⟩ := M.pot
    exact ⟨k, by rw [List.getElem?_set_ne (by omega), List.getElem?_set_ne (by omega)]; exact e⟩
  · rw [List.getElem?_set_ne (by omega), List.getElem?_set_ne (by omega)]; exact M.bk.ins
  · rw [List.getElem?_set_ne (by omega), List.getElem?_set_self (by omega)]
  · have := M.bk.few
    rw [List.length_dropLast]
    omega
  · rw [List.getElem?_set_self (by rw [List.length_set]; omega)]
/-- told and looked at, with what is kept then -/
theorem told_sm {n : Nat} {m a b t : Int} {ks : List Ed} {h : Hx} (M : Mid Γ n m ks h) (a0 : 0 ≤ a) (ab : a ≤ b) (bm : b < m) (smt : sm t = true) (few : ks.length + 1 ≤ 10000) : (f_SumBook_tell_sum Γ [.ref (n + 1), .int a, .int b, .int t] h).tr (fun d h' => (f_l_told_right Γ [.int m, .ref (n + 3), .int a, .int b, .int t, d] h').tr (fun r h2 => r = .bl true ∧ ∃ ks', Mid Γ n m ks' h2 ∧ (ks' = ks ∨ ks' = ks ++ [(a, b, t)])) E0x) E0x := by
  refine tr_use (tell_tr M.bk (by omega) M.wf a0 ab bm) ?_
  have fw := M.bk.few
  have m24 := M.m24
  have m0 := M.bk.m0
  rintro d h8 (⟨rfl, rfl, S⟩ | ⟨p, rfl, rfl, S, pl⟩)
  · have hl8 : (h.set (n + 2) (.lst ((ks ++ [(a, b, t)]).map bookD)))[n + 3]? = some (.lst (ks.map lawD)) := by rw [List.getElem?_set_ne (by omega)]; exact M.law
    rw [right_new (Γ := Γ) (t := t) hl8 M.bk.ok m0 (by omega) a0 ab bm fw S]
    exact ⟨rfl, ks ++ [(a, b, t)], M.kept ⟨a0, ab, bm, smt⟩ few, .inr rfl⟩
  · have M8 := M.more (o := .lst (p.map PV.pairD)) (pairs_und p)
    rw [right_old (Γ := Γ) (t := t) (sp := h.length) M8.wf M8.law ge0 M8.bk.ok m0 (by omega) a0 ab bm fw S (by omega)]
    exact ⟨rfl, ks, M8, .inl rfl⟩
/-- asked and looked at -/
theorem asked_tr {n : Nat} {m a b : Int} {ks : List Ed} {h : Hx} (M : Mid Γ n m ks h) (a0 : 0 ≤ a) (ab : a ≤ b) (bm : b < m) : (f_SumBook_ask_sum Γ [.ref (n + 1), .int a, .int b] h).tr (fun d h' => (f_l_asked_right Γ [.int m, .ref (n + 3), .int a, .int b, d] h').tr (fun r h2 => r = .bl true ∧ Mid Γ n m ks h2) E0x) E0x := by
  have m24 := M.m24
  have m0 := M.bk.m0
  refine tr_use (ask_tr M.bk M.wf a0 ab bm) ?_
  rintro d h3 (⟨rfl, rfl, S⟩ | ⟨p, rfl, rfl, S, pl⟩)
  · rw [asked_free (Γ := Γ) M.law M.bk.ok m0 (by omega) a0 ab bm S]
    exact ⟨rfl, M⟩
  · have M3 := M.more (o := .lst (p.map PV.pairD)) (pairs_und p)
    rw [asked_sum (Γ := Γ) M3.wf M3.law ge0 M3.bk.ok m0 (by omega) a0 ab bm M3.bk.few S (by omega)]
    exact ⟨rfl, M3⟩
def lastOk (ks : List Ed) (d : D) : Prop := d = .non ∨ ∃ e ∈ ks, d = lawD e
def PInv (Γ : Gm) (n : Nat) (m : Int) (ks : List Ed) (i : Nat) (c : En) (h : Hx) : Prop := ∃ ks' d x4, c = [some (.ref n), some (.ref (n + 1)), some (.ref (n + 3)), some d, x4] ∧ Mid Γ n m ks' h ∧ ks'.length + i = ks.length ∧ (∀ e ∈ ks', e ∈ ks) ∧ lastOk ks d
theorem backs_tr {n : Nat} {m : Int} {ks : List Ed} {h : Hx} (M : Mid Γ n m ks h) : (f_l_back Γ [.ref n, .ref (n + 1), .ref (n + 3)] h).tr (fun d h' => lastOk ks d ∧ ∃ ks', Mid Γ n m ks' h' ∧ (∀ e ∈ ks', e ∈ ks) ∧ ks'.length ≤ ks.length) E0x := by
  refine tr_fn rfl ?_
  unfold b_l_back
  simp
  refine tr_src ?_
  simp [gLen, k_ref M.law]
  refine tr_use (take_tr M.pot (by decide) (by decide +kernel)) ?_
  rintro _ h1 ⟨g, rfl, g0, g1, dr⟩
  have M1 := M.drawn dr
  have few := M.bk.few
  have hN : 0 ≤ (if 1 + g < (ks.length : Int) then 1 + g else (ks.length : Int)) ∧ (if 1 + g < (ks.length : Int) then 1 + g else (ks.length : Int)) ≤ ks.length := by split <;> omega
  simp [gMin2, fRg1, small_ok (i := if 1 + g < (ks.length : Int) then 1 + g else (ks.length : Int)) (by omega) (by omega)]
  refine tr_forR (lo := 0) (h1 := h1) (if 1 + g < (ks.length : Int) then 1 + g else (ks.length : Int)).toNat (PInv Γ n m ks) rfl ⟨ks, .non, none, rfl, M1, by simp, fun _ z => z, .inl rfl⟩ ?_ ?_
  · rintro i hi c h2 ⟨ks', d, x4, rfl, M2, e2, sub, lo⟩
    have ne : ks' ≠ [] := by
      intro z
      subst z
      simp at e2
      omega
    obtain ⟨e, he⟩ : ∃ e, ks'.getLast? = some e := ⟨_, List.getLast?_eq_some_getLast ne⟩
    have hd : (ks'.map lawD).getLast? = some (lawD e) := by rw [List.getLast?_map, he]; rfl
    have hl : (h2.set (n + 2) (.lst (ks'.dropLast.map bookD)))[n + 3]? = some (.lst (ks'.map lawD)) := by rw [List.getElem?_set_ne (by omega)]; exact M2.law
    have pe := pop_eq hl hd
    have Mb := mid_back M2
    rw [← List.map_dropLast] at pe
    simp only [onT_some, v_nm, List.set_cons_succ, List.set_cons_zero, v_sSeq, v_sIf, v_rB, v_r2, v_rMeth, v_rV, v_rC, List.getElem?_cons_succ, List.getElem?_cons_zero, bind_ok, M2.bk.ins, v_aNil, back_eq M2.bk ne, toS_ok, opNotN, PV.isNon, and_self, if_true]
    simp [-List.map_dropLast, k_ref hl, pe]
    refine ⟨ks'.dropLast, lawD e, _, rfl, Mb, ?_, fun x hx => sub x ((List.dropLast_sublist ks').subset hx), .inr ⟨e, sub e (List.mem_of_getLast? he), rfl⟩⟩
    rw [List.length_dropLast]
    have : 0 < ks'.length := List.length_pos_iff.mpr ne
    omega
  · rintro c h2 ⟨ks', d, x4, rfl, M2, e2, sub, lo⟩
    simp
    exact ⟨lo, ks', M2, fun a b c z => sub _ z, by omega⟩
end
end K81
namespace Bk
open PV K78 K79
/-! ### canonical labels, how many -/
def lab0 (m : Int) : List Int := (List.range (m + 1).toNat).map fun i : Nat => (i : Int)
def labStep (Ls : List Int) (e : Ed) : List Int := Ls.map (relab (Ls[e.1.toNat]?.getD 0) (Ls[(e.2.1 + 1).toNat]?.getD 0))
def labOf (m : Int) (ks : List Ed) : List Int := ks.foldl labStep (lab0 m)
theorem labOf_snoc (m : Int) (ks : List Ed) (e : Ed) : labOf m (ks ++ [e]) = labStep (labOf m ks) e := by
  unfold labOf
  rw [List.foldl_append]
  rfl
theorem lab_step {m : Int} {ks : List Ed} {Ls : List Int} {e : Ed} (L : Lab m ks Ls) (ok : EdOk m e) : Lab m (ks ++ [e]) (labStep Ls e) := by
  have len := L.len
  have e0 := ok.lo
  have e1 := ok.le
  have e2 := ok.hi
  obtain ⟨p, hp⟩ : ∃ u, Ls[e.1.toNat]? = some u := ⟨Ls[e.1.toNat]'(by omega), List.getElem?_eq_getElem _⟩
  obtain ⟨q, hq⟩ : ∃ u, Ls[(e.2.1 + 1).toNat]? = some u := ⟨Ls[(e.2.1 + 1).toNat]'(by omega), List.getElem?_eq_getElem _⟩
  unfold labStep
  rw [hp, hq]
  exact L.more ok hp hq
theorem take_snoc {α : Type} (l : List α) (i : Nat) (h : i < l.length) : l.take (i + 1) = l.take i ++ [l[i]] := by
  rw [List.take_add_one, List.getElem?_eq_getElem h]; rfl
theorem lab_of {m : Int} (hm : 0 ≤ m) : ∀ ks : List Ed, (∀ e ∈ ks, EdOk m e) → Lab m ks (labOf m ks) := by
  intro ks h
  have key : ∀ i, i ≤ ks.length → Lab m (ks.take i) (labOf m (ks.take i)) := by
    intro i
    induction i with
    | zero => intro _; exact Lab.init hm
    | succ i ih =>
      intro hi
      rw [take_snoc ks i (by omega), labOf_snoc]
      exact lab_step (ih (by omega)) (h _ (List.getElem_mem _))
  have q := key ks.length (Nat.le_refl _)
  rwa [List.take_length] at q
/-- how many label values there are -/
def vals (m : Int) (Ls : List Int) : Nat := ((List.range (m + 1).toNat).filter fun v : Nat => decide ((v : Int) ∈ Ls)).length
theorem filter_less (P : Nat → Bool) (w : Nat) : ∀ n, w < n → P w = true → ((List.range n).filter fun v => P v && decide (v ≠ w)).length + 1 = ((List.range n).filter P).length
  | 0, h, _ => absurd h (Nat.not_lt_zero _)
  | n + 1, h, hp => by
    rw [List.range_succ, List.filter_append, List.filter_append, List.length_append, List.length_append]
    by_cases z : w = n
    · subst z
      have e : (List.range w).filter (fun v => P v && decide (v ≠ w)) = (List.range w).filter P := by
        apply List.filter_congr
        intro x hx
        rw [List.mem_range] at hx
        have : x ≠ w := by omega
        simp [this]
      rw [e]
      simp [hp]
    · have ih := filter_less P w n (by omega) hp
      have z2 : n ≠ w := fun e => z e.symm
      by_cases y : P n = true
      · simp [y, z2]
        simp at ih
        omega
      · simp [y]
        simp at ih
        omega
/-- all labels are numbers of cuts -/
def InR (m : Int) (Ls : List Int) : Prop := ∀ v ∈ Ls, 0 ≤ v ∧ v ≤ m
theorem relab_cases (p q v : Int) : relab p q v = v ∧ ¬ (v = p ∨ v = q) ∨ (v = p ∨ v = q) ∧ relab p q v = (if q < p then q else p) := by
  unfold relab
  by_cases z : v = p ∨ v = q
  · right; rw [if_pos z]; exact ⟨z, rfl⟩
  · left; rw [if_neg z]; exact ⟨rfl, z⟩
theorem mem_relab {p q : Int} {Ls : List Int} (hp : p ∈ Ls) (hq : q ∈ Ls) (ne : p ≠ q) (v : Int) : v ∈ Ls.map (relab p q) ↔ v ∈ Ls ∧ v ≠ (if q < p then p else q) := by
  rw [List.mem_map]
  constructor
  · rintro ⟨u, hu, rfl⟩
    rcases relab_cases p q u with ⟨e, n⟩ | ⟨c, e⟩
    · rw [e]
      refine ⟨hu, fun z => n ?_⟩
      split at z
      · exact .inl z
      · exact .inr z
    · rw [e]
      split
      · exact ⟨hq, Ne.symm ne⟩
      · exact ⟨hp, ne⟩
  · rintro ⟨hv, n⟩
    refine ⟨v, hv, ?_⟩
    unfold relab
    by_cases z : q < p
    · rw [if_pos z] at n
      by_cases y : v = q
      · rw [if_pos (.inr y), if_pos z, y]
      · rw [if_neg (fun w => w.elim n y)]
    · rw [if_neg z] at n
      by_cases y : v = p
      · rw [if_pos (.inl y), if_neg z, y]
      · rw [if_neg (fun w => w.elim y n)]
theorem vals_step {m p q : Int} {Ls : List Int} (R : InR m Ls) (hp : p ∈ Ls) (hq : q ∈ Ls) (ne : p ≠ q) : vals m (Ls.map (relab p q)) + 1 = vals m Ls := by
  have hw := R (if q < p then p else q) (by split; exact hp; exact hq)
  have key := filter_less (fun v : Nat => decide ((v : Int) ∈ Ls)) (if q < p then p else q).toNat (m + 1).toNat (by omega) (by
    rw [decide_eq_true_eq, Int.toNat_of_nonneg hw.1]
    split
    · exact hp
    · exact hq)
  unfold vals
  rw [← key]
  congr 2
  apply List.filter_congr
  intro v _
  have e := mem_relab hp hq ne (v : Int)
  by_cases z : (v : Int) ∈ Ls
  · by_cases y : (v : Int) = (if q < p then p else q)
    · have y2 : v = (if q < p then p else q).toNat := by omega
      have n : ¬ (v : Int) ∈ Ls.map (relab p q) := fun w => (e.mp w).2 y
      simp [n, ← y2]
    · have y2 : v ≠ (if q < p then p else q).toNat := by omega
      have n : (v : Int) ∈ Ls.map (relab p q) := e.mpr ⟨z, y⟩
      simp only [n, z, decide_true, Bool.true_and, Bool.and_true]
      exact (decide_eq_true y2).symm
  · have n : ¬ (v : Int) ∈ Ls.map (relab p q) := fun w => z (e.mp w).1
    simp only [n, z, decide_false, Bool.false_and]
theorem inR_step {m p q : Int} {Ls : List Int} (R : InR m Ls) (hp : p ∈ Ls) (hq : q ∈ Ls) : InR m (Ls.map (relab p q)) := by
  intro v hv
  obtain ⟨u, hu, rfl⟩ := List.mem_map.mp hv
  rcases relab_cases p q u with ⟨e, _⟩ | ⟨_, e⟩
  · rw [e]; exact R u hu
  · rw [e]
    split
    · exact R q hq
    · exact R p hp
theorem inR_0 (m : Int) : InR m (lab0 m) := by
  intro v hv
  obtain ⟨i, hi, rfl⟩ := List.mem_map.mp hv
  rw [List.mem_range] at hi
  omega
theorem vals_0 {m : Int} : vals m (lab0 m) = (m + 1).toNat := by
  unfold vals
  have e : (List.range (m + 1).toNat).filter (fun v : Nat => decide ((v : Int) ∈ lab0 m)) = List.range (m + 1).toNat := by
    rw [List.filter_eq_self]
    intro v hv
    exact decide_eq_true (List.mem_map.mpr ⟨v, hv, rfl⟩)
  rw [e, List.length_range]
/-- each kept sum was new when it was told -/
structure New (m : Int) (ks : List Ed) : Prop where
  inR : InR m (labOf m ks)
  cnt : vals m (labOf m ks) + ks.length = (m + 1).toNat
theorem New.nil (m : Int) : New m [] := ⟨inR_0 m, vals_0⟩
theorem New.snoc {m : Int} {ks : List Ed} {e : Ed} (N : New m ks) (hm : 0 ≤ m) (ok : ∀ e ∈ ks, EdOk m e) (oe : EdOk m e) (S : Sep ks e.1 (e.2.1 + 1)) : New m (ks ++ [e]) := by
  have L := lab_of hm ks ok
  have len := L.len
  have e0 := oe.lo
  have e1 := oe.le
  have e2 := oe.hi
  have ne := L.of_sep S e0 (by omega) (by omega) (by omega)
  have hp : (labOf m ks)[e.1.toNat]? = some (labOf m ks)[e.1.toNat] := List.getElem?_eq_getElem (by omega)
  have hq : (labOf m ks)[(e.2.1 + 1).toNat]? = some (labOf m ks)[(e.2.1 + 1).toNat] := List.getElem?_eq_getElem (by omega)
  have mp := List.getElem_mem (l := labOf m ks) (n := e.1.toNat) (by omega)
  have mq := List.getElem_mem (l := labOf m ks) (n := (e.2.1 + 1).toNat) (by omega)
  have pq : (labOf m ks)[e.1.toNat] ≠ (labOf m ks)[(e.2.1 + 1).toNat] := fun z => ne (by rw [hp, hq, z])
  have cnt := N.cnt
  refine ⟨?_, ?_⟩
  · rw [labOf_snoc]
    unfold labStep
    rw [hp, hq]
    exact inR_step N.inR mp mq
  · rw [labOf_snoc, List.length_append, List.length_singleton]
    unfold labStep
    rw [hp, hq]
    have v := vals_step N.inR mp mq pq
    simp only [Option.getD_some]
    omega
/-- tied to the next one -/
def Nx (m : Int) (ks : List Ed) (x : Nat) : Prop := (labOf m ks)[x]? = (labOf m ks)[x + 1]?
theorem Nx.more {m : Int} {ks : List Ed} {x : Nat} (n : Nx m ks x) (e : Ed) : Nx m (ks ++ [e]) x := by
  unfold Nx at *
  rw [labOf_snoc]
  unfold labStep
  rw [List.getElem?_map, List.getElem?_map, n]
theorem all_same {m : Int} {ks : List Ed} (n : ∀ x : Nat, (x : Int) < m → Nx m ks x) : ∀ x : Nat, (x : Int) ≤ m → (labOf m ks)[x]? = (labOf m ks)[0]?
  | 0, _ => rfl
  | x + 1, h => by
    have q := n x (by omega)
    unfold Nx at q
    rw [← q]
    exact all_same n x (by omega)
theorem vals_one {m : Int} {ks : List Ed} (m0 : 1 ≤ m) (ok : ∀ e ∈ ks, EdOk m e) (N : New m ks) (n : ∀ x : Nat, (x : Int) < m → Nx m ks x) : (ks.length : Int) = m := by
  have L := lab_of (by omega) ks ok
  have len := L.len
  have cnt := N.cnt
  obtain ⟨v0, hv⟩ : ∃ u, (labOf m ks)[0]? = some u := ⟨(labOf m ks)[0]'(by omega), List.getElem?_eq_getElem _⟩
  have mem0 : v0 ∈ labOf m ks := List.mem_of_getElem? hv
  have r0 := N.inR v0 mem0
  have only : ∀ v ∈ labOf m ks, v = v0 := by
    intro v h
    obtain ⟨i, hi⟩ := List.getElem?_of_mem h
    have il := (List.getElem?_eq_some_iff.mp hi).1
    have q := all_same n i (by omega)
    rw [hi, hv] at q
    exact Option.some.inj q
  have e : vals m (labOf m ks) = 1 := by
    have key := filter_less (fun v : Nat => decide ((v : Int) ∈ labOf m ks)) v0.toNat (m + 1).toNat (by omega) (by
      rw [decide_eq_true_eq, Int.toNat_of_nonneg r0.1]; exact mem0)
    unfold vals
    rw [← key]
    have z : ((List.range (m + 1).toNat).filter fun v : Nat => decide ((v : Int) ∈ labOf m ks) && decide (v ≠ v0.toNat)) = [] := by
      rw [List.filter_eq_nil_iff]
      intro v _
      simp
      intro h
      have := only _ h
      omega
    rw [z]
    rfl
  omega
theorem sum_down : ∀ n : Nat, 2 * ((List.range n).map fun x : Nat => ((n - x : Nat) : Int)).sum = (n : Int) * (n + 1)
  | 0 => rfl
  | n + 1 => by
    have ih := sum_down n
    have e : ((List.range (n + 1)).map fun x : Nat => ((n + 1 - x : Nat) : Int)).sum = ((n : Int) + 1) + ((List.range n).map fun x : Nat => ((n - x : Nat) : Int)).sum := by
      rw [List.range_succ_eq_map, List.map_cons, List.sum_cons, List.map_map]
      congr 1
      congr 1
      apply List.map_congr_left
      intro x _
      show ((n + 1 - (x + 1) : Nat) : Int) = _
      congr 1
      omega
    have e2 : ((n + 1 : Nat) : Int) = (n : Int) + 1 := by omega
    rw [e, e2]
    simp only [Int.mul_add, Int.add_mul, Int.mul_one, Int.one_mul] at ih ⊢
    omega
theorem known_all {m : Int} {ks : List Ed} (m0 : 1 ≤ m) (n : ∀ x : Nat, (x : Int) < m → Nx m ks x) : 2 * knownN m (labOf m ks) = m * (m + 1) := by
  have q := sum_down m.toNat
  have em : ((m.toNat : Nat) : Int) = m := by omega
  rw [em] at q
  rw [← q]
  congr 1
  unfold knownN
  congr 1
  apply List.map_congr_left
  intro x hx
  rw [List.mem_range] at hx
  congr 1
  unfold cntL
  have e : ((List.range (m + 1).toNat).filter fun y : Nat => decide ((labOf m ks)[((x : Int)).toNat]? = (labOf m ks)[y]?) && decide ((x : Int) < (y : Int))) = (List.range (m + 1).toNat).filter fun y => decide (x < y) := by
    apply List.filter_congr
    intro y hy
    rw [List.mem_range] at hy
    have a := all_same n x (by omega)
    have b := all_same n y (by omega)
    simp [a, b]
  rw [e]
  have e2 : List.range (m + 1).toNat = List.range (x + 1) ++ (List.range (m.toNat - x)).map (x + 1 + ·) := by
    rw [← List.range_add]
    congr 1
    omega
  rw [e2, List.filter_append, List.length_append]
  have z1 : (List.range (x + 1)).filter (fun y => decide (x < y)) = [] := by
    rw [List.filter_eq_nil_iff]
    intro y hy
    rw [List.mem_range] at hy
    simp
    omega
  have z2 : ((List.range (m.toNat - x)).map (x + 1 + ·)).filter (fun y => decide (x < y)) = (List.range (m.toNat - x)).map (x + 1 + ·) := by
    rw [List.filter_eq_self]
    intro y hy
    obtain ⟨u, _, rfl⟩ := List.mem_map.mp hy
    exact decide_eq_true (by omega)
  rw [z1, z2]
  simp
/-! ### sums of the row's -/
def pre (row : List Int) (x : Int) : Int := (row.take x.toNat).sum
def RowSums (row : List Int) (ks : List Ed) : Prop := ∀ e ∈ ks, e.2.2 = pre row (e.2.1 + 1) - pre row e.1
theorem tot_row {row : List Int} {ks : List Ed} {a b : Int} {p : List (Int × Int)} (R : RowSums row ks) (P : Path ks a b p) : totBy ks p = pre row b - pre row a := by
  rw [← P.tele (pre row)]
  unfold totBy
  congr 1
  apply List.map_congr_left
  intro q hq
  obtain ⟨n0, n1, _⟩ := P.ok q hq
  obtain ⟨e, he⟩ : ∃ e, ks[q.1.toNat]? = some e := ⟨ks[q.1.toNat]'(by omega), List.getElem?_eq_getElem _⟩
  unfold dif
  rw [he]
  show q.2 * e.2.2 = _
  rw [R e (List.mem_of_getElem? he)]
theorem cut_sum (row : List Int) {a b : Int} (a0 : 0 ≤ a) (ab : a ≤ b) (bl : b < row.length) : (PV.cutD row (some a) (some (b + 1))).sum = pre row (b + 1) - pre row a := by
  obtain ⟨i, rfl⟩ : ∃ i : Nat, a = i := ⟨a.toNat, by omega⟩
  obtain ⟨j, hj⟩ : ∃ j : Nat, b + 1 = j := ⟨(b + 1).toNat, by omega⟩
  rw [hj]
  unfold PV.cutD pre
  rw [HT.sIx_nat, HT.sIx_nat, Int.toNat_natCast, Int.toNat_natCast, Nat.min_eq_left (by omega), Nat.min_eq_left (by omega)]
  have e : row.take j = row.take i ++ (row.drop i).take (j - i) := by
    rw [← List.take_add]
    congr 1
    omega
  rw [e, List.sum_append]
  omega
end Bk
namespace K83
open PySem PV Bk K78 K79 K81
open L2 (atI ixN)
section
variable {Γ : Gm}
def z0 (e : Ed) : Ed := (e.1, e.2.1, 0)
structure Gw (Γ : Gm) (n : Nat) (m : Int) (cs : List D) (lk ks : List Ed) (h : Hx) : Prop where
  wf : Wf h
  pot : Pot h n
  bk : BookAt Γ h (n + 1) (n + 2) m ks
  cnt : h[n + 3]? = some (.lst cs)
  law : h[n + 4]? = some (.lst ((lk.map z0).map lawD))
  m24 : m ≤ 24
section
variable {n : Nat} {m : Int} {cs : List D} {lk ks : List Ed} {h : Hx}
theorem Gw.drawn {h' : Hx} (G : Gw Γ n m cs lk ks h) (d : Drawn n h h') : Gw Γ n m cs lk ks h' :=
  ⟨G.wf.drawn d, G.pot.drawn d, G.bk.drawn d (by omega) (by omega), by rw [d.ne (by omega)]; exact G.cnt, by rw [d.ne (by omega)]; exact G.law, G.m24⟩
theorem Gw.more {o : MO} (G : Gw Γ n m cs lk ks h) (ho : o.und (h.length + 1) = true) : Gw Γ n m cs lk ks (h ++ [o]) :=
  ⟨G.wf.push ho, by obtain ⟨k, e⟩ := G.pot; exact ⟨k, geL e⟩, G.bk.more, geL G.cnt, geL G.law, G.m24⟩
theorem Gw.book (G : Gw Γ n m cs lk ks h) (ks' : List Ed) (ok : ∀ e ∈ ks', EdOk m e) (few : ks'.length ≤ 10000) : Gw Γ n m cs lk ks' (h.set (n + 2) (.lst (ks'.map bookD))) := by
  have l : n + 2 < h.length := (List.getElem?_eq_some_iff.mp G.bk.kept).1
  refine ⟨G.wf.set _ (book_und _), ?_, ⟨?_, ?_, ok, G.bk.m0, G.bk.m1, few⟩, ?_, ?_, G.m24⟩
  · obtain ⟨k, e⟩ := G.pot
    exact ⟨k, by rw [List.getElem?_set_ne (by omega)]; exact e⟩
  · rw [List.getElem?_set_ne (by omega)]; exact G.bk.ins
  · rw [List.getElem?_set_self l]
  · rw [List.getElem?_set_ne (by omega)]; exact G.cnt
  · rw [List.getElem?_set_ne (by omega)]; exact G.law
theorem Gw.count (G : Gw Γ n m cs lk ks h) (cs' : List D) (u : D.unds h.length cs' = true) : Gw Γ n m cs' lk ks (h.set (n + 3) (.lst cs')) := by
  have l : n + 3 < h.length := (List.getElem?_eq_some_iff.mp G.cnt).1
  refine ⟨G.wf.set _ u, ?_, ⟨?_, ?_, G.bk.ok, G.bk.m0, G.bk.m1, G.bk.few⟩, ?_, ?_, G.m24⟩
  · obtain ⟨k, e⟩ := G.pot
    exact ⟨k, by rw [List.getElem?_set_ne (by omega)]; exact e⟩
  · rw [List.getElem?_set_ne (by omega)]; exact G.bk.ins
  · rw [List.getElem?_set_ne (by omega)]; exact G.bk.kept
  · rw [List.getElem?_set_self l]
  · rw [List.getElem?_set_ne (by omega)]; exact G.law
theorem Gw.told (G : Gw Γ n m cs lk ks h) (lk' : List Ed) : Gw Γ n m cs lk' ks (h.set (n + 4) (.lst ((lk'.map z0).map lawD))) := by
  have l : n + 4 < h.length := (List.getElem?_eq_some_iff.mp G.law).1
  refine ⟨G.wf.set _ (law_und _), ?_, ⟨?_, ?_, G.bk.ok, G.bk.m0, G.bk.m1, G.bk.few⟩, ?_, ?_, G.m24⟩
  · obtain ⟨k, e⟩ := G.pot
    exact ⟨k, by rw [List.getElem?_set_ne (by omega)]; exact e⟩
  · rw [List.getElem?_set_ne (by omega)]; exact G.bk.ins
  · rw [List.getElem?_set_ne (by omega)]; exact G.bk.kept
  · rw [List.getElem?_set_ne (by omega)]; exact G.cnt
  · rw [List.getElem?_set_self l]
theorem Gw.known (G : Gw Γ n m cs lk ks h) : f_SumBook_known_many Γ [.ref (n + 1)] h = .ok (.int (knownN m (labOf m ks))) h := known_eq G.bk G.wf (lab_of (by have := G.bk.m0; omega) ks G.bk.ok)
theorem z0_dif (φ : Int → Int) (q : Int) : dif φ (ks.map z0) q = dif φ ks q := by
  unfold dif
  rw [List.getElem?_map]
  cases ks[q.toNat]? <;> rfl
theorem Sig.z0 {a b : Int} {p : List (Int × Int)} (S : Sig ks a b p) : Sig (ks.map z0) a b p :=
  ⟨⟨S.path.nd, fun q hq => by rw [List.length_map]; exact S.path.ok q hq, fun φ => by rw [← S.path.tele φ]; congr 1; apply List.map_congr_left; intro q _; rw [z0_dif]⟩, S.up⟩
/-- no two cuts are apart any more -/
theorem joined {a b : Int} (G : Gw Γ n m cs lk ks h) (nx : ∀ x : Nat, (x : Int) < m → Nx m ks x) (a0 : 0 ≤ a) (a1 : a ≤ m) (b0 : 0 ≤ b) (b1 : b ≤ m) : ¬ Sep ks a b := by
  intro S
  have L := lab_of (by have := G.bk.m0; omega) ks G.bk.ok
  refine L.of_sep S a0 a1 b0 b1 ?_
  rw [all_same nx a.toNat (by omega), all_same nx b.toNat (by omega)]
theorem ne_due {s t u v : Int} : opNe (.tup [.str "sum", .int s]) (.tup [.str "sum", .int t]) h = .ok (.bl (!(s == t))) h := by
  have e : PyData.canLay0 (.str "sum") = true := by decide +kernel
  unfold opNe toPh
  simp only [k_tup, toP, toPs, Option.map_some, Option.bind_some]
  rw [if_pos ⟨by unfold SeqAt.shaped; simp [PyData.canLay0, PyData.canLayAll0] at e ⊢; simp [PyData.depth, PyData.depthAll, e], by unfold SeqAt.shaped; simp [PyData.canLay0, PyData.canLayAll0] at e ⊢; simp [PyData.depth, PyData.depthAll, e]⟩]
  simp [PyData.eqv, PyData.eqvAll]
def Row (m : Int) (row : List Int) : Prop := (row.length : Int) = m ∧ ∀ x ∈ row, -(10 ^ 59) ≤ x ∧ x ≤ 10 ^ 59
theorem due_bd {row : List Int} {a b : Int} (R : RowOk m row) (m24 : m ≤ 24) : -(10 ^ 61) ≤ (PV.cutD row (some a) (some b)).sum ∧ (PV.cutD row (some a) (some b)).sum ≤ 10 ^ 61 := by
  have q := sum_bd (10 ^ 59) (by decide +kernel) (PV.cutD row (some a) (some b)) fun x hx => R.bd x (by unfold PV.cutD at hx; exact List.mem_of_mem_drop (List.mem_of_mem_take hx))
  have hl : (PV.cutD row (some a) (some b)).length ≤ row.length := by
    unfold PV.cutD
    rw [List.length_take, List.length_drop]
    omega
  have := R.len
  have : ((PV.cutD row (some a) (some b)).length : Int) ≤ 24 := by omega
  omega
theorem cut2 (x y z : D) : PV.cutD [x, y, z] none (some 2) = [x, y] := rfl
def AKInv (Γ : Gm) (n : Nat) (m : Int) (cs : List D) (lk ks : List Ed) (x3 : Option D) (i : Nat) (c : En) (h : Hx) : Prop := ∃ x5 x6 x7 x8, c = [some (.ref n), some (.ref (n + 1)), some (.ref (n + 4)), x3, some (.int m), x5, x6, x7, x8] ∧ Gw Γ n m cs lk ks h
theorem allknown_tr {row : List Int} (G : Gw Γ n m cs ks ks h) (R : RowOk m row) (RS : RowSums row ks) (nx : ∀ x : Nat, (x : Int) < m → Nx m ks x) (kl : (ks.length : Int) = m) : (f_l_all_known Γ [.ref n, .ref (n + 1), .ref (n + 4), .lst (row.map D.int)] h).tr (fun d h' => d = .bl true ∧ Gw Γ n m cs ks ks h') E0x := by
  refine tr_fn rfl ?_
  unfold b_l_all_known
  have m0 := G.bk.m0
  have m24 := G.m24
  have rl := R.len
  simp [gLen, rl]
  refine tr_forR (lo := 0) (h1 := h) 12 (AKInv Γ n m cs ks ks (some (.lst (row.map D.int)))) (by simp [fRg1, smallR]) ⟨_, _, _, _, rfl, G⟩ ?_ ?_
  · rintro i hi c h1 ⟨x5, x6, x7, x8, rfl, G1⟩
    simp
    refine tr_use (stretch_tr G1.pot m0 (by omega)) ?_
    rintro _ h2 ⟨a, b, rfl, a0, ab, bm, dr⟩
    have G2 := G1.drawn dr
    have due := cut_sum row a0 ab (by omega)
    have dbd := due_bd (a := a) (b := b + 1) R m24
    simp [gSum, intsL, cut_map, G2.bk.ins]
    refine tr_use (ask_tr G2.bk G2.wf a0 ab bm) ?_
    rintro d h3 (⟨rfl, rfl, S⟩ | ⟨p, rfl, rfl, S, pl⟩)
    · exact (joined G2 nx a0 (by omega) (by omega) (by omega) S).elim
    · have tot := tot_row RS S.path
      have G3 := G2.more (o := .lst (p.map PV.pairD)) (pairs_und p)
      have nd := ne_due (h := h2 ++ [.lst (p.map PV.pairD)]) (s := totBy ks p) (t := (PV.cutD row (some a) (some (b + 1))).sum) (u := 0) (v := 0)
      rw [due, tot] at nd
      rw [due]
      simp [cut2, nd, tot, G3.bk.ins]
      refine tr_use (tell_tr G3.bk (by omega) G3.wf a0 ab bm) ?_
      rintro d h4 (⟨rfl, rfl, S2⟩ | ⟨p2, rfl, rfl, S2, pl2⟩)
      · exact (joined G3 nx a0 (by omega) (by omega) (by omega) S2).elim
      · have tot2 := tot_row RS S2.path
        have G4 := G3.more (o := .lst (p2.map PV.pairD)) (pairs_und p2)
        have z : ¬ totBy ks p2 = pre row (b + 1) - pre row a + 1 := by omega
        have kc : PyData.canLay0 (.str "clash") = true := by decide +kernel
        simp [z, ne_ss _ _ kc kc]
        exact ⟨_, _, _, _, rfl, by simpa using G4⟩
  · rintro c h1 ⟨x5, x6, x7, x8, rfl, G1⟩
    simp [G1.bk.ins]
    refine tr_use (ask_tr G1.bk G1.wf (by omega) (by omega) (by omega)) ?_
    rintro d h3 (⟨rfl, rfl, S⟩ | ⟨p, rfl, rfl, S, pl⟩)
    · exact (joined G1 nx (by omega) (by omega) (by omega) (by omega) S).elim
    · have G3 := G1.more (o := .lst (p.map PV.pairD)) (pairs_und p)
      have okz : ∀ e ∈ ks.map z0, EdOk m e := by
        intro e he
        obtain ⟨x, hx, rfl⟩ := List.mem_map.mp he
        have q := G3.bk.ok x hx
        exact ⟨q.lo, q.le, q.hi, show sm 0 = true by decide +kernel⟩
      have ar := are_eq (Γ := Γ) G3.wf G3.law ge0 okz m0 (by omega) (by omega) (by rw [List.length_map]; exact G3.bk.few) (Sig.z0 S) (by omega)
      have kn := known_all (ks := ks) m0 nx
      have sm1 : sm m = true := sm_b (by omega) (by omega)
      have sm2 : sm (m + 1) = true := sm_b (by omega) (by omega)
      have sm3 : sm 2 = true := by decide +kernel
      have kd : m * (m + 1) / 2 = knownN m (labOf m ks) := by omega
      have z : m - (ks.length : Int) = 0 := by omega
      simp [ar, G3.bk.ins, can_eq G3.bk, G3.known, sm1, sm2, sm3, kd, z, G3]
end
end
end K83
namespace K83
open PySem PV Bk K78 K79 K81
open L2 (atI ixN)
section
variable {Γ : Gm}
def cntD (m : Int) (ks : List Ed) (j : Nat) : D := if (j : Int).fmod 3 = 0 then .int (knownN m (labOf m (ks.take j))) else .non
def csOf (m : Int) (ks : List Ed) : List D := (List.range ks.length).map (cntD m ks)
theorem csOf_snoc (m : Int) (ks : List Ed) (e : Ed) : csOf m (ks ++ [e]) = csOf m ks ++ [if (ks.length : Int).fmod 3 = 0 then .int (knownN m (labOf m ks)) else .non] := by
  unfold csOf
  rw [List.length_append, List.length_singleton, List.range_succ, List.map_append]
  congr 1
  · apply List.map_congr_left
    intro j hj
    rw [List.mem_range] at hj
    unfold cntD
    rw [List.take_append_of_le_length (by omega)]
  · unfold cntD
    rw [List.map_cons, List.map_nil, List.take_append_of_le_length (Nat.le_refl _), List.take_length]
theorem cs_und {n : Nat} (m : Int) (ks : List Ed) : D.unds n (csOf m ks) = true := by
  rw [unds_all]
  intro d hd
  obtain ⟨j, _, rfl⟩ := List.mem_map.mp hd
  unfold cntD
  split <;> rfl
theorem app_eq {h : Hx} {q : Nat} {xs : List D} {d : D} (e : h[q]? = some (.lst xs)) (hl : xs.length < 1000000) : mApp (.ref q) [d] h = .ok .non (h.set q (.lst (xs ++ [d]))) := by
  simp [mApp, m_ref e, hl]
theorem ne_s {h : Hx} (a b : Str) (ha : PyData.canLay0 (.str a) = true) (hb : PyData.canLay0 (.str b) = true) : opNe (.str a) (.str b) h = .ok (.bl (!(a == b))) h := ne_ss a b ha hb
theorem str_eq {h : Hx} (a b : Str) (r : Bool) (ha : PyData.canLay0 (.str a) = true) (hb : PyData.canLay0 (.str b) = true) (e : (a == b) = r) : opEq (.str a) (.str b) h = .ok (.bl r) h := by rw [eq_ss a b ha hb, e]
theorem str_ne {h : Hx} (a b : Str) (r : Bool) (ha : PyData.canLay0 (.str a) = true) (hb : PyData.canLay0 (.str b) = true) (e : (a == b) = r) : opNe (.str a) (.str b) h = .ok (.bl !r) h := by rw [ne_ss a b ha hb, e]
theorem e_fs {h : Hx} : opEq (.str "free") (.str "sum") h = .ok (.bl false) h := str_eq _ _ _ (by decide +kernel) (by decide +kernel) (by decide +kernel)
theorem e_ff {h : Hx} : opEq (.str "free") (.str "free") h = .ok (.bl true) h := str_eq _ _ _ (by decide +kernel) (by decide +kernel) (by decide +kernel)
theorem e_sf {h : Hx} : opEq (.str "sum") (.str "free") h = .ok (.bl false) h := str_eq _ _ _ (by decide +kernel) (by decide +kernel) (by decide +kernel)
theorem e_su {h : Hx} : opEq (.str "sum") (.str "sum") h = .ok (.bl true) h := str_eq _ _ _ (by decide +kernel) (by decide +kernel) (by decide +kernel)
theorem n_nn {h : Hx} : opNe (.str "new") (.str "new") h = .ok (.bl false) h := str_ne _ _ true (by decide +kernel) (by decide +kernel) (by decide +kernel)
theorem n_kk {h : Hx} : opNe (.str "known") (.str "known") h = .ok (.bl false) h := str_ne _ _ true (by decide +kernel) (by decide +kernel) (by decide +kernel)
def QInv (Γ : Gm) (n : Nat) (m : Int) (row : List Int) (qs : List (Int × Int)) (x0 x1 x6 : Option D) (i : Nat) (c : En) (h : Hx) : Prop := ∃ ks x9 x10 x11 x12 x13 x14, c = [x0, x1, some (.ref n), some (.lst (row.map D.int)), some (.int m), some (.ref (n + 1)), x6, some (.ref (n + 3)), some (.ref (n + 4)), x9, x10, x11, x12, x13, x14] ∧
  Gw Γ n m (csOf m ks) ks ks h ∧ RowSums row ks ∧ New m ks ∧ ks.length ≤ i ∧ ∀ t, t < i → ∀ x : Nat, qs[t]? = some ((x : Int), (x : Int)) → Nx m ks x
theorem path_nx {m : Int} {ks : List Ed} {x : Nat} {p : List (Int × Int)} (hm : 0 ≤ m) (ok : ∀ e ∈ ks, EdOk m e) (P : Path ks x (x + 1) p) : Nx m ks x := by
  have q := (lab_of hm ks ok).of_path P
  unfold Nx
  have e1 : ((x : Int)).toNat = x := by omega
  have e2 : ((x : Int) + 1).toNat = x + 1 := by omega
  rwa [e1, e2] at q
theorem edge_nx {m : Int} {ks : List Ed} {x : Nat} {t : Int} (hm : 0 ≤ m) (ok : ∀ e ∈ ks, EdOk m e) (he : ((x : Int), (x : Int), t) ∈ ks) : Nx m ks x := by
  have q := (lab_of hm ks ok).tie _ he
  unfold Nx
  have e1 : ((x : Int)).toNat = x := by omega
  have e2 : ((x : Int) + 1).toNat = x + 1 := by omega
  have q : (labOf m ks)[((x : Int)).toNat]? = (labOf m ks)[((x : Int) + 1).toNat]? := q
  rwa [e1, e2] at q
def DInv (n : Nat) (m : Int) (h0 : Hx) (i : Nat) (acc : List D) (h : Hx) : Prop := ∃ ps : List (Int × Int), acc = ps.map strD ∧ ps.length = i ∧ (∀ p ∈ ps, StrOk m p) ∧ Drawn n h0 h
def RInv (Γ : Gm) (n : Nat) (m : Int) (row : List Int) (ks : List Ed) (x0 x1 x6 : Option D) (i : Nat) (c : En) (h : Hx) : Prop := ∃ x9 x10 x11 x12 x13 x14, c = [x0, x1, some (.ref n), some (.lst (row.map D.int)), some (.int m), some (.ref (n + 1)), x6, some (.ref (n + 3)), some (.ref (n + 4)), x9, x10, x11, x12, x13, x14] ∧
  Gw Γ n m (csOf m ks) ks (ks.take (ks.length - i)) h
def OInv (x0 : D) (i : Nat) (c : En) (h : Hx) : Prop := ∃ x1 x2 x3 x4 x5 x6 x7 x8 x9 x10 x11 x12 x13 x14, c = [some x0, x1, x2, x3, x4, x5, x6, x7, x8, x9, x10, x11, x12, x13, x14] ∧ Wf h
theorem made_4 {c : En} {h : Hx} {m : Int} (hc : c[4]? = some (some (.int m))) : rMake Γ.SumBook nmBook (K78.f_SumBook___init__ Γ) (aCons (rV 4) aNil) c h = .ok (.ref h.length) (h ++ [.ins Γ.SumBook nmBook [.int m, .ref (h.length + 1)], .lst []]) := by
  rw [← made_eq]
  unfold rMake
  simp [hc]
theorem start_gw {h : Hx} {n : Nat} {m : Int} (M : Mid Γ n m [] h) (ln : h.length = n + 4) : Gw Γ n m [] [] [] (h ++ [.lst []]) := by
  have M2 := M.more (o := .lst []) rfl
  exact ⟨M2.wf, M2.pot, M2.bk, M2.law, by rw [← ln]; exact ge0, M2.m24⟩
theorem drawn_push {h h' t : Hx} {n : Nat} (d : Drawn n h h') (hn : n < h.length) : Drawn n (h ++ t) (h' ++ t) := by
  obtain ⟨k, rfl⟩ := d
  exact ⟨k, by rw [List.set_append_left _ _ hn]⟩
noncomputable def mainB (Γ : Gm) : En → Hx → SR := (sSeq (sAsg (rMeth Γ.SumBook nmBook "ask_sum" (K79.f_SumBook_ask_sum Γ) (rV 5) (aCons (rV 9) (aCons (rV 10) aNil))) (.nm 11))
    (sSeq (sIf (tAndD (rB (r2 opEq (r2 opIx (rV 11) (rC (.int 0))) (rC (.str "sum")))) (rB (r2 opNe (r2 opIx (rV 11) (rC (.int 1))) (rCall gSum (aCons (rSl (rV 3) (rPart (rV 9)) (rPart (r2 opAdd (rV 10) (rC (.int 1))))) aNil))))) (sRet (rC (.bl false))) sNil)
    (sSeq (sIf (rB (r2 opEq (r2 opIx (rV 11) (rC (.int 0))) (rC (.str "free")))) (sSeq (sAsg (rC .non) (.nm 12))
    (sSeq (sIf (rB (r2 opEq (r2 opMod (rCall gLen (aCons (rV 7) aNil)) (rC (.int 3))) (rC (.int 0)))) (sAsg (rMeth Γ.SumBook nmBook "known_many" (K79.f_SumBook_known_many Γ) (rV 5) aNil) (.nm 12)) sNil)
    (sSeq (sDo (rBM mApp (rV 7) (aCons (rV 12) aNil)))
    (sDo (rBM mApp (rV 8) (aCons (rTup (aCons (rV 9) (aCons (rV 10) (aCons (rC (.int 0)) aNil)))) aNil)))))) sNil)
    (sIf (rB (r2 opNe (r2 opIx (rMeth Γ.SumBook nmBook "tell_sum" (K78.f_SumBook_tell_sum Γ) (rV 5) (aCons (rV 9) (aCons (rV 10) (aCons (rCall gSum (aCons (rSl (rV 3) (rPart (rV 9)) (rPart (r2 opAdd (rV 10) (rC (.int 1))))) aNil)) aNil)))) (rC (.int 0))) (r2 opIx (rTup (aCons (rC (.str "known")) (aCons (rC (.str "new")) aNil))) (rCall gInt (aCons (r2 opEq (r2 opIx (rV 11) (rC (.int 0))) (rC (.str "free"))) aNil))))) (sRet (rC (.bl false))) sNil))))
noncomputable def backB (Γ : Gm) : En → Hx → SR := (sSeq (sDo (rMeth Γ.SumBook nmBook "take_back" (K81.f_SumBook_take_back Γ) (rV 5) aNil))
    (sIf (tAndD (rB (r2 opNotN (rV 12) (rC .non))) (rB (r2 opNe (rMeth Γ.SumBook nmBook "known_many" (K79.f_SumBook_known_many Γ) (rV 5) aNil) (rV 12)))) (sRet (rC (.bl false))) sNil))
theorem main_tr {n i : Nat} {m a b : Int} {row : List Int} {ks : List Ed} {h : Hx} {x0 x1 x6 x11 x12 x13 x14 : Option D} {P : Po}
    (hP : ∀ (ks' : List Ed) (c : En) (h' : Hx), (∃ y11 y12, c = [x0, x1, some (.ref n), some (.lst (row.map D.int)), some (.int m), some (.ref (n + 1)), x6, some (.ref (n + 3)), some (.ref (n + 4)), some (.int a), some (.int b), y11, y12, x13, x14]) → Gw Γ n m (csOf m ks') ks' ks' h' → RowSums row ks' → New m ks' → (ks' = ks ∨ ∃ e, ks' = ks ++ [e]) → (∀ x : Nat, a = x → b = x → Nx m ks' x) → P.nx c h')
    (G : Gw Γ n m (csOf m ks) ks ks h) (R : RowOk m row) (RS : RowSums row ks) (N : New m ks) (few : ks.length ≤ 100) (a0 : 0 ≤ a) (ab : a ≤ b) (bm : b < m) :
    (mainB Γ [x0, x1, some (.ref n), some (.lst (row.map D.int)), some (.int m), some (.ref (n + 1)), x6, some (.ref (n + 3)), some (.ref (n + 4)), some (.int a), some (.int b), x11, x12, x13, x14] h).tr P := by
  have m0 := G.bk.m0
  have m24 := G.m24
  have rl := R.len
  have due := cut_sum row a0 ab (by omega)
  have dbd := due_bd (a := a) (b := b + 1) R m24
  have kf : PyData.canLay0 (.str "free") = true := by decide +kernel
  have ks_ : PyData.canLay0 (.str "sum") = true := by decide +kernel
  have kn : PyData.canLay0 (.str "new") = true := by decide +kernel
  have kk : PyData.canLay0 (.str "known") = true := by decide +kernel
  unfold mainB
  simp [G.bk.ins]
  refine tr_use (ask_tr G.bk G.wf a0 ab bm) ?_
  rintro d h3 (⟨rfl, rfl, S⟩ | ⟨p, rfl, rfl, S, pl⟩)
  · have cl : (csOf m ks).length = ks.length := by simp [csOf]
    have step : ∀ (x12 : Option D) (dd : D), dd = (if (ks.length : Int).fmod 3 = 0 then D.int (knownN m (labOf m ks)) else .non) →
        Gw Γ n m (csOf m (ks ++ [(a, b, pre row (b + 1) - pre row a)])) (ks ++ [(a, b, pre row (b + 1) - pre row a)]) ks ((h3.set (n + 3) (.lst (csOf m ks ++ [dd]))).set (n + 4) (.lst ((ks.map z0).map lawD ++ [.tup [.int a, .int b, .int 0]]))) := by
      intro _ dd hd
      have G1 := G.count (csOf m (ks ++ [(a, b, pre row (b + 1) - pre row a)])) (cs_und _ _)
      have G2 := G1.told (ks ++ [(a, b, pre row (b + 1) - pre row a)])
      rw [csOf_snoc, ← hd] at G2 ⊢
      simpa [z0, lawD] using G2
    have hl4 : ∀ dd : D, (h3.set (n + 3) (.lst (csOf m ks ++ [dd])))[n + 4]? = some (.lst ((ks.map z0).map lawD)) := fun dd => by rw [List.getElem?_set_ne (by omega)]; exact G.law
    have fin : ∀ (dd : D) (y12 : Option D), dd = (if (ks.length : Int).fmod 3 = 0 then D.int (knownN m (labOf m ks)) else .non) →
        (f_SumBook_tell_sum Γ [.ref (n + 1), .int a, .int b, .int (pre row (b + 1) - pre row a)] ((h3.set (n + 3) (.lst (csOf m ks ++ [dd]))).set (n + 4) (.lst ((ks.map z0).map lawD ++ [.tup [.int a, .int b, .int 0]])))).tr (fun d h' => ∃ k, d = .tup [.str "new", k] ∧ P.nx [x0, x1, some (.ref n), some (.lst (row.map D.int)), some (.int m), some (.ref (n + 1)), x6, some (.ref (n + 3)), some (.ref (n + 4)), some (.int a), some (.int b), some (.tup [.str "free", .non]), y12, x13, x14] h') E0x := by
      intro dd y12 hd
      have G3 := step none dd hd
      refine tr_use (tell_tr G3.bk (by omega) G3.wf a0 ab bm) ?_
      rintro d h4 (⟨rfl, rfl, S2⟩ | ⟨p2, rfl, rfl, S2, pl2⟩)
      · have okn : EdOk m (a, b, pre row (b + 1) - pre row a) := ⟨a0, ab, bm, sm_b (by show -(10 ^ 300) ≤ pre row (b + 1) - pre row a; omega) (by show pre row (b + 1) - pre row a ≤ 10 ^ 300; omega)⟩
        have okA : ∀ e ∈ ks ++ [(a, b, pre row (b + 1) - pre row a)], EdOk m e := by
          intro e he
          rw [List.mem_append, List.mem_singleton] at he
          rcases he with he | he
          · exact G.bk.ok e he
          · exact he ▸ okn
        have G4 := G3.book (ks ++ [(a, b, pre row (b + 1) - pre row a)]) okA (by rw [List.length_append, List.length_singleton]; omega)
        refine ⟨_, rfl, hP _ _ _ ⟨_, _, rfl⟩ G4 ?_ (N.snoc (by omega) G.bk.ok okn S) (.inr ⟨_, rfl⟩) ?_⟩
        · intro e he
          rw [List.mem_append, List.mem_singleton] at he
          rcases he with he | he
          · exact RS e he
          · subst he; rfl
        · intro x ax bx
          refine edge_nx (t := pre row (b + 1) - pre row a) (by omega) okA ?_
          rw [← ax, show (a, a, pre row (b + 1) - pre row a) = (a, b, pre row (b + 1) - pre row a) from by rw [show b = a from by omega]]
          exact List.mem_append_right _ List.mem_cons_self
      · exact (S2.path.not_sep S).elim
    simp [e_fs, e_ff, gLen, k_ref G.cnt, cl]
    by_cases z : (ks.length : Int).fmod 3 = 0
    · have fin' := fin (.int (knownN m (labOf m ks))) (some (.int (knownN m (labOf m ks)))) (by rw [if_pos z])
      have Gz := step none (.int (knownN m (labOf m ks))) (by rw [if_pos z])
      have c1 := app_eq (d := (.int (knownN m (labOf m ks)))) G.cnt (by rw [cl]; omega)
      have c2 := k_ref (hl4 (.int (knownN m (labOf m ks))))
      have c3 := app_eq (d := .tup [.int a, .int b, .int 0]) (hl4 (.int (knownN m (labOf m ks)))) (by simp; omega)
      have c4 := Gz.bk.ins
      simp at fin' c2 c3 c4
      simp [z, e_fs, e_ff, gLen, cl, G.bk.ins, G.known, k_ref G.cnt, c1, c2, c3, c4, cut_map, gSum, intsL, due]
      refine tr_use fin' ?_
      rintro _ h5 ⟨⟨k, rfl⟩, q⟩
      simp [n_nn, gInt, q]
    · have fin' := fin .non (some .non) (by rw [if_neg z])
      have Gz := step none .non (by rw [if_neg z])
      have c1 := app_eq (d := .non) G.cnt (by rw [cl]; omega)
      have c2 := k_ref (hl4 .non)
      have c3 := app_eq (d := .tup [.int a, .int b, .int 0]) (hl4 .non) (by simp; omega)
      have c4 := Gz.bk.ins
      simp at fin' c2 c3 c4
      simp [z, e_fs, e_ff, gLen, cl, G.bk.ins, G.known, k_ref G.cnt, c1, c2, c3, c4, cut_map, gSum, intsL, due]
      refine tr_use fin' ?_
      rintro _ h5 ⟨⟨k, rfl⟩, q⟩
      simp [n_nn, gInt, q]
  · have tot := tot_row RS S.path
    have G3 := G.more (o := .lst (p.map PV.pairD)) (pairs_und p)
    simp [e_su, e_sf, cut_map, gSum, intsL, due, tot, G3.bk.ins]
    refine tr_use (tell_tr G3.bk (by omega) G3.wf a0 ab bm) ?_
    rintro d h4 (⟨rfl, rfl, S2⟩ | ⟨p2, rfl, rfl, S2, pl2⟩)
    · exact (S.path.not_sep S2).elim
    · have tot2 := tot_row RS S2.path
      have G4 := G3.more (o := .lst (p2.map PV.pairD)) (pairs_und p2)
      simp [tot2, e_su, e_sf, gInt, n_kk]
      refine hP ks _ _ ⟨_, _, rfl⟩ (by simpa using G4) RS N (.inl rfl) ?_
      intro x ax bx
      have P := S.path
      rw [ax, bx] at P
      exact path_nx (by omega) G.bk.ok P
theorem back_tr {n i : Nat} {m : Int} {row : List Int} {ks : List Ed} {h : Hx} {x0 x1 x6 x9 x10 x11 x13 x14 : Option D} {P : Po} (hi : i < ks.length)
    (hP : ∀ (c : En) (h' : Hx), RInv Γ n m row ks x0 x1 x6 (i + 1) c h' → P.nx c h') (G : Gw Γ n m (csOf m ks) ks (ks.take (ks.length - i)) h) :
    (backB Γ [x0, x1, some (.ref n), some (.lst (row.map D.int)), some (.int m), some (.ref (n + 1)), x6, some (.ref (n + 3)), some (.ref (n + 4)), x9, x10, x11, some (cntD m ks (ks.length - 1 - i)), x13, x14] h).tr P := by
  have ne : ks.take (ks.length - i) ≠ [] := by
    intro z
    have q := congrArg List.length z
    rw [List.length_take, List.length_nil] at q
    omega
  have be := back_eq G.bk ne
  have dl : (ks.take (ks.length - i)).dropLast = ks.take (ks.length - (i + 1)) := by
    rw [List.dropLast_eq_take, List.take_take, List.length_take]
    congr 1
    omega
  rw [dl] at be
  have few := G.bk.few
  have G2 := G.book (ks.take (ks.length - (i + 1))) (fun e he => G.bk.ok e (by
    have z : ks.take (ks.length - (i + 1)) = (ks.take (ks.length - i)).take (ks.length - (i + 1)) := by
      rw [List.take_take]
      congr 1
      omega
    rw [z] at he
    exact List.mem_of_mem_take he)) (by rw [List.length_take] at few ⊢; omega)
  have kn := G2.known
  have e1 : ks.length - 1 - i = ks.length - (i + 1) := by omega
  have fin := hP [x0, x1, some (.ref n), some (.lst (row.map D.int)), some (.int m), some (.ref (n + 1)), x6, some (.ref (n + 3)), some (.ref (n + 4)), x9, x10, x11, some (cntD m ks (ks.length - 1 - i)), x13, x14] _ ⟨_, _, _, _, _, _, rfl, G2⟩
  have bi := G2.bk.ins
  unfold backB
  rw [e1] at fin ⊢
  unfold cntD at fin ⊢
  by_cases z : ((ks.length - (i + 1) : Nat) : Int).fmod 3 = 0
  · rw [if_pos z] at fin ⊢
    simp [-List.map_take, G.bk.ins, be, bi, kn, opNotN, PV.isNon]
    exact fin
  · rw [if_neg z] at fin ⊢
    simp [-List.map_take, G.bk.ins, be, bi, kn, opNotN, PV.isNon]
    exact fin
theorem right (Γ : Gm) (ns : List Int) (hl : ns.length ≤ 63) : ∃ h', f_law Γ [.rol (ns.map D.int)] [] = .ok (.bl true) h' := by
  have key : (f_law Γ [.rol (ns.map D.int)] []).tr (fun d h' => d = .bl true) E0x := by
    refine tr_fn rfl ?_
    unfold b_law
    simp
    refine tr_forR (lo := 0) (h1 := []) 2 (OInv (.rol (ns.map D.int))) (by simp [fRg1, smallR]) ⟨_, _, _, _, _, _, _, _, _, _, _, _, _, _, rfl, Wf.nil⟩ ?_ ?_
    · rintro i hi c h ⟨x1, x2, x3, x4, x5, x6, x7, x8, x9, x10, x11, x12, x13, x14, rfl, w⟩
      simp
      refine tr_use (two_tr hl) ?_
      rintro _ h1 ⟨s0, s1, rfl, rfl⟩
      refine tr_use (K78.deal_tr (by omega) (by omega)) ?_
      rintro _ h2 ⟨v, rfl, rfl⟩
      try simp
      have P0 : Pot (h1 ++ [.lst [.int v]]) h1.length := ⟨v, ge0⟩
      refine tr_use (many_tr P0) ?_
      rintro _ h2 ⟨m, rfl, m0, m1, dr⟩
      try simp
      refine tr_use (row_tr (P0.drawn dr) (by omega) (by omega)) ?_
      rintro _ h3 ⟨row, rfl, rok, dr2⟩
      have rl := rok.len
      simp [gLen, rl]
      have D3 := dr.trans dr2
      obtain ⟨M0, l3⟩ := mid_start (Γ := Γ) w D3 m0 m1
      rw [made_4 (m := m) rfl]
      simp
      have P3 := P0.drawn D3
      have Pb : Pot (h3 ++ [.ins Γ.SumBook nmBook [.int m, .ref (h3.length + 1)], .lst []]) h1.length := by
        obtain ⟨k, e⟩ := P3
        exact ⟨k, geL e⟩
      refine tr_lcsrc ?_
      simp
      refine tr_use (take_tr Pb (by decide) (by decide +kernel)) ?_
      rintro _ h4 ⟨g, rfl, g0, g1, dr4⟩
      simp [fRg1, small_ok (i := g) (by omega) (by omega)]
      refine tr_lc (s := .rg 0 g.toNat) (h1 := h4) g.toNat (K83.DInv h1.length m (h3 ++ [.ins Γ.SumBook nmBook [.int m, .ref (h3.length + 1)], .lst []])) rfl rfl (by omega) ⟨[], rfl, rfl, by simp, dr4⟩ ?_ ?_
      · rintro j hj acc h5 ⟨ps, rfl, e2, ok, d5⟩
        refine ⟨.int (0 + j), if_pos hj, ?_⟩
        simp [tt1, wipeC]
        refine tr_use (stretch_tr (Pb.drawn d5) m0 (by omega)) ?_
        rintro _ h6 ⟨x, y, rfl, x0, xy, ym, dr6⟩
        refine ⟨ps ++ [(x, y)], by simp [strD], by simp [e2], ?_, d5.trans dr6⟩
        intro p hp
        rw [List.mem_append, List.mem_singleton] at hp
        rcases hp with hp | hp
        · exact ok p hp
        · subst hp; exact ⟨x0, xy, ym⟩
      rintro acc h5 ⟨ps, rfl, e2, ok, d5⟩
      refine ⟨rfl, ?_⟩
      have l5 : h5.length = h1.length + 3 := by rw [d5.len, List.length_append, l3]; rfl
      have Gs : Gw Γ h1.length m [] [] [] ((h5 ++ [.lst []]) ++ [.lst []]) := by
        have d6 := drawn_push (t := [.lst []]) d5 (by rw [List.length_append]; omega)
        have M6 : Mid Γ h1.length m [] ((h3 ++ [.ins Γ.SumBook nmBook [.int m, .ref (h3.length + 1)], .lst []]) ++ [.lst []]) := by simpa using M0
        exact start_gw (M6.drawn d6) (by rw [List.length_append, l5]; rfl)
      simp [l5, l3] at Gs ⊢
      refine tr_src ?_
      simp
      have keyc := lc_map (c := [some (.rol (ns.map D.int)), some (.int i), some (.ref h1.length), some (.lst (row.map D.int)), some (.int m), some (.ref (h1.length + 1)), some (.lst (ps.map strD)), some (.ref (h1.length + 3)), some (.ref (h1.length + 4)), x9, x10, x11, x12, x13, x14]) (h := h5 ++ [.lst [], .lst []]) (s := .rg 0 m.toNat) (h1 := h5 ++ [.lst [], .lst []]) (r := iOf (aCons (rV 4) aNil) fRg1) (t := .nm 14) (vs := [14])
        (te := rTup (aCons (rV 14) (aCons (rV 14) aNil))) ((List.range m.toNat).map fun x : Nat => D.int x) (fun d => .tup [d, d]) (by simp [fRg1, small_ok (i := m) (by omega) (by omega)]) (by simp [Src.len]) (fun j hj => by simp at hj; simp [Src.item, hj]) (by simp; omega) (by
          intro d hd
          obtain ⟨x, hx, rfl⟩ := List.mem_map.mp hd
          simp [wipeC])
      rw [keyc]
      have eq2 : ps.map strD ++ (((List.range m.toNat).map fun x : Nat => D.int x).map fun d => D.tup [d, d]) = (ps ++ (List.range m.toNat).map fun x : Nat => ((x : Int), (x : Int))).map strD := by
        rw [List.map_append, List.map_map, List.map_map]
        rfl
      simp only [tr_ok, o_addl, eq2]
      refine ⟨by simp; omega, ?_⟩
      have okq : ∀ p ∈ ps ++ (List.range m.toNat).map (fun x : Nat => ((x : Int), (x : Int))), StrOk m p := by
        intro p hp
        rw [List.mem_append] at hp
        rcases hp with hp | hp
        · exact ok p hp
        · obtain ⟨x, hx, rfl⟩ := List.mem_map.mp hp
          rw [List.mem_range] at hx
          exact ⟨by show 0 ≤ (x : Int); omega, by show (x : Int) ≤ x; omega, by show (x : Int) < m; omega⟩
      have lq : (ps ++ (List.range m.toNat).map (fun x : Nat => ((x : Int), (x : Int)))).length = ps.length + m.toNat := by simp
      have atq : ∀ x : Nat, (x : Int) < m → (ps ++ (List.range m.toNat).map (fun x : Nat => ((x : Int), (x : Int))))[ps.length + x]? = some ((x : Int), (x : Int)) := by
        intro x hx
        rw [List.getElem?_append_right (by omega), List.getElem?_map, List.getElem?_range (by omega), Nat.add_sub_cancel_left]
        rfl
      generalize ps ++ (List.range m.toNat).map (fun x : Nat => ((x : Int), (x : Int))) = qs at okq lq atq
      simp only [fSq, q_lst, Option.map_some, tr_ok]
      refine tr_forL (ds := qs.map strD) (d0 := .lst (qs.map strD)) (h1 := h5 ++ [MO.lst [], MO.lst []]) (QInv Γ h1.length m row qs (some (.rol (ns.map D.int))) (some (.int i)) (some (.lst (ps.map strD)))) rfl (fun _ => rfl) ⟨[], x9, x10, x11, x12, x13, x14, rfl, (show Gw Γ h1.length m (csOf m []) [] [] (h5 ++ [MO.lst [], MO.lst []]) from Gs), by intro e he; simp at he, New.nil m, Nat.le_refl _, fun t ht => absurd ht (Nat.not_lt_zero _)⟩ ?_ ?_
      · rintro j d hd c h ⟨ks, x9, x10, x11, x12, x13, x14, rfl, G, RS, N, few, nx⟩
        rw [List.getElem?_map, Option.map_eq_some_iff] at hd
        obtain ⟨⟨a, b⟩, hd, rfl⟩ := hd
        have hs := okq _ (List.mem_of_getElem? hd)
        have jl := (List.getElem?_eq_some_iff.mp hd).1
        simp only [strD, v_tp, v_tc, v_nm, v_tn, Option.bind_some, onT_some, List.set_cons_succ, List.set_cons_zero]
        refine main_tr (i := j) ?_ G rok RS N (by omega) hs.1 hs.2.1 hs.2.2
        rintro ks' c h' ⟨y11, y12, rfl⟩ G' RS' N' hk hx
        refine ⟨ks', _, _, _, _, _, _, rfl, G', RS', N', ?_, ?_⟩
        · rcases hk with rfl | ⟨e, rfl⟩
          · omega
          · rw [List.length_append, List.length_singleton]; omega
        · intro t ht x hq
          by_cases y : t = j
          · subst y
            rw [hd] at hq
            have hq := Option.some.inj hq
            exact hx x (congrArg Prod.fst hq) (congrArg Prod.snd hq)
          · have old := nx t (by omega) x hq
            rcases hk with rfl | ⟨e, rfl⟩
            · exact old
            · exact old.more e
      · rintro c h ⟨ks, x9, x10, x11, x12, x13, x14, rfl, G, RS, N, few, nx⟩
        have all : ∀ x : Nat, (x : Int) < m → Nx m ks x := fun x hx => nx (ps.length + x) (by rw [List.length_map, lq]; omega) x (atq x hx)
        have kl := vals_one m0 G.bk.ok N all
        have cl : (csOf m ks).length = ks.length := by simp [csOf]
        simp [k_ref G.cnt, cl, kl]
        refine tr_use (allknown_tr G rok RS all kl) ?_
        rintro _ h7 ⟨rfl, G7⟩
        simp
        refine tr_for (s := .rv (.ref (h1.length + 3)) ks.length) (h1 := h7) ks.length (RInv Γ h1.length m row ks (some (.rol (ns.map D.int))) (some (.int i)) (some (.lst (ps.map strD)))) (by simp [fRv, k_ref G7.cnt, cl]) rfl ⟨_, _, _, _, _, _, rfl, by simpa using G7⟩ ?_ ?_
        · rintro j hj c h ⟨x9, x10, x11, x12, x13, x14, rfl, G8⟩
          refine ⟨cntD m ks (ks.length - 1 - j), ?_, ?_⟩
          · have e : (csOf m ks)[ks.length - 1 - j]? = some (cntD m ks (ks.length - 1 - j)) := by
              unfold csOf
              rw [List.getElem?_map, List.getElem?_range (by omega)]
              rfl
            simp [Src.item, k_ref G8.cnt, hj, e]
          · simp only [v_nm, onT_some, List.set_cons_succ, List.set_cons_zero]
            exact back_tr hj (fun c h z => z) G8
        · rintro c h ⟨x9, x10, x11, x12, x13, x14, rfl, G8⟩
          exact ⟨rfl, _, _, _, _, _, _, _, _, _, _, _, _, _, _, rfl, G8.wf⟩
    · rintro c h ⟨x1, x2, x3, x4, x5, x6, x7, x8, x9, x10, x11, x12, x13, x14, rfl, w⟩
      simp [rEnd, D.und]
  cases e : f_law Γ [.rol (ns.map D.int)] [] with
  | no => rw [e] at key; exact key.elim
  | ok d h => rw [e] at key; exact ⟨h, by rw [show d = .bl true from key]⟩
  | ex d h => rw [e] at key; exact key.elim
end
end K83
namespace K83
open PySem PySem.Spec PyProof.Rows L2 PV K78 K79 K81
theorem all_mk {P : Program} {w : World} {K : PySem.W.Frag} {h : Heap} {mg : Str → Option Value} {fa : Addr} (X : K.In h) (G : h.Ns mainGlobals mg) (hfa : mg "law" = some (.ref fa)) (right : ∀ (Γ : Gm) (ns : List Int), ns.length ≤ 63 → ∃ h1, f_law Γ [.rol (ns.map D.int)] [] = .ok (.bl true) h1)
    {c_SumBook c_NoPast c_NoPlace p_l_deal p_l_take p_l_row_told p_SumBook___init__ p_l_two p_l_many p_l_stretch p_SumBook_cuts_of p_SumBook_ways_on p_SumBook_ways_from p_SumBook_signs_for p_SumBook_total_by p_SumBook_ask_sum p_SumBook_take_back p_l_whole p_l_are_signs p_SumBook_can_come p_SumBook_known_many p_SumBook_tell_sum p_l_all_known p_law : Addr} {od_l_deal an_l_deal od_l_take an_l_take od_l_row_told an_l_row_told od_SumBook___init__ an_SumBook___init__ od_l_two an_l_two od_l_many an_l_many od_l_stretch an_l_stretch od_SumBook_cuts_of an_SumBook_cuts_of od_SumBook_ways_on an_SumBook_ways_on od_SumBook_ways_from an_SumBook_ways_from od_SumBook_signs_for an_SumBook_signs_for od_SumBook_total_by an_SumBook_total_by od_SumBook_ask_sum an_SumBook_ask_sum od_SumBook_take_back an_SumBook_take_back od_l_whole an_l_whole od_l_are_signs an_l_are_signs od_SumBook_can_come an_SumBook_can_come od_SumBook_known_many an_SumBook_known_many od_SumBook_tell_sum an_SumBook_tell_sum od_l_all_known an_l_all_known od_law an_law : Option Addr} {sl_l_deal sl_l_take sl_l_row_told sl_SumBook___init__ sl_l_two sl_l_many sl_l_stretch sl_SumBook_cuts_of sl_SumBook_ways_on sl_SumBook_ways_from sl_SumBook_signs_for sl_SumBook_total_by sl_SumBook_ask_sum sl_SumBook_take_back sl_l_whole sl_l_are_signs sl_SumBook_can_come sl_SumBook_known_many sl_SumBook_tell_sum sl_l_all_known sl_law : Array (Option Value)} {oc_l_deal kV_l_deal dc_l_deal pm_l_deal cd_l_deal ct_l_deal oc_l_take kV_l_take dc_l_take pm_l_take cd_l_take ct_l_take oc_l_row_told kV_l_row_told dc_l_row_told pm_l_row_told cd_l_row_told ct_l_row_told oc_SumBook___init__ kV_SumBook___init__ dc_SumBook___init__ pm_SumBook___init__ cd_SumBook___init__ ct_SumBook___init__ oc_l_two kV_l_two dc_l_two pm_l_two cd_l_two ct_l_two oc_l_many kV_l_many dc_l_many pm_l_many cd_l_many ct_l_many oc_l_stretch kV_l_stretch dc_l_stretch pm_l_stretch cd_l_stretch ct_l_stretch oc_SumBook_cuts_of kV_SumBook_cuts_of dc_SumBook_cuts_of pm_SumBook_cuts_of cd_SumBook_cuts_of ct_SumBook_cuts_of oc_SumBook_ways_on kV_SumBook_ways_on dc_SumBook_ways_on pm_SumBook_ways_on cd_SumBook_ways_on ct_SumBook_ways_on oc_SumBook_ways_from kV_SumBook_ways_from dc_SumBook_ways_from pm_SumBook_ways_from cd_SumBook_ways_from ct_SumBook_ways_from oc_SumBook_signs_for kV_SumBook_signs_for dc_SumBook_signs_for pm_SumBook_signs_for cd_SumBook_signs_for ct_SumBook_signs_for oc_SumBook_total_by kV_SumBook_total_by dc_SumBook_total_by pm_SumBook_total_by cd_SumBook_total_by ct_SumBook_total_by oc_SumBook_ask_sum kV_SumBook_ask_sum dc_SumBook_ask_sum pm_SumBook_ask_sum cd_SumBook_ask_sum ct_SumBook_ask_sum oc_SumBook_take_back kV_SumBook_take_back dc_SumBook_take_back pm_SumBook_take_back cd_SumBook_take_back ct_SumBook_take_back oc_l_whole kV_l_whole dc_l_whole pm_l_whole cd_l_whole ct_l_whole oc_l_are_signs kV_l_are_signs dc_l_are_signs pm_l_are_signs cd_l_are_signs ct_l_are_signs oc_SumBook_can_come kV_SumBook_can_come dc_SumBook_can_come pm_SumBook_can_come cd_SumBook_can_come ct_SumBook_can_come oc_SumBook_known_many kV_SumBook_known_many dc_SumBook_known_many pm_SumBook_known_many cd_SumBook_known_many ct_SumBook_known_many oc_SumBook_tell_sum kV_SumBook_tell_sum dc_SumBook_tell_sum pm_SumBook_tell_sum cd_SumBook_tell_sum ct_SumBook_tell_sum oc_l_all_known kV_l_all_known dc_l_all_known pm_l_all_known cd_l_all_known ct_l_all_known oc_law kV_law dc_law pm_law cd_law ct_law : Value}
    (g_SumBook : PySem.W.nsIn K mainGlobals "SumBook" = some (some (.ref c_SumBook)))
    (pg_SumBook : PySem.W.plainGet K c_SumBook Str.empty = true)
    (hd_SumBook : PySem.W.hasDictIn K c_SumBook = true)
    (po_SumBook : PySem.W.plainOver K c_SumBook = true)
    (sa_SumBook : PySem.W.findIn K (.ref c_SumBook) "__setattr__" = some (some (.builtin "object.__setattr__")))
    (na_SumBook_many : PySem.W.findIn K (.ref c_SumBook) "many" = some none)
    (na_SumBook_kept : PySem.W.findIn K (.ref c_SumBook) "kept" = some none)
    (g_NoPast : PySem.W.nsIn K mainGlobals "NoPast" = some (some (.ref c_NoPast)))
    (x_NoPast : PySem.W.excIn K c_NoPast [.type "ValueError", .type "Exception", .type "BaseException", .type "object"] "ValueError.__new__" = true)
    (k_NoPast : PySem.W.keepIn K (.ref c_NoPast) = true)
    (e_NoPast : PySem.W.subIn K (.ref c_NoPast) (.type "BaseException") = some true)
    (t_NoPast : PySem.W.typeIn K (.ref c_NoPast) = some (.type "type"))
    (g_NoPlace : PySem.W.nsIn K mainGlobals "NoPlace" = some (some (.ref c_NoPlace)))
    (x_NoPlace : PySem.W.excIn K c_NoPlace [.type "ValueError", .type "Exception", .type "BaseException", .type "object"] "ValueError.__new__" = true)
    (k_NoPlace : PySem.W.keepIn K (.ref c_NoPlace) = true)
    (e_NoPlace : PySem.W.subIn K (.ref c_NoPlace) (.type "BaseException") = some true)
    (t_NoPlace : PySem.W.typeIn K (.ref c_NoPlace) = some (.type "type"))
    (a_l_deal : PySem.W.nsIn K mainGlobals "_law_deal" = some (some (.ref p_l_deal)))
    (l_l_deal : K.lookup p_l_deal = some ⟨oc_l_deal, od_l_deal, .func (PySem.W.fnOf "_law_deal" "_law_deal" (defArgs s_l_deal) (defBody s_l_deal) (defScope s_l_deal) .none kV_l_deal dc_l_deal pm_l_deal an_l_deal cd_l_deal ct_l_deal), sl_l_deal⟩)
    (c_l_deal_c : PySem.W.codeIn K cd_l_deal "_law_deal" = true)
    (k_l_deal : PySem.W.keepIn K (.ref p_l_deal) = true)
    (a_l_take : PySem.W.nsIn K mainGlobals "_law_take" = some (some (.ref p_l_take)))
    (l_l_take : K.lookup p_l_take = some ⟨oc_l_take, od_l_take, .func (PySem.W.fnOf "_law_take" "_law_take" (defArgs s_l_take) (defBody s_l_take) (defScope s_l_take) .none kV_l_take dc_l_take pm_l_take an_l_take cd_l_take ct_l_take), sl_l_take⟩)
    (c_l_take_c : PySem.W.codeIn K cd_l_take "_law_take" = true)
    (k_l_take : PySem.W.keepIn K (.ref p_l_take) = true)
    (a_l_row_told : PySem.W.nsIn K mainGlobals "_law_row_told" = some (some (.ref p_l_row_told)))
    (l_l_row_told : K.lookup p_l_row_told = some ⟨oc_l_row_told, od_l_row_told, .func (PySem.W.fnOf "_law_row_told" "_law_row_told" (defArgs s_l_row_told) (defBody s_l_row_told) (defScope s_l_row_told) .none kV_l_row_told dc_l_row_told pm_l_row_told an_l_row_told cd_l_row_told ct_l_row_told), sl_l_row_told⟩)
    (c_l_row_told_c : PySem.W.codeIn K cd_l_row_told "_law_row_told" = true)
    (k_l_row_told : PySem.W.keepIn K (.ref p_l_row_told) = true)
    (a_SumBook___init__ : PySem.W.findIn K (.ref c_SumBook) "__init__" = some (some (.ref p_SumBook___init__)))
    (i_SumBook___init__ : PySem.W.isFn K (.ref p_SumBook___init__) = true)
    (l_SumBook___init__ : K.lookup p_SumBook___init__ = some ⟨oc_SumBook___init__, od_SumBook___init__, .func (PySem.W.fnOf "__init__" "SumBook.__init__" (defArgs s_SumBook___init__) (defBody s_SumBook___init__) (defScope s_SumBook___init__) .none kV_SumBook___init__ dc_SumBook___init__ pm_SumBook___init__ an_SumBook___init__ cd_SumBook___init__ ct_SumBook___init__), sl_SumBook___init__⟩)
    (c_SumBook___init___c : PySem.W.codeIn K cd_SumBook___init__ "SumBook.__init__" = true)
    (k_SumBook___init__ : PySem.W.keepIn K (.ref p_SumBook___init__) = true)
    (a_l_two : PySem.W.nsIn K mainGlobals "_law_two" = some (some (.ref p_l_two)))
    (l_l_two : K.lookup p_l_two = some ⟨oc_l_two, od_l_two, .func (PySem.W.fnOf "_law_two" "_law_two" (defArgs s_l_two) (defBody s_l_two) (defScope s_l_two) .none kV_l_two dc_l_two pm_l_two an_l_two cd_l_two ct_l_two), sl_l_two⟩)
    (c_l_two_c : PySem.W.codeIn K cd_l_two "_law_two" = true)
    (k_l_two : PySem.W.keepIn K (.ref p_l_two) = true)
    (a_l_many : PySem.W.nsIn K mainGlobals "_law_many" = some (some (.ref p_l_many)))
    (l_l_many : K.lookup p_l_many = some ⟨oc_l_many, od_l_many, .func (PySem.W.fnOf "_law_many" "_law_many" (defArgs s_l_many) (defBody s_l_many) (defScope s_l_many) .none kV_l_many dc_l_many pm_l_many an_l_many cd_l_many ct_l_many), sl_l_many⟩)
    (c_l_many_c : PySem.W.codeIn K cd_l_many "_law_many" = true)
    (k_l_many : PySem.W.keepIn K (.ref p_l_many) = true)
    (a_l_stretch : PySem.W.nsIn K mainGlobals "_law_stretch" = some (some (.ref p_l_stretch)))
    (l_l_stretch : K.lookup p_l_stretch = some ⟨oc_l_stretch, od_l_stretch, .func (PySem.W.fnOf "_law_stretch" "_law_stretch" (defArgs s_l_stretch) (defBody s_l_stretch) (defScope s_l_stretch) .none kV_l_stretch dc_l_stretch pm_l_stretch an_l_stretch cd_l_stretch ct_l_stretch), sl_l_stretch⟩)
    (c_l_stretch_c : PySem.W.codeIn K cd_l_stretch "_law_stretch" = true)
    (k_l_stretch : PySem.W.keepIn K (.ref p_l_stretch) = true)
    (a_SumBook_cuts_of : PySem.W.findIn K (.ref c_SumBook) "cuts_of" = some (some (.ref p_SumBook_cuts_of)))
    (i_SumBook_cuts_of : PySem.W.isFn K (.ref p_SumBook_cuts_of) = true)
    (l_SumBook_cuts_of : K.lookup p_SumBook_cuts_of = some ⟨oc_SumBook_cuts_of, od_SumBook_cuts_of, .func (PySem.W.fnOf "cuts_of" "SumBook.cuts_of" (defArgs s_SumBook_cuts_of) (defBody s_SumBook_cuts_of) (defScope s_SumBook_cuts_of) .none kV_SumBook_cuts_of dc_SumBook_cuts_of pm_SumBook_cuts_of an_SumBook_cuts_of cd_SumBook_cuts_of ct_SumBook_cuts_of), sl_SumBook_cuts_of⟩)
    (c_SumBook_cuts_of_c : PySem.W.codeIn K cd_SumBook_cuts_of "SumBook.cuts_of" = true)
    (k_SumBook_cuts_of : PySem.W.keepIn K (.ref p_SumBook_cuts_of) = true)
    (a_SumBook_ways_on : PySem.W.findIn K (.ref c_SumBook) "ways_on" = some (some (.ref p_SumBook_ways_on)))
    (i_SumBook_ways_on : PySem.W.isFn K (.ref p_SumBook_ways_on) = true)
    (l_SumBook_ways_on : K.lookup p_SumBook_ways_on = some ⟨oc_SumBook_ways_on, od_SumBook_ways_on, .func (PySem.W.fnOf "ways_on" "SumBook.ways_on" (defArgs s_SumBook_ways_on) (defBody s_SumBook_ways_on) (defScope s_SumBook_ways_on) .none kV_SumBook_ways_on dc_SumBook_ways_on pm_SumBook_ways_on an_SumBook_ways_on cd_SumBook_ways_on ct_SumBook_ways_on), sl_SumBook_ways_on⟩)
    (c_SumBook_ways_on_c : PySem.W.codeIn K cd_SumBook_ways_on "SumBook.ways_on" = true)
    (k_SumBook_ways_on : PySem.W.keepIn K (.ref p_SumBook_ways_on) = true)
    (a_SumBook_ways_from : PySem.W.findIn K (.ref c_SumBook) "ways_from" = some (some (.ref p_SumBook_ways_from)))
    (i_SumBook_ways_from : PySem.W.isFn K (.ref p_SumBook_ways_from) = true)
    (l_SumBook_ways_from : K.lookup p_SumBook_ways_from = some ⟨oc_SumBook_ways_from, od_SumBook_ways_from, .func (PySem.W.fnOf "ways_from" "SumBook.ways_from" (defArgs s_SumBook_ways_from) (defBody s_SumBook_ways_from) (defScope s_SumBook_ways_from) .none kV_SumBook_ways_from dc_SumBook_ways_from pm_SumBook_ways_from an_SumBook_ways_from cd_SumBook_ways_from ct_SumBook_ways_from), sl_SumBook_ways_from⟩)
    (c_SumBook_ways_from_c : PySem.W.codeIn K cd_SumBook_ways_from "SumBook.ways_from" = true)
    (k_SumBook_ways_from : PySem.W.keepIn K (.ref p_SumBook_ways_from) = true)
    (a_SumBook_signs_for : PySem.W.findIn K (.ref c_SumBook) "signs_for" = some (some (.ref p_SumBook_signs_for)))
    (i_SumBook_signs_for : PySem.W.isFn K (.ref p_SumBook_signs_for) = true)
    (l_SumBook_signs_for : K.lookup p_SumBook_signs_for = some ⟨oc_SumBook_signs_for, od_SumBook_signs_for, .func (PySem.W.fnOf "signs_for" "SumBook.signs_for" (defArgs s_SumBook_signs_for) (defBody s_SumBook_signs_for) (defScope s_SumBook_signs_for) .none kV_SumBook_signs_for dc_SumBook_signs_for pm_SumBook_signs_for an_SumBook_signs_for cd_SumBook_signs_for ct_SumBook_signs_for), sl_SumBook_signs_for⟩)
    (c_SumBook_signs_for_c : PySem.W.codeIn K cd_SumBook_signs_for "SumBook.signs_for" = true)
    (k_SumBook_signs_for : PySem.W.keepIn K (.ref p_SumBook_signs_for) = true)
    (a_SumBook_total_by : PySem.W.findIn K (.ref c_SumBook) "total_by" = some (some (.ref p_SumBook_total_by)))
    (i_SumBook_total_by : PySem.W.isFn K (.ref p_SumBook_total_by) = true)
    (l_SumBook_total_by : K.lookup p_SumBook_total_by = some ⟨oc_SumBook_total_by, od_SumBook_total_by, .func (PySem.W.fnOf "total_by" "SumBook.total_by" (defArgs s_SumBook_total_by) (defBody s_SumBook_total_by) (defScope s_SumBook_total_by) .none kV_SumBook_total_by dc_SumBook_total_by pm_SumBook_total_by an_SumBook_total_by cd_SumBook_total_by ct_SumBook_total_by), sl_SumBook_total_by⟩)
    (c_SumBook_total_by_c : PySem.W.codeIn K cd_SumBook_total_by "SumBook.total_by" = true)
    (k_SumBook_total_by : PySem.W.keepIn K (.ref p_SumBook_total_by) = true)
    (a_SumBook_ask_sum : PySem.W.findIn K (.ref c_SumBook) "ask_sum" = some (some (.ref p_SumBook_ask_sum)))
    (i_SumBook_ask_sum : PySem.W.isFn K (.ref p_SumBook_ask_sum) = true)
    (l_SumBook_ask_sum : K.lookup p_SumBook_ask_sum = some ⟨oc_SumBook_ask_sum, od_SumBook_ask_sum, .func (PySem.W.fnOf "ask_sum" "SumBook.ask_sum" (defArgs s_SumBook_ask_sum) (defBody s_SumBook_ask_sum) (defScope s_SumBook_ask_sum) .none kV_SumBook_ask_sum dc_SumBook_ask_sum pm_SumBook_ask_sum an_SumBook_ask_sum cd_SumBook_ask_sum ct_SumBook_ask_sum), sl_SumBook_ask_sum⟩)
    (c_SumBook_ask_sum_c : PySem.W.codeIn K cd_SumBook_ask_sum "SumBook.ask_sum" = true)
    (k_SumBook_ask_sum : PySem.W.keepIn K (.ref p_SumBook_ask_sum) = true)
    (a_SumBook_take_back : PySem.W.findIn K (.ref c_SumBook) "take_back" = some (some (.ref p_SumBook_take_back)))
    (i_SumBook_take_back : PySem.W.isFn K (.ref p_SumBook_take_back) = true)
    (l_SumBook_take_back : K.lookup p_SumBook_take_back = some ⟨oc_SumBook_take_back, od_SumBook_take_back, .func (PySem.W.fnOf "take_back" "SumBook.take_back" (defArgs s_SumBook_take_back) (defBody s_SumBook_take_back) (defScope s_SumBook_take_back) .none kV_SumBook_take_back dc_SumBook_take_back pm_SumBook_take_back an_SumBook_take_back cd_SumBook_take_back ct_SumBook_take_back), sl_SumBook_take_back⟩)
    (c_SumBook_take_back_c : PySem.W.codeIn K cd_SumBook_take_back "SumBook.take_back" = true)
    (k_SumBook_take_back : PySem.W.keepIn K (.ref p_SumBook_take_back) = true)
    (a_l_whole : PySem.W.nsIn K mainGlobals "_law_whole" = some (some (.ref p_l_whole)))
    (l_l_whole : K.lookup p_l_whole = some ⟨oc_l_whole, od_l_whole, .func (PySem.W.fnOf "_law_whole" "_law_whole" (defArgs s_l_whole) (defBody s_l_whole) (defScope s_l_whole) .none kV_l_whole dc_l_whole pm_l_whole an_l_whole cd_l_whole ct_l_whole), sl_l_whole⟩)
    (c_l_whole_c : PySem.W.codeIn K cd_l_whole "_law_whole" = true)
    (k_l_whole : PySem.W.keepIn K (.ref p_l_whole) = true)
    (a_l_are_signs : PySem.W.nsIn K mainGlobals "_law_are_signs" = some (some (.ref p_l_are_signs)))
    (l_l_are_signs : K.lookup p_l_are_signs = some ⟨oc_l_are_signs, od_l_are_signs, .func (PySem.W.fnOf "_law_are_signs" "_law_are_signs" (defArgs s_l_are_signs) (defBody s_l_are_signs) (defScope s_l_are_signs) .none kV_l_are_signs dc_l_are_signs pm_l_are_signs an_l_are_signs cd_l_are_signs ct_l_are_signs), sl_l_are_signs⟩)
    (c_l_are_signs_c : PySem.W.codeIn K cd_l_are_signs "_law_are_signs" = true)
    (k_l_are_signs : PySem.W.keepIn K (.ref p_l_are_signs) = true)
    (a_SumBook_can_come : PySem.W.findIn K (.ref c_SumBook) "can_come" = some (some (.ref p_SumBook_can_come)))
    (i_SumBook_can_come : PySem.W.isFn K (.ref p_SumBook_can_come) = true)
    (l_SumBook_can_come : K.lookup p_SumBook_can_come = some ⟨oc_SumBook_can_come, od_SumBook_can_come, .func (PySem.W.fnOf "can_come" "SumBook.can_come" (defArgs s_SumBook_can_come) (defBody s_SumBook_can_come) (defScope s_SumBook_can_come) .none kV_SumBook_can_come dc_SumBook_can_come pm_SumBook_can_come an_SumBook_can_come cd_SumBook_can_come ct_SumBook_can_come), sl_SumBook_can_come⟩)
    (c_SumBook_can_come_c : PySem.W.codeIn K cd_SumBook_can_come "SumBook.can_come" = true)
    (k_SumBook_can_come : PySem.W.keepIn K (.ref p_SumBook_can_come) = true)
    (a_SumBook_known_many : PySem.W.findIn K (.ref c_SumBook) "known_many" = some (some (.ref p_SumBook_known_many)))
    (i_SumBook_known_many : PySem.W.isFn K (.ref p_SumBook_known_many) = true)
    (l_SumBook_known_many : K.lookup p_SumBook_known_many = some ⟨oc_SumBook_known_many, od_SumBook_known_many, .func (PySem.W.fnOf "known_many" "SumBook.known_many" (defArgs s_SumBook_known_many) (defBody s_SumBook_known_many) (defScope s_SumBook_known_many) .none kV_SumBook_known_many dc_SumBook_known_many pm_SumBook_known_many an_SumBook_known_many cd_SumBook_known_many ct_SumBook_known_many), sl_SumBook_known_many⟩)
    (c_SumBook_known_many_c : PySem.W.codeIn K cd_SumBook_known_many "SumBook.known_many" = true)
    (k_SumBook_known_many : PySem.W.keepIn K (.ref p_SumBook_known_many) = true)
    (a_SumBook_tell_sum : PySem.W.findIn K (.ref c_SumBook) "tell_sum" = some (some (.ref p_SumBook_tell_sum)))
    (i_SumBook_tell_sum : PySem.W.isFn K (.ref p_SumBook_tell_sum) = true)
    (l_SumBook_tell_sum : K.lookup p_SumBook_tell_sum = some ⟨oc_SumBook_tell_sum, od_SumBook_tell_sum, .func (PySem.W.fnOf "tell_sum" "SumBook.tell_sum" (defArgs s_SumBook_tell_sum) (defBody s_SumBook_tell_sum) (defScope s_SumBook_tell_sum) .none kV_SumBook_tell_sum dc_SumBook_tell_sum pm_SumBook_tell_sum an_SumBook_tell_sum cd_SumBook_tell_sum ct_SumBook_tell_sum), sl_SumBook_tell_sum⟩)
    (c_SumBook_tell_sum_c : PySem.W.codeIn K cd_SumBook_tell_sum "SumBook.tell_sum" = true)
    (k_SumBook_tell_sum : PySem.W.keepIn K (.ref p_SumBook_tell_sum) = true)
    (a_l_all_known : PySem.W.nsIn K mainGlobals "_law_all_known" = some (some (.ref p_l_all_known)))
    (l_l_all_known : K.lookup p_l_all_known = some ⟨oc_l_all_known, od_l_all_known, .func (PySem.W.fnOf "_law_all_known" "_law_all_known" (defArgs s_l_all_known) (defBody s_l_all_known) (defScope s_l_all_known) .none kV_l_all_known dc_l_all_known pm_l_all_known an_l_all_known cd_l_all_known ct_l_all_known), sl_l_all_known⟩)
    (c_l_all_known_c : PySem.W.codeIn K cd_l_all_known "_law_all_known" = true)
    (k_l_all_known : PySem.W.keepIn K (.ref p_l_all_known) = true)
    (a_law : PySem.W.nsIn K mainGlobals "law" = some (some (.ref p_law)))
    (l_law : K.lookup p_law = some ⟨oc_law, od_law, .func (PySem.W.fnOf "law" "law" (defArgs s_law) (defBody s_law) (defScope s_law) .none kV_law dc_law pm_law an_law cd_law ct_law), sl_law⟩)
    (c_law_c : PySem.W.codeIn K cd_law "law" = true)
    (k_law : PySem.W.keepIn K (.ref p_law) = true)
    (mk_SumBook : PySem.W.makesIn K c_SumBook = true)
    (kc_SumBook : PySem.W.keepIn K (.ref c_SumBook) = true)
    (z_all : PySem.W.nsIn K mainGlobals "all" = some none)
    (z_bool : PySem.W.nsIn K mainGlobals "bool" = some none)
    (z_enumerate : PySem.W.nsIn K mainGlobals "enumerate" = some none)
    (z_int : PySem.W.nsIn K mainGlobals "int" = some none)
    (z_isinstance : PySem.W.nsIn K mainGlobals "isinstance" = some none)
    (z_len : PySem.W.nsIn K mainGlobals "len" = some none)
    (z_list : PySem.W.nsIn K mainGlobals "list" = some none)
    (z_min : PySem.W.nsIn K mainGlobals "min" = some none)
    (z_range : PySem.W.nsIn K mainGlobals "range" = some none)
    (z_reversed : PySem.W.nsIn K mainGlobals "reversed" = some none)
    (z_set : PySem.W.nsIn K mainGlobals "set" = some none)
    (z_sorted : PySem.W.nsIn K mainGlobals "sorted" = some none)
    (z_sum : PySem.W.nsIn K mainGlobals "sum" = some none)
    (z_tuple : PySem.W.nsIn K mainGlobals "tuple" = some none)
    : ∃ fd : FuncData, (∀ (s : Shared) (u : Value), BindsTo s fd ⟨[u], []⟩ [("script", u)]) ∧ ∀ base : Heap, K.In base → base.Ns mainGlobals mg → FnOk P w K mg base (L2.CX P w) 6 fa fd ["script"] (spLaw K) := by
  have e := hfa.symm.trans (PySem.W.mg_of X G a_law)
  cases e
  have T : Top K mg { SumBook := c_SumBook, NoPast := c_NoPast, NoPlace := c_NoPlace } { a_l_deal := p_l_deal, a_l_take := p_l_take, a_l_row_told := p_l_row_told, a_SumBook___init__ := p_SumBook___init__, a_l_two := p_l_two, a_l_many := p_l_many, a_l_stretch := p_l_stretch, a_SumBook_cuts_of := p_SumBook_cuts_of, a_SumBook_ways_on := p_SumBook_ways_on, a_SumBook_ways_from := p_SumBook_ways_from, a_SumBook_signs_for := p_SumBook_signs_for, a_SumBook_total_by := p_SumBook_total_by, a_SumBook_ask_sum := p_SumBook_ask_sum, a_SumBook_take_back := p_SumBook_take_back, a_l_whole := p_l_whole, a_l_are_signs := p_l_are_signs, a_SumBook_can_come := p_SumBook_can_come, a_SumBook_known_many := p_SumBook_known_many, a_SumBook_tell_sum := p_SumBook_tell_sum, a_l_all_known := p_l_all_known, a_law := fa } := {
    d_l_deal := ⟨_, fun_mk (st := s_l_deal) l_l_deal c_l_deal_c k_l_deal, (fun_mk (st := s_l_deal) l_l_deal c_l_deal_c k_l_deal).binds (ps := ["script", "k"]) fun _ _ _ _ _ _ us hl => match us, hl with | [_, _], _ => rfl⟩
    m_l_deal := PySem.W.mg_of X G a_l_deal
    d_l_take := ⟨_, fun_mk (st := s_l_take) l_l_take c_l_take_c k_l_take, (fun_mk (st := s_l_take) l_l_take c_l_take_c k_l_take).binds (ps := ["pot", "many"]) fun _ _ _ _ _ _ us hl => match us, hl with | [_, _], _ => rfl⟩
    m_l_take := PySem.W.mg_of X G a_l_take
    d_l_row_told := ⟨_, fun_mk (st := s_l_row_told) l_l_row_told c_l_row_told_c k_l_row_told, (fun_mk (st := s_l_row_told) l_l_row_told c_l_row_told_c k_l_row_told).binds (ps := ["pot", "many"]) fun _ _ _ _ _ _ us hl => match us, hl with | [_, _], _ => rfl⟩
    m_l_row_told := PySem.W.mg_of X G a_l_row_told
    d_SumBook___init__ := ⟨_, fun_mk (st := s_SumBook___init__) l_SumBook___init__ c_SumBook___init___c k_SumBook___init__, (fun_mk (st := s_SumBook___init__) l_SumBook___init__ c_SumBook___init___c k_SumBook___init__).binds (ps := ["self", "many"]) fun _ _ _ _ _ _ us hl => match us, hl with | [_, _], _ => rfl⟩
    d_l_two := ⟨_, fun_mk (st := s_l_two) l_l_two c_l_two_c k_l_two, (fun_mk (st := s_l_two) l_l_two c_l_two_c k_l_two).binds (ps := ["script"]) fun _ _ _ _ _ _ us hl => match us, hl with | [_], _ => rfl⟩
    m_l_two := PySem.W.mg_of X G a_l_two
    d_l_many := ⟨_, fun_mk (st := s_l_many) l_l_many c_l_many_c k_l_many, (fun_mk (st := s_l_many) l_l_many c_l_many_c k_l_many).binds (ps := ["pot"]) fun _ _ _ _ _ _ us hl => match us, hl with | [_], _ => rfl⟩
    m_l_many := PySem.W.mg_of X G a_l_many
    d_l_stretch := ⟨_, fun_mk (st := s_l_stretch) l_l_stretch c_l_stretch_c k_l_stretch, (fun_mk (st := s_l_stretch) l_l_stretch c_l_stretch_c k_l_stretch).binds (ps := ["pot", "many"]) fun _ _ _ _ _ _ us hl => match us, hl with | [_, _], _ => rfl⟩
    m_l_stretch := PySem.W.mg_of X G a_l_stretch
    d_SumBook_cuts_of := ⟨_, fun_mk (st := s_SumBook_cuts_of) l_SumBook_cuts_of c_SumBook_cuts_of_c k_SumBook_cuts_of, (fun_mk (st := s_SumBook_cuts_of) l_SumBook_cuts_of c_SumBook_cuts_of_c k_SumBook_cuts_of).binds (ps := ["self", "a", "b"]) fun _ _ _ _ _ _ us hl => match us, hl with | [_, _, _], _ => rfl⟩
    me_SumBook_cuts_of := ⟨a_SumBook_cuts_of, i_SumBook_cuts_of, k_SumBook_cuts_of⟩
    d_SumBook_ways_on := ⟨_, fun_mk (st := s_SumBook_ways_on) l_SumBook_ways_on c_SumBook_ways_on_c k_SumBook_ways_on, (fun_mk (st := s_SumBook_ways_on) l_SumBook_ways_on c_SumBook_ways_on_c k_SumBook_ways_on).binds (ps := ["self", "cut"]) fun _ _ _ _ _ _ us hl => match us, hl with | [_, _], _ => rfl⟩
    me_SumBook_ways_on := ⟨a_SumBook_ways_on, i_SumBook_ways_on, k_SumBook_ways_on⟩
    d_SumBook_ways_from := ⟨_, fun_mk (st := s_SumBook_ways_from) l_SumBook_ways_from c_SumBook_ways_from_c k_SumBook_ways_from, (fun_mk (st := s_SumBook_ways_from) l_SumBook_ways_from c_SumBook_ways_from_c k_SumBook_ways_from).binds (ps := ["self", "cut"]) fun _ _ _ _ _ _ us hl => match us, hl with | [_, _], _ => rfl⟩
    me_SumBook_ways_from := ⟨a_SumBook_ways_from, i_SumBook_ways_from, k_SumBook_ways_from⟩
    d_SumBook_signs_for := ⟨_, fun_mk (st := s_SumBook_signs_for) l_SumBook_signs_for c_SumBook_signs_for_c k_SumBook_signs_for, (fun_mk (st := s_SumBook_signs_for) l_SumBook_signs_for c_SumBook_signs_for_c k_SumBook_signs_for).binds (ps := ["self", "a", "b"]) fun _ _ _ _ _ _ us hl => match us, hl with | [_, _, _], _ => rfl⟩
    me_SumBook_signs_for := ⟨a_SumBook_signs_for, i_SumBook_signs_for, k_SumBook_signs_for⟩
    d_SumBook_total_by := ⟨_, fun_mk (st := s_SumBook_total_by) l_SumBook_total_by c_SumBook_total_by_c k_SumBook_total_by, (fun_mk (st := s_SumBook_total_by) l_SumBook_total_by c_SumBook_total_by_c k_SumBook_total_by).binds (ps := ["self", "signs"]) fun _ _ _ _ _ _ us hl => match us, hl with | [_, _], _ => rfl⟩
    me_SumBook_total_by := ⟨a_SumBook_total_by, i_SumBook_total_by, k_SumBook_total_by⟩
    d_SumBook_ask_sum := ⟨_, fun_mk (st := s_SumBook_ask_sum) l_SumBook_ask_sum c_SumBook_ask_sum_c k_SumBook_ask_sum, (fun_mk (st := s_SumBook_ask_sum) l_SumBook_ask_sum c_SumBook_ask_sum_c k_SumBook_ask_sum).binds (ps := ["self", "a", "b"]) fun _ _ _ _ _ _ us hl => match us, hl with | [_, _, _], _ => rfl⟩
    me_SumBook_ask_sum := ⟨a_SumBook_ask_sum, i_SumBook_ask_sum, k_SumBook_ask_sum⟩
    d_SumBook_take_back := ⟨_, fun_mk (st := s_SumBook_take_back) l_SumBook_take_back c_SumBook_take_back_c k_SumBook_take_back, (fun_mk (st := s_SumBook_take_back) l_SumBook_take_back c_SumBook_take_back_c k_SumBook_take_back).binds (ps := ["self"]) fun _ _ _ _ _ _ us hl => match us, hl with | [_], _ => rfl⟩
    me_SumBook_take_back := ⟨a_SumBook_take_back, i_SumBook_take_back, k_SumBook_take_back⟩
    d_l_whole := ⟨_, fun_mk (st := s_l_whole) l_l_whole c_l_whole_c k_l_whole, (fun_mk (st := s_l_whole) l_l_whole c_l_whole_c k_l_whole).binds (ps := ["thing"]) fun _ _ _ _ _ _ us hl => match us, hl with | [_], _ => rfl⟩
    m_l_whole := PySem.W.mg_of X G a_l_whole
    d_l_are_signs := ⟨_, fun_mk (st := s_l_are_signs) l_l_are_signs c_l_are_signs_c k_l_are_signs, (fun_mk (st := s_l_are_signs) l_l_are_signs c_l_are_signs_c k_l_are_signs).binds (ps := ["many", "kept", "a", "b", "signs"]) fun _ _ _ _ _ _ us hl => match us, hl with | [_, _, _, _, _], _ => rfl⟩
    m_l_are_signs := PySem.W.mg_of X G a_l_are_signs
    d_SumBook_can_come := ⟨_, fun_mk (st := s_SumBook_can_come) l_SumBook_can_come c_SumBook_can_come_c k_SumBook_can_come, (fun_mk (st := s_SumBook_can_come) l_SumBook_can_come c_SumBook_can_come_c k_SumBook_can_come).binds (ps := ["self"]) fun _ _ _ _ _ _ us hl => match us, hl with | [_], _ => rfl⟩
    me_SumBook_can_come := ⟨a_SumBook_can_come, i_SumBook_can_come, k_SumBook_can_come⟩
    d_SumBook_known_many := ⟨_, fun_mk (st := s_SumBook_known_many) l_SumBook_known_many c_SumBook_known_many_c k_SumBook_known_many, (fun_mk (st := s_SumBook_known_many) l_SumBook_known_many c_SumBook_known_many_c k_SumBook_known_many).binds (ps := ["self"]) fun _ _ _ _ _ _ us hl => match us, hl with | [_], _ => rfl⟩
    me_SumBook_known_many := ⟨a_SumBook_known_many, i_SumBook_known_many, k_SumBook_known_many⟩
    d_SumBook_tell_sum := ⟨_, fun_mk (st := s_SumBook_tell_sum) l_SumBook_tell_sum c_SumBook_tell_sum_c k_SumBook_tell_sum, (fun_mk (st := s_SumBook_tell_sum) l_SumBook_tell_sum c_SumBook_tell_sum_c k_SumBook_tell_sum).binds (ps := ["self", "a", "b", "total"]) fun _ _ _ _ _ _ us hl => match us, hl with | [_, _, _, _], _ => rfl⟩
    me_SumBook_tell_sum := ⟨a_SumBook_tell_sum, i_SumBook_tell_sum, k_SumBook_tell_sum⟩
    d_l_all_known := ⟨_, fun_mk (st := s_l_all_known) l_l_all_known c_l_all_known_c k_l_all_known, (fun_mk (st := s_l_all_known) l_l_all_known c_l_all_known_c k_l_all_known).binds (ps := ["pot", "book", "kept", "row"]) fun _ _ _ _ _ _ us hl => match us, hl with | [_, _, _, _], _ => rfl⟩
    m_l_all_known := PySem.W.mg_of X G a_l_all_known
    d_law := ⟨_, fun_mk (st := s_law) l_law c_law_c k_law, (fun_mk (st := s_law) l_law c_law_c k_law).binds (ps := ["script"]) fun _ _ _ _ _ _ us hl => match us, hl with | [_], _ => rfl⟩
    m_law := PySem.W.mg_of X G a_law
    cl_SumBook := ⟨pg_SumBook, hd_SumBook, po_SumBook, sa_SumBook⟩
    m_SumBook := PySem.W.mg_of X G g_SumBook
    mk_SumBook := ⟨mk_SumBook, a_SumBook___init__, i_SumBook___init__, kc_SumBook⟩
    na_SumBook_many := na_SumBook_many
    na_SumBook_kept := na_SumBook_kept
    m_NoPast := PySem.W.mg_of X G g_NoPast
    x_NoPast := x_NoPast
    k_NoPast := k_NoPast
    e_NoPast := e_NoPast
    t_NoPast := t_NoPast
    m_NoPlace := PySem.W.mg_of X G g_NoPlace
    x_NoPlace := x_NoPlace
    k_NoPlace := k_NoPlace
    e_NoPlace := e_NoPlace
    t_NoPlace := t_NoPlace
    b_all := PySem.W.mg_none_of X G z_all
    b_bool := PySem.W.mg_none_of X G z_bool
    b_enumerate := PySem.W.mg_none_of X G z_enumerate
    b_int := PySem.W.mg_none_of X G z_int
    b_isinstance := PySem.W.mg_none_of X G z_isinstance
    b_len := PySem.W.mg_none_of X G z_len
    b_list := PySem.W.mg_none_of X G z_list
    b_min := PySem.W.mg_none_of X G z_min
    b_range := PySem.W.mg_none_of X G z_range
    b_reversed := PySem.W.mg_none_of X G z_reversed
    b_set := PySem.W.mg_none_of X G z_set
    b_sorted := PySem.W.mg_none_of X G z_sorted
    b_sum := PySem.W.mg_none_of X G z_sum
    b_tuple := PySem.W.mg_none_of X G z_tuple }
  exact ⟨_, fun s v => .of_eq rfl, fun base _ _ => law_fn (fd_law T (fun_mk (st := s_law) l_law c_law_c k_law)) (right _)⟩
end K83
open PySem PySem.W PyProof.Rows in
set_option maxRecDepth 100000 in
set_option maxHeartbeats 0 in
theorem PySem.Challenge.cw_tellsum_k83_whole_books_by_a_row_holds : PySem.Challenge.rw_tellsum_k83_whole_books_by_a_row.Holds := by
  w_on; o_law; k_head; (case hw => w_witness2)
  k_fill
  refine L2.walk_of (l := PySem.Challenge.rw_tellsum_k83_whole_books_by_a_row) (n := 63) (k := 6) (x := "script") (CX := fun w => L2.CX PySem.Challenge.pw_tellsum_k83_whole_books_by_a_row w) (sp := fun w => PV.spLaw _) rfl (by decide) rfl ⟨rfl, by decide, by decide⟩ (fun w h Y => PySem.W.kIn_of Y) ?F (fun _ _ a ns hl _ hS => ⟨a, ns, rfl, hS, hl, fun _ => rfl⟩) (fun _ _ _ _ _ ⟨_, _, _, _, _, _, _, _, _, _, _, _, z⟩ => z)
  case F =>
    intro w mg fa h KX G hmg
    refine' K83.all_mk KX G hmg K83.right ?g_SumBook ?pg_SumBook ?hd_SumBook ?po_SumBook ?sa_SumBook ?na_SumBook_many ?na_SumBook_kept ?g_NoPast ?x_NoPast ?k_NoPast ?e_NoPast ?t_NoPast ?g_NoPlace ?x_NoPlace ?k_NoPlace ?e_NoPlace ?t_NoPlace ?a_l_deal ?l_l_deal ?c_l_deal_c ?k_l_deal ?a_l_take ?l_l_take ?c_l_take_c ?k_l_take ?a_l_row_told ?l_l_row_told ?c_l_row_told_c ?k_l_row_told ?a_SumBook___init__ ?i_SumBook___init__ ?l_SumBook___init__ ?c_SumBook___init___c ?k_SumBook___init__ ?a_l_two ?l_l_two ?c_l_two_c ?k_l_two ?a_l_many ?l_l_many ?c_l_many_c ?k_l_many ?a_l_stretch ?l_l_stretch ?c_l_stretch_c ?k_l_stretch ?a_SumBook_cuts_of ?i_SumBook_cuts_of ?l_SumBook_cuts_of ?c_SumBook_cuts_of_c ?k_SumBook_cuts_of ?a_SumBook_ways_on ?i_SumBook_ways_on ?l_SumBook_ways_on ?c_SumBook_ways_on_c ?k_SumBook_ways_on ?a_SumBook_ways_from ?i_SumBook_ways_from ?l_SumBook_ways_from ?c_SumBook_ways_from_c ?k_SumBook_ways_from ?a_SumBook_signs_for ?i_SumBook_signs_for ?l_SumBook_signs_for ?c_SumBook_signs_for_c ?k_SumBook_signs_for ?a_SumBook_total_by ?i_SumBook_total_by ?l_SumBook_total_by ?c_SumBook_total_by_c ?k_SumBook_total_by ?a_SumBook_ask_sum ?i_SumBook_ask_sum ?l_SumBook_ask_sum ?c_SumBook_ask_sum_c ?k_SumBook_ask_sum ?a_SumBook_take_back ?i_SumBook_take_back ?l_SumBook_take_back ?c_SumBook_take_back_c ?k_SumBook_take_back ?a_l_whole ?l_l_whole ?c_l_whole_c ?k_l_whole ?a_l_are_signs ?l_l_are_signs ?c_l_are_signs_c ?k_l_are_signs ?a_SumBook_can_come ?i_SumBook_can_come ?l_SumBook_can_come ?c_SumBook_can_come_c ?k_SumBook_can_come ?a_SumBook_known_many ?i_SumBook_known_many ?l_SumBook_known_many ?c_SumBook_known_many_c ?k_SumBook_known_many ?a_SumBook_tell_sum ?i_SumBook_tell_sum ?l_SumBook_tell_sum ?c_SumBook_tell_sum_c ?k_SumBook_tell_sum ?a_l_all_known ?l_l_all_known ?c_l_all_known_c ?k_l_all_known ?a_law ?l_law ?c_law_c ?k_law ?mk_SumBook ?kc_SumBook ?z_all ?z_bool ?z_enumerate ?z_int ?z_isinstance ?z_len ?z_list ?z_min ?z_range ?z_reversed ?z_set ?z_sorted ?z_sum ?z_tuple
    (case g_SumBook => k_is)
    (case pg_SumBook => k_is)
    (case hd_SumBook => k_is)
    (case po_SumBook => k_is)
    (case sa_SumBook => k_is)
    (case na_SumBook_many => k_is)
    (case na_SumBook_kept => k_is)
    (case g_NoPast => k_is)
    (case x_NoPast => k_exc)
    (case k_NoPast => k_is)
    (case e_NoPast => k_is)
    (case t_NoPast => k_is)
    (case g_NoPlace => k_is)
    (case x_NoPlace => k_exc)
    (case k_NoPlace => k_is)
    (case e_NoPlace => k_is)
    (case t_NoPlace => k_is)
    (case a_l_deal => k_is)
    (case l_l_deal => k_is)
    (case c_l_deal_c => k_is)
    (case k_l_deal => k_is)
    (case a_l_take => k_is)
    (case l_l_take => k_is)
    (case c_l_take_c => k_is)
    (case k_l_take => k_is)
    (case a_l_row_told => k_is)
    (case l_l_row_told => k_is)
    (case c_l_row_told_c => k_is)
    (case k_l_row_told => k_is)
    (case a_SumBook___init__ => k_is)
    (case i_SumBook___init__ => k_is)
    (case l_SumBook___init__ => k_is)
    (case c_SumBook___init___c => k_is)
    (case k_SumBook___init__ => k_is)
    (case a_l_two => k_is)
    (case l_l_two => k_is)
    (case c_l_two_c => k_is)
    (case k_l_two => k_is)
    (case a_l_many => k_is)
    (case l_l_many => k_is)
    (case c_l_many_c => k_is)
    (case k_l_many => k_is)
    (case a_l_stretch => k_is)
    (case l_l_stretch => k_is)
    (case c_l_stretch_c => k_is)
    (case k_l_stretch => k_is)
    (case a_SumBook_cuts_of => k_is)
    (case i_SumBook_cuts_of => k_is)
    (case l_SumBook_cuts_of => k_is)
    (case c_SumBook_cuts_of_c => k_is)
    (case k_SumBook_cuts_of => k_is)
    (case a_SumBook_ways_on => k_is)
    (case i_SumBook_ways_on => k_is)
    (case l_SumBook_ways_on => k_is)
    (case c_SumBook_ways_on_c => k_is)
    (case k_SumBook_ways_on => k_is)
    (case a_SumBook_ways_from => k_is)
    (case i_SumBook_ways_from => k_is)
    (case l_SumBook_ways_from => k_is)
    (case c_SumBook_ways_from_c => k_is)
    (case k_SumBook_ways_from => k_is)
    (case a_SumBook_signs_for => k_is)
    (case i_SumBook_signs_for => k_is)
    (case l_SumBook_signs_for => k_is)
    (case c_SumBook_signs_for_c => k_is)
    (case k_SumBook_signs_for => k_is)
    (case a_SumBook_total_by => k_is)
    (case i_SumBook_total_by => k_is)
    (case l_SumBook_total_by => k_is)
    (case c_SumBook_total_by_c => k_is)
    (case k_SumBook_total_by => k_is)
    (case a_SumBook_ask_sum => k_is)
    (case i_SumBook_ask_sum => k_is)
    (case l_SumBook_ask_sum => k_is)
    (case c_SumBook_ask_sum_c => k_is)
    (case k_SumBook_ask_sum => k_is)
    (case a_SumBook_take_back => k_is)
    (case i_SumBook_take_back => k_is)
    (case l_SumBook_take_back => k_is)
    (case c_SumBook_take_back_c => k_is)
    (case k_SumBook_take_back => k_is)
    (case a_l_whole => k_is)
    (case l_l_whole => k_is)
    (case c_l_whole_c => k_is)
    (case k_l_whole => k_is)
    (case a_l_are_signs => k_is)
    (case l_l_are_signs => k_is)
    (case c_l_are_signs_c => k_is)
    (case k_l_are_signs => k_is)
    (case a_SumBook_can_come => k_is)
    (case i_SumBook_can_come => k_is)
    (case l_SumBook_can_come => k_is)
    (case c_SumBook_can_come_c => k_is)
    (case k_SumBook_can_come => k_is)
    (case a_SumBook_known_many => k_is)
    (case i_SumBook_known_many => k_is)
    (case l_SumBook_known_many => k_is)
    (case c_SumBook_known_many_c => k_is)
    (case k_SumBook_known_many => k_is)
    (case a_SumBook_tell_sum => k_is)
    (case i_SumBook_tell_sum => k_is)
    (case l_SumBook_tell_sum => k_is)
    (case c_SumBook_tell_sum_c => k_is)
    (case k_SumBook_tell_sum => k_is)
    (case a_l_all_known => k_is)
    (case l_l_all_known => k_is)
    (case c_l_all_known_c => k_is)
    (case k_l_all_known => k_is)
    (case a_law => k_is)
    (case l_law => k_is)
    (case c_law_c => k_is)
    (case k_law => k_is)
    (case mk_SumBook => k_is)
    (case kc_SumBook => k_is)
    (case z_all => k_is)
    (case z_bool => k_is)
    (case z_enumerate => k_is)
    (case z_int => k_is)
    (case z_isinstance => k_is)
    (case z_len => k_is)
    (case z_list => k_is)
    (case z_min => k_is)
    (case z_range => k_is)
    (case z_reversed => k_is)
    (case z_set => k_is)
    (case z_sorted => k_is)
    (case z_sum => k_is)
    (case z_tuple => k_is)
