import PyProof.Rows.All
import Wide.All
import OpenK.AllK
import Wide.FinOn
import HandS.ForMost
import HandS.StrMore
import HandS.NoneIn
import HandS.RaiseMore
import HandS.Style
import HandS.Steps
import HandS.WordsDict
import HandS.ExcInit
import HandS.ExcIs
import HandS.ExcField
import HandS.IsInst
import HandS.WordsExc
import HandS.Deep
import HandS.Zip
import HandS.ListItems
import KE.KDictWalk
import KE.KDictItemsList
import PyProof.Ascii
import PyProof.FitsInt
import PyProof.Rows.ReprOcc
import PySem.Challenge.RW_glyphhall_k08_whole_texts
set_option Elab.async false
set_option linter.all false
set_option maxRecDepth 100000
set_option maxHeartbeats 4000000
namespace Kx
open PySem L2

/-! ## Plain data, and what stands for it in a heap -/
abbrev Lim : Nat := 16000000
theorem lim_line {n : Nat} (h : n ≤ Lim) : n ≤ sizeLine := by rw [sizeLine_eq]; exact Nat.le_trans h (by decide)
theorem lim_line2 {n : Nat} (h : n ≤ Lim) : n + 2 ≤ sizeLine := by rw [sizeLine_eq]; exact Nat.le_trans (Nat.add_le_add_right h 2) (by decide)

inductive Dt where
  | non | bl (b : Bool) | int (i : Int) | str (s : Str) | lst (xs : List Dt) | tup (xs : List Dt) | obj (a : Addr)

mutual
inductive Rep (H : Hp) : V → Dt → Prop
  | non : Rep H .non .non
  | bl (b : Bool) : Rep H (.bl b) (.bl b)
  | int (i : Int) : Rep H (.int i) (.int i)
  | str (x : Str) (h : x.length ≤ Lim) : Rep H (.str x) (.str x)
  | lst {a : Addr} {vs : List V} {ds : List Dt} (h : H a = some (.lst vs)) (r : RepA H vs ds) : Rep H (.ref a) (.lst ds)
  | tup {a : Addr} {vs : List V} {ds : List Dt} (h : H a = some (.tup vs)) (r : RepA H vs ds) : Rep H (.ref a) (.tup ds)
  | obj (a : Addr) : Rep H (.ref a) (.obj a)
inductive RepA (H : Hp) : List V → List Dt → Prop
  | nil : RepA H [] []
  | cons {v : V} {d : Dt} {vs : List V} {ds : List Dt} (h : Rep H v d) (r : RepA H vs ds) : RepA H (v :: vs) (d :: ds)
end

mutual
theorem Rep.mono {H H' : Hp} (e : Same H H') : ∀ {v : V} {d : Dt}, Rep H v d → Rep H' v d
  | _, _, .non => .non
  | _, _, .bl b => .bl b
  | _, _, .int i => .int i
  | _, _, .str x h => .str x h
  | _, _, .lst h r => .lst (e _ _ h) (RepA.mono e r)
  | _, _, .tup h r => .tup (e _ _ h) (RepA.mono e r)
  | _, _, .obj a => .obj a
theorem RepA.mono {H H' : Hp} (e : Same H H') : ∀ {vs : List V} {ds : List Dt}, RepA H vs ds → RepA H' vs ds
  | _, _, .nil => .nil
  | _, _, .cons h r => .cons (Rep.mono e h) (RepA.mono e r)
end
theorem RepA.length {H : Hp} : ∀ {vs : List V} {ds : List Dt}, RepA H vs ds → vs.length = ds.length
  | _, _, .nil => rfl
  | _, _, .cons _ r => by rw [List.length_cons, List.length_cons, r.length]
theorem RepA.append {H : Hp} : ∀ {vs ws : List V} {ds es : List Dt}, RepA H vs ds → RepA H ws es → RepA H (vs ++ ws) (ds ++ es)
  | _, _, _, _, .nil, s => s
  | _, _, _, _, .cons h r, s => .cons h (RepA.append r s)
theorem RepA.get {H : Hp} : ∀ {vs : List V} {ds : List Dt} {i : Nat} {d : Dt}, RepA H vs ds → ds[i]? = some d → ∃ v, vs[i]? = some v ∧ Rep H v d
  | _, _, _, _, .nil, e => by simp at e
  | _, _, 0, _, .cons h _, e => by simp at e; subst e; exact ⟨_, rfl, h⟩
  | _, _, i + 1, _, .cons _ r, e => by
    obtain ⟨v, h1, h2⟩ := RepA.get (i := i) r (by simpa using e)
    exact ⟨v, by simpa using h1, h2⟩
theorem RepA.getV {H : Hp} : ∀ {vs : List V} {ds : List Dt} {i : Nat} {v : V}, RepA H vs ds → vs[i]? = some v → ∃ d, ds[i]? = some d ∧ Rep H v d
  | _, _, _, _, .nil, e => by simp at e
  | _, _, 0, _, .cons h _, e => by simp at e; subst e; exact ⟨_, rfl, h⟩
  | _, _, i + 1, _, .cons _ r, e => by
    obtain ⟨v, h1, h2⟩ := RepA.getV (i := i) r (by simpa using e)
    exact ⟨v, by simpa using h1, h2⟩
theorem RepA.take {H : Hp} : ∀ {vs : List V} {ds : List Dt} (n : Nat), RepA H vs ds → RepA H (vs.take n) (ds.take n)
  | _, _, 0, _ => .nil
  | _, _, _ + 1, .nil => .nil
  | _, _, n + 1, .cons h r => .cons h (RepA.take n r)
theorem RepA.drop {H : Hp} : ∀ {vs : List V} {ds : List Dt} (n : Nat), RepA H vs ds → RepA H (vs.drop n) (ds.drop n)
  | _, _, 0, r => r
  | _, _, _ + 1, .nil => .nil
  | _, _, n + 1, .cons h r => RepA.drop n r
theorem RepA.one {H : Hp} {v : V} {d : Dt} (h : Rep H v d) : RepA H [v] [d] := .cons h .nil

/-! ### texts, numbers, truth values in a row -/
abbrev tx (xs : List Str) : List Dt := xs.map Dt.str
theorem RepA.txs {H : Hp} : ∀ {vs : List V} {xs : List Str}, RepA H vs (tx xs) → vs = xs.map V.str ∧ ∀ x ∈ xs, x.length ≤ Lim
  | _, [], .nil => ⟨rfl, fun _ h => by simp at h⟩
  | _, x :: xs, .cons (.str _ h) r => by
    obtain ⟨e, f⟩ := RepA.txs r
    refine ⟨by rw [e]; rfl, fun y hy => ?_⟩
    rcases List.mem_cons.mp hy with rfl | hy
    · exact h
    · exact f y hy
theorem RepA.ofStrs {H : Hp} : ∀ {xs : List Str}, (∀ x ∈ xs, x.length ≤ Lim) → RepA H (xs.map V.str) (xs.map Dt.str)
  | [], _ => .nil
  | x :: _, h => .cons (.str x (h x List.mem_cons_self)) (RepA.ofStrs fun y hy => h y (List.mem_cons_of_mem _ hy))
theorem RepA.bls {H : Hp} : ∀ {vs : List V} {bs : List Bool}, RepA H vs (bs.map Dt.bl) → vs = bs.map V.bl
  | _, [], .nil => rfl
  | _, _ :: _, .cons (.bl _) r => by rw [RepA.bls r]; rfl

/-! ## Steps of heaps: G the part that stays for good, H the whole; at S the whole may change -/
structure Stp (S : Addr → Prop) (G H G' H' : Hp) : Prop where
  gg : Same G G'
  gh : Same G' H'
  hh : ∀ b o, ¬ S b → H b = some o → H' b = some o
  th : ∀ b, H' b = none → H b = none
  ap : ∀ b o, H b = some o → G b = none → G' b = none ∨ ∃ xs, G' b = some (.tup xs)
abbrev No : Addr → Prop := fun _ => False
abbrev Pu (G H G' H' : Hp) : Prop := Stp No G H G' H'
section
variable {S T : Addr → Prop} {G H G' H' G1 H1 : Hp} {p : Addr} {o : HO}
theorem Stp.refl (h : Same G H) : Stp S G H G H := ⟨Same.refl _, h, fun _ _ _ e => e, fun _ e => e, fun _ _ _ e => .inl e⟩
theorem Stp.lives (s : Stp S G H G' H') {b : Addr} {o : HO} (e : H b = some o) : ∃ u, H' b = some u := by
  cases q : H' b with
  | none => rw [s.th b q] at e; cases e
  | some u => exact ⟨u, rfl⟩
theorem Stp.trans (a : Stp S G H G1 H1) (b : Stp S G1 H1 G' H') : Stp S G H G' H' :=
  ⟨a.gg.trans b.gg, b.gh, fun c o n e => b.hh c o n (a.hh c o n e), fun c e => a.th c (b.th c e), fun c o e n => by
    obtain ⟨u, hu⟩ := a.lives e
    rcases a.ap c o e n with g | ⟨xs, g⟩
    · exact b.ap c u hu g
    · exact .inr ⟨xs, b.gg _ _ g⟩⟩
theorem Stp.mono (a : Stp S G H G' H') (h : ∀ b, S b → T b) : Stp T G H G' H' := ⟨a.gg, a.gh, fun b o n e => a.hh b o (fun z => n (h b z)) e, a.th, a.ap⟩
theorem Stp.of (a : Pu G H G' H') : Stp S G H G' H' := a.mono fun _ z => z.elim
theorem Stp.ap' (a : Stp S G H G' H') {b : Addr} (e : H b = some o) (n : ¬ S b) (ho : ∀ xs, o ≠ .tup xs) (g : G b = none) : G' b = none := by
  rcases a.ap b o e g with h | ⟨xs, h⟩
  · exact h
  · have h1 := a.gh _ _ h
    rw [a.hh b o n e] at h1
    exact absurd (Option.some.inj h1) (ho xs)
theorem Pu.hs (a : Pu G H G' H') : Same H H' := fun b o e => a.hh b o (fun z => z) e
/-- a new object that stays for good -/
theorem Pu.new (h : Same G H) (n : H p = none) : Pu G H (upd G p o) (upd H p o) := by
  have ng : G p = none := h.free n
  refine ⟨fun b u e => by rw [upd_ne (ne_of_none e ng)]; exact e, fun b u e => ?_, fun b u _ e => by rw [upd_ne (ne_of_none e n)]; exact e, fun b e => ?_, fun b u e g => .inl (by rw [upd_ne (ne_of_none e n)]; exact g)⟩
  · by_cases hb : b = p
    · subst hb; rw [upd_same] at e; rw [upd_same]; exact e
    · rw [upd_ne hb] at e; rw [upd_ne hb]; exact h b u e
  · by_cases hb : b = p
    · subst hb; exact n
    · rw [upd_ne hb] at e; exact e
/-- a new object that may change -/
theorem Pu.newM (h : Same G H) (n : H p = none) : Pu G H G (upd H p o) :=
  ⟨Same.refl _, fun b u e => by rw [upd_ne (ne_of_none (h b u e) n)]; exact h b u e, fun b u _ e => by rw [upd_ne (ne_of_none e n)]; exact e, fun b e => by
    by_cases hb : b = p
    · subst hb; exact n
    · rw [upd_ne hb] at e; exact e, fun _ _ _ g => .inl g⟩
/-- what is new since (G, H) may be taken to stay for good -/
theorem Stp.seal (a : Stp S G H G' H') (h : Same G H) (n : H p = none) (e : H' p = some o) : Stp S G H (upd G' p o) H' := by
  have ng : G p = none := h.free n
  refine ⟨fun b u q => by rw [upd_ne (ne_of_none q ng)]; exact a.gg b u q, fun b u q => ?_, a.hh, a.th, fun b u q g => by rw [upd_ne (ne_of_none q n)]; exact a.ap b u q g⟩
  by_cases hb : b = p
  · subst hb; rw [upd_same] at q; rw [e]; exact q
  · rw [upd_ne hb] at q; exact a.gh b u q
/-- a changed object: at S, or new since (G, H); not one that stays for good -/
theorem Stp.write (a : Stp S G H G' H') (hp : S p ∨ H p = none) (n : G' p = none) : Stp S G H G' (upd H' p o) :=
  ⟨a.gg, fun b u q => by rw [upd_ne (ne_of_none q n)]; exact a.gh b u q, fun b u ns q => by
    have hb : b ≠ p := by
      rintro rfl
      rcases hp with z | z
      · exact ns z
      · rw [z] at q; cases q
    rw [upd_ne hb]; exact a.hh b u ns q, fun b q => by
    by_cases hb : b = p
    · subst hb; rw [upd_same] at q; cases q
    · rw [upd_ne hb] at q; exact a.th b q, a.ap⟩
end

/-! ## Contexts: what is known of (G, H), kept by pure steps -/
structure Cok (C : Hp → Hp → Prop) : Prop where
  sub : ∀ {G H}, C G H → Same G H
  stp : ∀ {G H G' H'}, C G H → Pu G H G' H' → C G' H'
/-- the ground of a def's body -/
def Bs (S : Addr → Prop) (G0 H0 : Hp) : Hp → Hp → Prop := fun G H => Stp S G0 H0 G H
theorem Bs.ok {S : Addr → Prop} {G0 H0 : Hp} : Cok (Bs S G0 H0) := ⟨fun c => c.gh, fun c p => c.trans (Stp.of p)⟩
/-- .. with what stood at G1 -/
def Over (C : Hp → Hp → Prop) (G1 : Hp) : Hp → Hp → Prop := fun G H => C G H ∧ Same G1 G
theorem Over.ok {C : Hp → Hp → Prop} {G1 : Hp} (h : Cok C) : Cok (Over C G1) := ⟨fun c => h.sub c.1, fun c p => ⟨h.stp c.1 p, c.2.trans p.gg⟩⟩
/-- .. behind a pure run from (G1, H1) -/
def From (C : Hp → Hp → Prop) (G1 H1 : Hp) : Hp → Hp → Prop := fun G H => C G H ∧ Pu G1 H1 G H
theorem From.ok {C : Hp → Hp → Prop} {G1 H1 : Hp} (h : Cok C) : Cok (From C G1 H1) := ⟨fun c => h.sub c.1, fun c p => ⟨h.stp c.1 p, c.2.trans p⟩⟩

/-! ## Slots by their data -/
inductive Slots (G : Hp) : St → List (Option Dt) → Prop
  | nil : Slots G [] []
  | any {ov : Option V} {σ : St} {ds : List (Option Dt)} (r : Slots G σ ds) : Slots G (ov :: σ) (none :: ds)
  | val {v : V} {d : Dt} {σ : St} {ds : List (Option Dt)} (h : Rep G v d) (r : Slots G σ ds) : Slots G (some v :: σ) (some d :: ds)
section
variable {G G' : Hp} {σ : St} {ds : List (Option Dt)} {v : V} {d : Dt}
theorem Slots.mono (e : Same G G') : ∀ {σ : St} {ds : List (Option Dt)}, Slots G σ ds → Slots G' σ ds
  | _, _, .nil => .nil
  | _, _, .any r => .any (Slots.mono e r)
  | _, _, .val h r => .val (h.mono e) (Slots.mono e r)
theorem Slots.get : ∀ {σ : St} {ds : List (Option Dt)} {i : Nat} {d : Dt}, Slots G σ ds → ds[i]? = some (some d) → ∃ v, σ[i]? = some (some v) ∧ Rep G v d
  | _, _, _, _, .nil, e => by simp at e
  | _, _, 0, _, .any _, e => by simp at e
  | _, _, 0, _, .val h _, e => by simp at e; subst e; exact ⟨_, rfl, h⟩
  | _, _, i + 1, _, .any r, e => by
    obtain ⟨v, h1, h2⟩ := Slots.get (i := i) r (by simpa using e)
    exact ⟨v, by simpa using h1, h2⟩
  | _, _, i + 1, _, .val _ r, e => by
    obtain ⟨v, h1, h2⟩ := Slots.get (i := i) r (by simpa using e)
    exact ⟨v, by simpa using h1, h2⟩
theorem Slots.set (h : Rep G v d) : ∀ {σ : St} {ds : List (Option Dt)} (i : Nat), Slots G σ ds → Slots G (σ.set i (some v)) (ds.set i (some d))
  | _, _, _, .nil => .nil
  | _, _, 0, .any r => .val h r
  | _, _, 0, .val _ r => .val h r
  | _, _, i + 1, .any r => .any (Slots.set h i r)
  | _, _, i + 1, .val q r => .val q (Slots.set h i r)
theorem Slots.drop : ∀ {σ : St} {ds : List (Option Dt)} (i : Nat) (ov : Option V), Slots G σ ds → Slots G (σ.set i ov) (ds.set i none)
  | _, _, _, _, .nil => .nil
  | _, _, 0, _, .any r => .any r
  | _, _, 0, _, .val _ r => .any r
  | _, _, i + 1, ov, .any r => .any (Slots.drop i ov r)
  | _, _, i + 1, ov, .val q r => .val q (Slots.drop i ov r)
/-- less is known -/
inductive Less : List (Option Dt) → List (Option Dt) → Prop
  | nil : Less [] []
  | keep {o : Option Dt} {a b : List (Option Dt)} (h : Less a b) : Less (o :: a) (o :: b)
  | gone {o : Option Dt} {a b : List (Option Dt)} (h : Less a b) : Less (o :: a) (none :: b)
theorem Less.refl : ∀ a : List (Option Dt), Less a a
  | [] => .nil
  | _ :: r => .keep (Less.refl r)
theorem Slots.less : ∀ {σ : St} {a b : List (Option Dt)}, Slots G σ a → Less a b → Slots G σ b
  | _, _, _, .nil, .nil => .nil
  | _, _, _, .any r, .keep h => .any (Slots.less r h)
  | _, _, _, .any r, .gone h => .any (Slots.less r h)
  | _, _, _, .val q r, .keep h => .val q (Slots.less r h)
  | _, _, _, .val _ r, .gone h => .any (Slots.less r h)
def wipeD (ds : List (Option Dt)) : List Nat → List (Option Dt)
  | [] => ds
  | v :: vs => (wipeD ds vs).set v none
theorem Slots.wipe : ∀ (vs : List Nat), Slots G σ ds → Slots G (L2.wipe σ vs) (wipeD ds vs)
  | [], h => h
  | v :: vs, h => (Slots.wipe vs h).drop v none
theorem Slots.args : ∀ {vs : List V} {ds : List Dt}, RepA G vs ds → ∀ k : Nat, Slots G (vs.map some ++ List.replicate k none) (ds.map some ++ List.replicate k none)
  | _, _, .nil, 0 => .nil
  | _, _, .nil, k + 1 => .any (Slots.args .nil k)
  | _, _, .cons h r, k => .val h (Slots.args r k)
theorem Slots.length : ∀ {σ : St} {ds : List (Option Dt)}, Slots G σ ds → σ.length = ds.length
  | _, _, .nil => rfl
  | _, _, .any r => by rw [List.length_cons, List.length_cons, r.length]
  | _, _, .val _ r => by rw [List.length_cons, List.length_cons, r.length]
end
theorem wipe_set {σ : St} {j : Nat} {x : Option V} : ∀ {vs : List Nat}, j ∈ vs → L2.wipe (σ.set j x) vs = L2.wipe σ vs := by
  intro vs hj
  apply List.ext_getElem?
  intro i
  have key : ∀ (vs : List Nat) (σ : St) (i : Nat), (L2.wipe σ vs)[i]? = if i ∈ vs then (σ[i]?).map (fun _ => none) else σ[i]? := by
    intro vs
    induction vs with
    | nil => intro σ i; simp [L2.wipe]
    | cons v vs ih =>
      intro σ i
      show ((L2.wipe σ vs).set v none)[i]? = _
      rw [List.getElem?_set]
      by_cases hv : v = i
      · subst hv
        rw [if_pos rfl, L2.wipe_length]
        by_cases hl : v < σ.length
        · rw [if_pos hl]; simp [List.getElem?_eq_getElem hl]
        · rw [if_neg hl]; simp [List.getElem?_eq_none (Nat.le_of_not_lt hl)]
      · rw [if_neg hv, ih]
        have e : (i ∈ v :: vs) = (i ∈ vs) := by
          apply propext; constructor
          · intro h; rcases List.mem_cons.mp h with h | h
            · exact absurd h.symm hv
            · exact h
          · exact fun h => List.mem_cons_of_mem _ h
        simp only [e]
  rw [key, key]
  by_cases hi : i ∈ vs
  · rw [if_pos hi, if_pos hi, List.getElem?_set]
    by_cases e : j = i
    · subst e
      rw [if_pos rfl]
      by_cases hl : j < σ.length
      · rw [if_pos hl]; simp [List.getElem?_eq_getElem hl]
      · rw [if_neg hl]; simp [List.getElem?_eq_none (Nat.le_of_not_lt hl)]
    · rw [if_neg e]
  · rw [if_neg hi, if_neg hi, List.getElem?_set]
    have e : j ≠ i := fun e => hi (e ▸ hj)
    rw [if_neg e]
theorem wipe_wipe {σ : St} : ∀ (vs : List Nat), L2.wipe (L2.wipe σ vs) vs = L2.wipe σ vs := by
  intro vs
  have h : ∀ (ws : List Nat), (∀ w ∈ ws, w ∈ vs) → L2.wipe (L2.wipe σ ws) vs = L2.wipe σ vs := by
    intro ws
    induction ws with
    | nil => intro _; rfl
    | cons w ws ih =>
      intro hw
      show L2.wipe ((L2.wipe σ ws).set w none) vs = _
      rw [wipe_set (hw w List.mem_cons_self)]
      exact ih fun z hz => hw z (List.mem_cons_of_mem _ hz)
  exact h vs fun _ h => h
end Kx

namespace Kx
open PySem L2

/-! ## Judgements: what an expression, an argument list, a test comes to -/
def EvD (te : TE) (C : Hp → Hp → Prop) (ds : List (Option Dt)) (d : Dt) : Prop :=
  ∀ G σ H, C G H → Slots G σ ds → ∀ Q : VK, (∀ v G' H', Pu G H G' H' → Rep G' v d → Q v H') → te σ H Q
def EvA (ta : TA) (C : Hp → Hp → Prop) (ds : List (Option Dt)) (as : List Dt) : Prop :=
  ∀ G σ H, C G H → Slots G σ ds → ∀ Q : List V → Hp → Prop, (∀ vs G' H', Pu G H G' H' → RepA G' vs as → Q vs H') → ta σ H Q
def EvT (tt : TT) (C : Hp → Hp → Prop) (ds : List (Option Dt)) (b : Bool) : Prop :=
  ∀ G σ H, C G H → Slots G σ ds → ∀ Q : Bool → Hp → Prop, (∀ G' H', Pu G H G' H' → Q b H') → tt σ H Q
/-- a new list -/
def EvN (te : TE) (C : Hp → Hp → Prop) (ds : List (Option Dt)) (xs : List Dt) : Prop :=
  ∀ G σ H, C G H → Slots G σ ds → ∀ Q : VK, (∀ p vs G' H', Pu G H G' H' → H p = none → G' p = none → H' p = some (.lst vs) → RepA G' vs xs → Q (.ref p) H') → te σ H Q
/-- what is told of a part of a slice -/
def EvO (to : TO) (C : Hp → Hp → Prop) (ds : List (Option Dt)) (o : Option Int) : Prop :=
  ∀ G σ H, C G H → Slots G σ ds → ∀ Q : Option Int → Hp → Prop, (∀ G' H', Pu G H G' H' → Q o H') → to σ H Q
/-- an operation on values -/
def RV (r : R2) (C : Hp → Hp → Prop) (a b c : Dt) : Prop :=
  ∀ G H x y, C G H → Rep G x a → Rep G y b → ∀ Q : VK, (∀ v G' H', Pu G H G' H' → Rep G' v c → Q v H') → r x y H Q
def RN (r : R2) (C : Hp → Hp → Prop) (a b : Dt) (xs : List Dt) : Prop :=
  ∀ G H x y, C G H → Rep G x a → Rep G y b → ∀ Q : VK, (∀ p vs G' H', Pu G H G' H' → H p = none → G' p = none → H' p = some (.lst vs) → RepA G' vs xs → Q (.ref p) H') → r x y H Q
/-- a call on values, of data -/
def RC (r : List V → Hp → VK → Prop) (C : Hp → Hp → Prop) (as : List Dt) (c : Dt) : Prop :=
  ∀ G H vs, C G H → RepA G vs as → ∀ Q : VK, (∀ v G' H', Pu G H G' H' → Rep G' v c → Q v H') → r vs H Q
/-- a method's -/
def RM (r : V → List V → Hp → VK → Prop) (C : Hp → Hp → Prop) (a : Dt) (as : List Dt) (c : Dt) : Prop :=
  ∀ G H x vs, C G H → Rep G x a → RepA G vs as → ∀ Q : VK, (∀ v G' H', Pu G H G' H' → Rep G' v c → Q v H') → r x vs H Q

section
variable {C : Hp → Hp → Prop} {ds : List (Option Dt)} {K : PySem.W.Frag} {ta tb tc te : TE} {tl : TA} {t u : TT} {a b c d : Dt} {xs ys : List Dt}
theorem Pu.r {G H : Hp} (ok : Cok C) (c : C G H) : Pu G H G H := Stp.refl (ok.sub c)
/-- a new list is a list -/
theorem EvN.ev (ok : Cok C) (h : EvN te C ds xs) : EvD te C ds (.lst xs) := fun G σ H c s Q q =>
  h G σ H c s Q fun p vs G' H' pu n ng e r => q _ (upd G' p (.lst vs)) H' (pu.seal (ok.sub c) n e) (.lst upd_same (r.mono fun b o z => by rw [upd_ne (ne_of_none z ng)]; exact z))
theorem EvD.is (h : EvD te C ds a) (e : a = b) : EvD te C ds b := e ▸ h
theorem EvT.is {p q : Bool} (h : EvT t C ds p) (e : p = q) : EvT t C ds q := e ▸ h

/-! ### names, constants -/
theorem ev_var {i : Nat} (ok : Cok C) (h : ds[i]? = some (some d)) : EvD (tVar i) C ds d := fun G σ H c s Q q => by
  obtain ⟨v, e, r⟩ := s.get h
  exact ⟨v, e, q v G H (Pu.r ok c) r⟩
theorem ev_int {i : Int} (ok : Cok C) : EvD (tC (.int i)) C ds (.int i) := fun G σ H c _ Q q => q _ G H (Pu.r ok c) (.int i)
theorem ev_bl {i : Bool} (ok : Cok C) : EvD (tC (.bl i)) C ds (.bl i) := fun G σ H c _ Q q => q _ G H (Pu.r ok c) (.bl i)
theorem ev_non (ok : Cok C) : EvD (tC .non) C ds .non := fun G σ H c _ Q q => q _ G H (Pu.r ok c) .non
theorem ev_str {x : Str} (ok : Cok C) (h : x.length ≤ Lim := by decide +kernel) : EvD (tC (.str x)) C ds (.str x) := fun G σ H c _ Q q => q _ G H (Pu.r ok c) (.str x h)
theorem ev_ref {p : Addr} (ok : Cok C) : EvD (tC (.ref p)) C ds (.obj p) := fun G σ H c _ Q q => q _ G H (Pu.r ok c) (.obj p)

/-! ### arguments -/
theorem ea_nil (ok : Cok C) : EvA tNil C ds [] := fun G σ H c _ Q q => q [] G H (Pu.r ok c) .nil
theorem ea_cons (ok : Cok C) (ha : EvD ta C ds a) (hr : EvA tl C ds xs) : EvA (tCons ta tl) C ds (a :: xs) := fun G σ H c s Q q =>
  ha G σ H c s _ fun v G1 H1 p1 r1 => hr G1 σ H1 (ok.stp c p1) (s.mono p1.gg) _ fun vs G2 H2 p2 r2 => q _ G2 H2 (p1.trans p2) (.cons (r1.mono p2.gg) r2)
theorem en_lst (ok : Cok C) (h : EvA tl C ds xs) (hl : xs.length ≤ Lim := by decide) : EvN (tLst tl) C ds xs := fun G σ H c s Q q =>
  h G σ H c s _ fun vs G1 H1 p1 r1 => ⟨by rw [r1.length]; exact lim_line hl, fun p hp => q p vs G1 _ (p1.trans (Pu.newM p1.gh hp)) (p1.th p hp) (p1.gh.free hp) upd_same r1⟩
theorem ev_lst (ok : Cok C) (h : EvA tl C ds xs) (hl : xs.length ≤ Lim := by decide) : EvD (tLst tl) C ds (.lst xs) := (en_lst ok h hl).ev ok
theorem ev_tup (ok : Cok C) (h : EvA tl C ds xs) (hl : xs.length ≤ Lim := by decide) : EvD (tTup tl) C ds (.tup xs) := fun G σ H c s Q q =>
  h G σ H c s _ fun vs G1 H1 p1 r1 => ⟨by rw [r1.length]; exact lim_line hl, fun p hp => by
    have p2 : Pu G1 H1 (upd G1 p (.tup vs)) (upd H1 p (.tup vs)) := Pu.new p1.gh hp
    exact q _ _ _ (p1.trans p2) (.tup upd_same (r1.mono p2.gg))⟩

/-! ### operators -/
theorem ev_op {r : R2} (ok : Cok C) (ha : EvD ta C ds a) (hb : EvD tb C ds b) (hr : RV r C a b c) : EvD (tOp r ta tb) C ds c := fun G σ H k s Q q =>
  ha G σ H k s _ fun x G1 H1 p1 r1 => hb G1 σ H1 (ok.stp k p1) (s.mono p1.gg) _ fun y G2 H2 p2 r2 =>
    hr G2 H2 x y (ok.stp k (p1.trans p2)) (r1.mono p2.gg) r2 Q fun v G3 H3 p3 r3 => q v G3 H3 ((p1.trans p2).trans p3) r3
theorem en_op {r : R2} (ok : Cok C) (ha : EvD ta C ds a) (hb : EvD tb C ds b) (hr : RN r C a b xs) : EvN (tOp r ta tb) C ds xs := fun G σ H k s Q q =>
  ha G σ H k s _ fun x G1 H1 p1 r1 => hb G1 σ H1 (ok.stp k p1) (s.mono p1.gg) _ fun y G2 H2 p2 r2 =>
    hr G2 H2 x y (ok.stp k (p1.trans p2)) (r1.mono p2.gg) r2 Q fun p vs G3 H3 p3 n ng e r3 => q p vs G3 H3 ((p1.trans p2).trans p3) ((p1.trans p2).th p n) ng e r3
theorem ev_un {g : Int → V} {i j : Int} (ok : Cok C) (ha : EvD ta C ds (.int i)) (hg : g i = .int j) : EvD (tUn (rU g) ta) C ds (.int j) := fun G σ H k s Q q =>
  ha G σ H k s _ fun x G1 H1 p1 r1 => by
    cases r1
    exact ⟨i, rfl, by rw [hg]; exact q _ G1 H1 p1 (.int j)⟩
theorem rv_int {g : Int → Int → Int} {i j : Int} (ok : Cok C) : RV (rI0 fun i j => .int (g i j)) C (.int i) (.int j) (.int (g i j)) := fun G H x y k r1 r2 Q q => by
  cases r1; cases r2
  exact ⟨i, j, rfl, rfl, q _ G H (Pu.r ok k) (.int _)⟩
theorem rv_intC {P : Int → Int → Prop} {g : Int → Int → Int} {i j : Int} (ok : Cok C) (h : P i j) : RV (rI P fun i j => .int (g i j)) C (.int i) (.int j) (.int (g i j)) := fun G H x y k r1 r2 Q q => by
  cases r1; cases r2
  exact ⟨i, j, rfl, rfl, h, q _ G H (Pu.r ok k) (.int _)⟩
theorem rv_cmp {g : Int → Int → Bool} {i j : Int} (ok : Cok C) : RV (rI0 fun i j => .bl (g i j)) C (.int i) (.int j) (.bl (g i j)) := fun G H x y k r1 r2 Q q => by
  cases r1; cases r2
  exact ⟨i, j, rfl, rfl, q _ G H (Pu.r ok k) (.bl _)⟩
/-- == and != of texts, numbers, truth values, None -/
def eqF : Dt → Dt → Option Bool
  | .non, .non => some true | .non, .int _ => some false | .int _, .non => some false | .non, .bl _ => some false | .bl _, .non => some false | .non, .str _ => some false | .str _, .non => some false
  | .int i, .int j => some (decide (i = j)) | .bl i, .bl j => some (decide (i = j)) | .str i, .str j => some (decide (i = j))
  | _, _ => none
theorem eqF_ok {G : Hp} {x y : V} {a b : Dt} {p : Bool} (h : eqF a b = some p) (r1 : Rep G x a) (r2 : Rep G y b) : scal x y = true ∧ decide (x = y) = p := by
  cases r1 <;> cases r2 <;> first
    | (cases h; refine ⟨rfl, ?_⟩; simp)
    | (cases h; exact ⟨rfl, rfl⟩)
    | (exact absurd h (by simp [eqF]))
theorem rv_eq {p : Bool} (ok : Cok C) (h : eqF a b = some p) : RV rEq C a b (.bl p) := fun G H x y k r1 r2 Q q => by
  obtain ⟨h1, h2⟩ := eqF_ok h r1 r2
  exact ⟨h1, by rw [h2]; exact q _ G H (Pu.r ok k) (.bl _)⟩
theorem rv_ne {p : Bool} (ok : Cok C) (h : eqF a b = some p) : RV rNe C a b (.bl (!p)) := fun G H x y k r1 r2 Q q => by
  obtain ⟨h1, h2⟩ := eqF_ok h r1 r2
  exact ⟨h1, by rw [h2]; exact q _ G H (Pu.r ok k) (.bl _)⟩
/-- text + text -/
def rAddT : R2 := fun x y H Q => ∃ i j, x = .str i ∧ y = .str j ∧ i.length + j.length ≤ sizeLine ∧ Q (.str (i ++ j)) H
theorem op_addT {X : Cx} : OpR X (binaryOp .Add) rAddT := op_add_str
theorem len_app (x y : Str) : (x ++ y).length = x.length + y.length := by
  rw [TL.len_tl, TL.tl_append, List.length_append, ← TL.len_tl, ← TL.len_tl]
theorem rv_addT {x y : Str} (ok : Cok C) (h : x.length + y.length ≤ Lim) : RV rAddT C (.str x) (.str y) (.str (x ++ y)) := fun G H v w k r1 r2 Q q => by
  cases r1; cases r2
  exact ⟨x, y, rfl, rfl, lim_line h, q _ G H (Pu.r ok k) (.str _ (by rw [len_app]; exact h))⟩
/-- list + list -/
theorem rn_cat (ok : Cok C) (h : xs.length + ys.length ≤ Lim) : RN rCat C (.lst xs) (.lst ys) (xs ++ ys) := fun G H v w k r1 r2 Q q => by
  cases r1 with
  | lst h1 q1 =>
    cases r2 with
    | lst h2 q2 =>
      have sub := ok.sub k
      exact ⟨_, _, _, _, rfl, rfl, sub _ _ h1, sub _ _ h2, by rw [q1.length, q2.length]; exact lim_line h, fun p hp => q p _ G _ (Pu.newM sub hp) hp (sub.free hp) upd_same (q1.append q2)⟩
/-- tuple + tuple -/
theorem rv_catT (ok : Cok C) (hn : xs ≠ []) (hm : ys ≠ []) (h : xs.length + ys.length ≤ Lim) : RV (rCatT K) C (.tup xs) (.tup ys) (.tup (xs ++ ys)) := fun G H v w k r1 r2 Q q => by
  cases r1 with
  | tup h1 q1 =>
    cases r2 with
    | tup h2 q2 =>
      have sub := ok.sub k
      refine ⟨_, _, _, _, rfl, rfl, SqT.of (sub _ _ h1), SqT.of (sub _ _ h2), ?_, by rw [q1.length, q2.length]; exact lim_line h, ?_⟩
      · intro e; subst e; cases q1; exact hn rfl
      · have key : ∀ p, H p = none → Q (.ref p) (upd H p (.tup (_ ++ _))) := fun p hp => q (.ref p) _ _ (Pu.new sub hp) (.tup upd_same ((q1.append q2).mono (Pu.new sub hp).gg))
        first
          | exact key
          | (refine ⟨fun e => ?_, fun _ => key⟩; subst e; cases q2; exact absurd rfl hm)
/-! ### an item -/
def atD (xs : List Dt) (i : Int) : Option Dt := atI xs i
theorem atI_rep {G : Hp} {vs : List V} {xs : List Dt} {i : Int} {d : Dt} (r : RepA G vs xs) (h : atI xs i = some d) : ∃ v, atI vs i = some v ∧ Rep G v d := by
  unfold atI at h ⊢
  rw [r.length]
  cases e : ixN xs.length i with
  | none => rw [e] at h; cases h
  | some j =>
    rw [e] at h
    exact r.get h
theorem rv_ixL {i : Int} (ok : Cok C) (h : atI xs i = some d) : RV (rIxL K) C (.lst xs) (.int i) d := fun G H v w k r1 r2 Q q => by
  cases r1 with
  | lst h1 q1 =>
    cases r2
    obtain ⟨v, e, r⟩ := atI_rep q1 h
    exact ⟨_, _, i, v, rfl, rfl, SqL.of (ok.sub k _ _ h1), e, q v G H (Pu.r ok k) r⟩
theorem rv_ixT {i : Int} (ok : Cok C) (h : atI xs i = some d) : RV (rIxT K) C (.tup xs) (.int i) d := fun G H v w k r1 r2 Q q => by
  cases r1 with
  | tup h1 q1 =>
    cases r2
    obtain ⟨v, e, r⟩ := atI_rep q1 h
    exact ⟨_, _, i, v, rfl, rfl, SqT.of (ok.sub k _ _ h1), e, q v G H (Pu.r ok k) r⟩
theorem rv_ixS {x : Str} {i : Int} {n : Nat} (ok : Cok C) (h : atI x.cps.toList i = some n) : RV rIxS C (.str x) (.int i) (.str ⟨#[n]⟩) := fun G H v w k r1 r2 Q q => by
  cases r1 with
  | str _ hx =>
    cases r2
    exact ⟨x, i, n, rfl, rfl, lim_line hx, h, q _ G H (Pu.r ok k) (.str _ (by show 1 ≤ Lim; decide))⟩
/-! ### in -/
def flatD : Dt → Bool
  | .non => true | .bl _ => true | .int _ => true | .str _ => true | _ => false
/-- == of flat data -/
def eqD : Dt → Dt → Bool
  | .non, .non => true
  | .bl a, .bl b => a == b
  | .bl a, .int b => (if a then 1 else 0) == b
  | .int a, .bl b => a == (if b then 1 else 0)
  | .int a, .int b => a == b
  | .str a, .str b => a == b
  | _, _ => false
theorem flat_rep {G : Hp} {x : V} {a : Dt} (r : Rep G x a) (h : flatD a = true) : flatV x = true := by
  cases r <;> first | rfl | (exact absurd h (by simp [flatD]))
theorem eqV_rep {G : Hp} {x y : V} {a b : Dt} (r1 : Rep G x a) (r2 : Rep G y b) (h1 : flatD a = true) (h2 : flatD b = true) : eqV x y = eqD a b := by
  cases r1 <;> first
    | (cases r2 <;> first | rfl | (exact absurd h2 (by simp [flatD])))
    | (exact absurd h1 (by simp [flatD]))
theorem flatA_rep {G : Hp} : ∀ {vs : List V} {xs : List Dt}, RepA G vs xs → xs.all flatD = true → vs.all flatV = true
  | _, _, .nil, _ => rfl
  | _, _, .cons h r, e => by
    rw [List.all_cons, Bool.and_eq_true] at e
    rw [List.all_cons, flat_rep h e.1, flatA_rep r e.2]; rfl
theorem inV_rep {G : Hp} {x : V} {a : Dt} (r : Rep G x a) (f : flatD a = true) : ∀ {vs : List V} {xs : List Dt}, RepA G vs xs → xs.all flatD = true → inV x vs = xs.any fun y => eqD y a
  | _, _, .nil, _ => rfl
  | _, _, .cons h q, e => by
    rw [List.all_cons, Bool.and_eq_true] at e
    show (eqV _ x || inV x _) = _
    rw [List.any_cons, eqV_rep h r e.1 f, inV_rep r f q e.2]
theorem rv_in {neg : Bool} (ok : Cok C) (f : flatD a = true) (g : xs.all flatD = true) (hb : b = .lst xs ∨ b = .tup xs) : RV (rIn K neg) C a b (.bl (if neg then !(xs.any fun y => eqD y a) else xs.any fun y => eqD y a)) := fun G H v w k r1 r2 Q q => by
  have key : ∀ vs, RepA G vs xs → (∀ z, Q (.bl (if neg then !inV v vs else inV v vs)) z = Q (.bl (if neg then !(xs.any fun y => eqD y a) else xs.any fun y => eqD y a)) z) := fun vs r z => by rw [inV_rep r1 f r g]
  rcases hb with rfl | rfl
  · cases r2 with
    | lst h2 q2 => exact ⟨_, _, rfl, .inl (SqL.of (ok.sub k _ _ h2)), flat_rep r1 f, flatA_rep q2 g, by rw [key _ q2]; exact q _ G H (Pu.r ok k) (.bl _)⟩
  · cases r2 with
    | tup h2 q2 => exact ⟨_, _, rfl, .inr (SqT.of (ok.sub k _ _ h2)), flat_rep r1 f, flatA_rep q2 g, by rw [key _ q2]; exact q _ G H (Pu.r ok k) (.bl _)⟩
/-- a text in a row of texts -/
theorem any_tx (x : Str) : ∀ l : List Str, ((tx l).any fun y => eqD y (.str x)) = decide (x ∈ l)
  | [] => by simp
  | y :: l => by
    show ((y == x) || (tx l).any fun y => eqD y (.str x)) = _
    rw [any_tx x l, Bool.eq_iff_iff]
    simp only [Bool.or_eq_true, beq_iff_eq, decide_eq_true_eq, List.mem_cons]
    constructor
    · rintro (h | h)
      · exact .inl h.symm
      · exact .inr h
    · rintro (h | h)
      · exact .inl h.symm
      · exact .inr h
theorem flat_tx : ∀ l : List Str, (tx l).all flatD = true
  | [] => rfl
  | _ :: l => flat_tx l
theorem rv_inT {x : Str} {l : List Str} (ok : Cok C) (hb : b = .lst (tx l) ∨ b = .tup (tx l)) : RV (rIn K false) C (.str x) b (.bl (decide (x ∈ l))) := by
  have h := rv_in (neg := false) (K := K) (a := .str x) ok rfl (flat_tx l) hb
  rw [any_tx] at h
  exact h
theorem rv_niT {x : Str} {l : List Str} (ok : Cok C) (hb : b = .lst (tx l) ∨ b = .tup (tx l)) : RV (rIn K true) C (.str x) b (.bl (!decide (x ∈ l))) := by
  have h := rv_in (neg := true) (K := K) (a := .str x) ok rfl (flat_tx l) hb
  rw [any_tx] at h
  exact h

/-! ### chains, and, or, not, if -/
theorem ev_chain {r r' : R2} {p q : Bool} (ok : Cok C) (ha : EvD ta C ds a) (hb : EvD tb C ds b) (hc : EvD tc C ds c) (h1 : RV r C a b (.bl p)) (h2 : RV r' C b c (.bl q)) : EvD (tChain r r' ta tb tc) C ds (.bl (p && q)) := fun G σ H k s Q z =>
  ha G σ H k s _ fun x G1 H1 p1 r1 => hb G1 σ H1 (ok.stp k p1) (s.mono p1.gg) _ fun y G2 H2 p2 r2 =>
    h1 G2 H2 x y (ok.stp k (p1.trans p2)) (r1.mono p2.gg) r2 _ fun v G3 H3 p3 r3 => by
      cases r3
      refine ⟨p, rfl, ?_⟩
      have p13 := (p1.trans p2).trans p3
      cases p with
      | true =>
        rw [if_pos rfl]
        exact hc G3 σ H3 (ok.stp k p13) (s.mono p13.gg) _ fun w G4 H4 p4 r4 => h2 G4 H4 y w (ok.stp k (p13.trans p4)) (r2.mono (p3.trans p4).gg) r4 Q fun v G5 H5 p5 r5 => z v G5 H5 ((p13.trans p4).trans p5) r5
      | false =>
        rw [if_neg Bool.false_ne_true]
        exact z _ G3 H3 p13 (.bl _)
theorem ev_andV {p q : Bool} (ok : Cok C) (ha : EvD ta C ds (.bl p)) (hb : p = true → EvD tb C ds (.bl q)) : EvD (tAndV ta tb) C ds (.bl (p && q)) := fun G σ H k s Q z =>
  ha G σ H k s _ fun x G1 H1 p1 r1 => by
    cases r1
    refine ⟨p, rfl, ?_⟩
    cases p with
    | true => rw [if_pos rfl]; exact hb rfl G1 σ H1 (ok.stp k p1) (s.mono p1.gg) Q fun v G2 H2 p2 r2 => z v G2 H2 (p1.trans p2) r2
    | false => rw [if_neg Bool.false_ne_true]; exact z _ G1 H1 p1 (.bl _)
theorem ev_orV {p q : Bool} (ok : Cok C) (ha : EvD ta C ds (.bl p)) (hb : p = false → EvD tb C ds (.bl q)) : EvD (tOrV ta tb) C ds (.bl (p || q)) := fun G σ H k s Q z =>
  ha G σ H k s _ fun x G1 H1 p1 r1 => by
    cases r1
    refine ⟨p, rfl, ?_⟩
    cases p with
    | false => rw [if_neg Bool.false_ne_true]; exact hb rfl G1 σ H1 (ok.stp k p1) (s.mono p1.gg) Q fun v G2 H2 p2 r2 => z v G2 H2 (p1.trans p2) r2
    | true => rw [if_pos rfl]; exact z _ G1 H1 p1 (.bl _)
theorem ev_notV {p : Bool} (ok : Cok C) (ha : EvD ta C ds (.bl p)) : EvD (tNotV ta) C ds (.bl (!p)) := fun G σ H k s Q z =>
  ha G σ H k s _ fun x G1 H1 p1 r1 => by
    cases r1
    exact ⟨p, rfl, z _ G1 H1 p1 (.bl _)⟩
theorem ev_if {p : Bool} (ok : Cok C) (hc : EvT t C ds p) (ha : p = true → EvD ta C ds d) (hb : p = false → EvD tb C ds d) : EvD (tIf t ta tb) C ds d := fun G σ H k s Q z =>
  hc G σ H k s _ fun G1 H1 p1 => by
    cases p with
    | true => rw [if_pos rfl]; exact ha rfl G1 σ H1 (ok.stp k p1) (s.mono p1.gg) Q fun v G2 H2 p2 r2 => z v G2 H2 (p1.trans p2) r2
    | false => rw [if_neg Bool.false_ne_true]; exact hb rfl G1 σ H1 (ok.stp k p1) (s.mono p1.gg) Q fun v G2 H2 p2 r2 => z v G2 H2 (p1.trans p2) r2
/-! ### tests -/
theorem et_test {p : Bool} (ha : EvD te C ds (.bl p)) : EvT (tTest te) C ds p := fun G σ H k s Q z => ha G σ H k s _ fun x G1 H1 p1 r1 => by
  cases r1
  exact ⟨p, rfl, z G1 H1 p1⟩
theorem et_B {p : Bool} (ha : EvD te C ds (.bl p)) : EvT (tB te) C ds p := fun G σ H k s Q z => ha G σ H k s _ fun x G1 H1 p1 r1 => by
  cases r1
  exact ⟨p, rfl, z G1 H1 p1⟩
theorem et_and {p q : Bool} (ok : Cok C) (ha : EvT t C ds p) (hb : p = true → EvT u C ds q) : EvT (tAnd t u) C ds (p && q) := fun G σ H k s Q z => ha G σ H k s _ fun G1 H1 p1 => by
  cases p with
  | true => rw [if_pos rfl]; exact hb rfl G1 σ H1 (ok.stp k p1) (s.mono p1.gg) Q fun G2 H2 p2 => z G2 H2 (p1.trans p2)
  | false => rw [if_neg Bool.false_ne_true]; exact z G1 H1 p1
theorem et_or {p q : Bool} (ok : Cok C) (ha : EvT t C ds p) (hb : p = false → EvT u C ds q) : EvT (tOr t u) C ds (p || q) := fun G σ H k s Q z => ha G σ H k s _ fun G1 H1 p1 => by
  cases p with
  | false => rw [if_neg Bool.false_ne_true]; exact hb rfl G1 σ H1 (ok.stp k p1) (s.mono p1.gg) Q fun G2 H2 p2 => z G2 H2 (p1.trans p2)
  | true => rw [if_pos rfl]; exact z G1 H1 p1
theorem et_not {p : Bool} (ha : EvT t C ds p) : EvT (tNot t) C ds (!p) := fun G σ H k s Q z => ha G σ H k s _ fun G1 H1 p1 => z G1 H1 p1

/-! ### slices -/
theorem eo_none (ok : Cok C) : EvO tNoPart C ds none := fun G σ H k _ Q z => z G H (Pu.r ok k)
theorem eo_some {i : Int} (h : EvD te C ds (.int i)) : EvO (tPart te) C ds (some i) := fun G σ H k s Q z => h G σ H k s _ fun v G1 H1 p1 r1 => by
  cases r1
  exact ⟨i, rfl, z G1 H1 p1⟩
def cutD (xs : List Dt) (lo hi : Option Int) : List Dt := (xs.drop (HT.sIx xs.length 0 lo)).take (HT.sIx xs.length xs.length hi - HT.sIx xs.length 0 lo)
theorem RepA.cut {G : Hp} {vs : List V} {xs : List Dt} (r : RepA G vs xs) (lo hi : Option Int) : RepA G (cutV vs lo hi) (cutD xs lo hi) := by
  unfold cutV cutD
  rw [r.length]
  exact (r.drop _).take _
theorem en_slice {lo hi : Option Int} {to1 to2 : TO} (ok : Cok C) (h : EvD te C ds (.lst xs)) (hl : EvO to1 C ds lo) (hu : EvO to2 C ds hi) : EvN (tSl (rSlL K) te to1 to2) C ds (cutD xs lo hi) := fun G σ H k s Q z =>
  h G σ H k s _ fun v G1 H1 p1 r1 => hl G1 σ H1 (ok.stp k p1) (s.mono p1.gg) _ fun G2 H2 p2 => hu G2 σ H2 (ok.stp k (p1.trans p2)) (s.mono (p1.trans p2).gg) _ fun G3 H3 p3 => by
    have p13 := (p1.trans p2).trans p3
    cases r1 with
    | lst h1 q1 => exact ⟨_, _, rfl, SqL.of (p13.gh _ _ ((p2.trans p3).gg _ _ h1)), fun p hp => z p _ G3 _ (p13.trans (Pu.newM p13.gh hp)) (p13.th p hp) (p13.gh.free hp) upd_same ((q1.cut lo hi).mono (p2.trans p3).gg)⟩
theorem ev_slice {lo hi : Option Int} {to1 to2 : TO} (ok : Cok C) (h : EvD te C ds (.lst xs)) (hl : EvO to1 C ds lo) (hu : EvO to2 C ds hi) : EvD (tSl (rSlL K) te to1 to2) C ds (.lst (cutD xs lo hi)) := (en_slice ok h hl hu).ev ok
def rSlS : V → Option Int → Option Int → Hp → VK → Prop := fun x lo hi H Q => ∃ z, x = .str z ∧ z.length ≤ sizeLine ∧ Q (.str (cutS z lo hi)) H
theorem ev_sliceS {x : Str} {lo hi : Option Int} {to1 to2 : TO} (ok : Cok C) (h : EvD te C ds (.str x)) (hl : EvO to1 C ds lo) (hu : EvO to2 C ds hi) : EvD (tSl rSlS te to1 to2) C ds (.str (cutS x lo hi)) := fun G σ H k s Q z =>
  h G σ H k s _ fun v G1 H1 p1 r1 => hl G1 σ H1 (ok.stp k p1) (s.mono p1.gg) _ fun G2 H2 p2 => hu G2 σ H2 (ok.stp k (p1.trans p2)) (s.mono (p1.trans p2).gg) _ fun G3 H3 p3 => by
    cases r1 with
    | str _ hx =>
      refine ⟨x, rfl, lim_line hx, z _ G3 H3 ((p1.trans p2).trans p3) (.str _ ?_)⟩
      have e : (cutS x lo hi).length ≤ x.length := by
        rw [TL.len_tl, TL.len_tl]
        show ((x.cps.toList.drop _).take _).length ≤ x.cps.toList.length
        rw [List.length_take, List.length_drop]
        omega
      exact Nat.le_trans e hx

/-! ### calls of built-ins -/
theorem ev_cb {r : List V → Hp → VK → Prop} {as : List Dt} (ok : Cok C) (ha : EvA tl C ds as) (hr : RC r C as c) : EvD (tCB r tl) C ds c := fun G σ H k s Q z =>
  ha G σ H k s _ fun vs G1 H1 p1 r1 => hr G1 H1 vs (ok.stp k p1) r1 Q fun v G2 H2 p2 r2 => z v G2 H2 (p1.trans p2) r2
def rLen (K : PySem.W.Frag) : List V → Hp → VK → Prop := fun xs H Q => ∃ x n, xs = [x] ∧ LenV K x H n ∧ Q (.int n) H
theorem call_lenK {X : Cx} : CallR X (.builtin "len") (rLen X.K) := call_len
theorem rc_lenL (ok : Cok C) : RC (rLen K) C [.lst xs] (.int (xs.length : Nat)) := fun G H vs k r Q z => by
  cases r with
  | cons h r =>
    cases r
    cases h with
    | lst h q => exact ⟨_, _, rfl, .inl ⟨_, SqL.of (ok.sub k _ _ h), q.length.symm⟩, z _ G H (Pu.r ok k) (.int _)⟩
theorem rc_lenT (ok : Cok C) : RC (rLen K) C [.tup xs] (.int (xs.length : Nat)) := fun G H vs k r Q z => by
  cases r with
  | cons h r =>
    cases r
    cases h with
    | tup h q => exact ⟨_, _, rfl, .inr ⟨_, SqT.of (ok.sub k _ _ h), q.length.symm⟩, z _ G H (Pu.r ok k) (.int _)⟩
theorem rc_lenS {x : Str} (ok : Cok C) : RC (rLen K) C [.str x] (.int (x.length : Nat)) := fun G H vs k r Q z => by
  cases r with
  | cons h r =>
    cases r
    cases h with
    | str _ hx => exact ⟨_, _, rfl, ⟨lim_line hx, rfl⟩, z _ G H (Pu.r ok k) (.int _)⟩
theorem rc_all {bs : List Bool} (ok : Cok C) : RC (rAll K) C [.lst (bs.map Dt.bl)] (.bl (bs.all id)) := fun G H vs k r Q z => by
  cases r with
  | cons h r =>
    cases r
    cases h with
    | lst h q =>
      have e := RepA.bls q
      subst e
      exact ⟨_, bs, rfl, SqL.of (ok.sub k _ _ h), z _ G H (Pu.r ok k) (.bl _)⟩
def rIntB : List V → Hp → VK → Prop := fun xs H Q => (∃ i, xs = [.int i] ∧ Q (.int i) H) ∨ ∃ k, xs = [.bl k] ∧ Q (.int (if k then 1 else 0)) H
theorem call_intB {X : Cx} : CallR X (.type "int") rIntB := call_int1
theorem rc_intB {p : Bool} (ok : Cok C) : RC rIntB C [.bl p] (.int (if p then 1 else 0)) := fun G H vs k r Q z => by
  cases r with
  | cons h r => cases r; cases h; exact .inr ⟨p, rfl, z _ G H (Pu.r ok k) (.int _)⟩
def rIntS : List V → Hp → VK → Prop := fun xs H Q => ∃ a n, xs = [.str a] ∧ PySem.intText? a = some n ∧ a.length ≤ 640 ∧ Q (.int n) H
theorem call_intS {X : Cx} : CallR X (.type "int") rIntS := call_int_str
theorem rc_intS {x : Str} {n : Int} (ok : Cok C) (h : PySem.intText? x = some n) (hl : x.length ≤ 640) : RC rIntS C [.str x] (.int n) := fun G H vs k r Q z => by
  cases r with
  | cons h' r => cases r; cases h'; exact ⟨x, n, rfl, h, hl, z _ G H (Pu.r ok k) (.int _)⟩
def rStrI : List V → Hp → VK → Prop := fun xs H Q => ∃ i, xs = [.int i] ∧ i.natAbs.log2 < 1920 ∧ Q (.str (toString i)) H
theorem call_strI {X : Cx} : CallR X (.type "str") rStrI := call_str_int
def rStrS : List V → Hp → VK → Prop := fun xs H Q => ∃ a, xs = [.str a] ∧ Q (.str a) H
theorem call_strS {X : Cx} : CallR X (.type "str") rStrS := SkE.call_str_str
/-- the text of a whole number -/
def numT (i : Int) : Str := Str.ofString (toString i)
def rListOf (K : PySem.W.Frag) : List V → Hp → VK → Prop := fun xs H Q => ∃ p ys, xs = [.ref p] ∧ (SqL K H p ys ∨ SqT K H p ys) ∧ ∀ l, H l = none → Q (.ref l) (upd H l (.lst ys))
theorem call_listOf {X : Cx} : CallR X (.type "list") (rListOf X.K) := call_list_of
theorem rc_listOf (ok : Cok C) (ha : a = .lst xs ∨ a = .tup xs) : RC (rListOf K) C [a] (.lst xs) := fun G H vs k r Q z => by
  have sub := ok.sub k
  have fin : ∀ l ys, RepA G ys xs → H l = none → Q (.ref l) (upd H l (.lst ys)) := fun l ys q hl => z _ (upd G l (.lst ys)) _ (Pu.new sub hl) (.lst upd_same (q.mono (Pu.new sub hl).gg))
  cases r with
  | cons h r =>
    cases r
    rcases ha with rfl | rfl
    · cases h with
      | lst h q => exact ⟨_, _, rfl, .inl (SqL.of (sub _ _ h)), fun l hl => fin l _ q hl⟩
    · cases h with
      | tup h q => exact ⟨_, _, rfl, .inr (SqT.of (sub _ _ h)), fun l hl => fin l _ q hl⟩
def rTupOf (K : PySem.W.Frag) : List V → Hp → VK → Prop := fun xs H Q => ∃ p ys, xs = [.ref p] ∧ ((SqL K H p ys ∧ ∀ l, H l = none → Q (.ref l) (upd H l (.tup ys))) ∨ (SqT K H p ys ∧ Q (.ref p) H))
theorem call_tupOf {X : Cx} : CallR X (.type "tuple") (rTupOf X.K) := call_tuple_of
theorem rc_tupOf (ok : Cok C) : RC (rTupOf K) C [.lst xs] (.tup xs) := fun G H vs k r Q z => by
  have sub := ok.sub k
  cases r with
  | cons h r =>
    cases r
    cases h with
    | lst h q => exact ⟨_, _, rfl, .inl ⟨SqL.of (sub _ _ h), fun l hl => z _ (upd G l (.tup _)) _ (Pu.new sub hl) (.tup upd_same (q.mono (Pu.new sub hl).gg))⟩⟩
/-! ### methods of texts -/
theorem ev_m1 {r : V → List V → Hp → VK → Prop} {x : Str} (ok : Cok C) (ho : EvD ta C ds (.str x)) (he : EvD te C ds b) (hr : RM r C (.str x) [b] c) : EvD (tM1 r ta te) C ds c := fun G σ H k s Q z =>
  ho G σ H k s _ fun v G1 H1 p1 r1 => by
    refine ⟨by cases r1; exact ⟨x, rfl⟩, he G1 σ H1 (ok.stp k p1) (s.mono p1.gg) _ fun w G2 H2 p2 r2 => ?_⟩
    exact hr G2 H2 v [w] (ok.stp k (p1.trans p2)) (r1.mono p2.gg) (.cons r2 .nil) Q fun u G3 H3 p3 r3 => z u G3 H3 ((p1.trans p2).trans p3) r3
theorem ev_bm {r : V → List V → Hp → VK → Prop} {x : Str} {as : List Dt} (ok : Cok C) (ho : EvD ta C ds (.str x)) (he : EvA tl C ds as) (hr : RM r C (.str x) as c) : EvD (tBM K "str" r ta tl) C ds c := fun G σ H k s Q z =>
  ho G σ H k s _ fun v G1 H1 p1 r1 => by
    refine ⟨by cases r1; rfl, he G1 σ H1 (ok.stp k p1) (s.mono p1.gg) _ fun w G2 H2 p2 r2 => ?_⟩
    exact hr G2 H2 v w (ok.stp k (p1.trans p2)) (r1.mono p2.gg) r2 Q fun u G3 H3 p3 r3 => z u G3 H3 ((p1.trans p2).trans p3) r3
def rSplit : V → List V → Hp → VK → Prop := fun x xs H Q => ∃ a b, x = .str a ∧ xs = [.str b] ∧ (b.length == 0) = false ∧ a.length + 2 ≤ sizeLine ∧ rNewStrs (Txt.split a b) H Q
def rJoin (K : PySem.W.Frag) : V → List V → Hp → VK → Prop := fun x xs H Q => ∃ a p, ∃ ys : List Str, x = .str a ∧ xs = [.ref p] ∧ (SqL K H p (ys.map V.str) ∨ SqT K H p (ys.map V.str)) ∧
  (ys.map (·.length)).sum + ys.length * a.length ≤ 16777216 ∧ Q (.str (Txt.join a ys)) H
theorem rm_split {x y : Str} (ok : Cok C) (hy : (y.length == 0) = false) (hp : ∀ z ∈ Txt.split x y, z.length ≤ Lim) : RM rSplit C (.str x) [.str y] (.lst (tx (Txt.split x y))) := fun G H v vs k r1 r2 Q z => by
  cases r1 with
  | str _ hx =>
    cases r2 with
    | cons h r =>
      cases r
      cases h
      exact ⟨x, y, rfl, rfl, hy, lim_line2 hx, fun p n => z _ (upd G p (.lst _)) _ (Pu.new (ok.sub k) n) (.lst upd_same ((RepA.ofStrs hp).mono fun _ _ e => e))⟩
theorem join_len (a : Str) : ∀ ys : List Str, (Str.join a ys).length ≤ (ys.map (·.length)).sum + ys.length * a.length
  | [] => by show (0 : Nat) ≤ _; exact Nat.zero_le _
  | [x] => by show x.length ≤ x.length + 0 + 1 * a.length; omega
  | x :: y :: r => by
    have ih := join_len a (y :: r)
    show ((x ++ a) ++ Str.join a (y :: r)).length ≤ _
    rw [len_app, len_app, List.map_cons, List.sum_cons, List.length_cons, Nat.succ_mul]
    omega
theorem rm_join {x : Str} {ys : List Str} (ok : Cok C) (hb : b = .lst (tx ys) ∨ b = .tup (tx ys)) (hl : (ys.map (·.length)).sum + ys.length * x.length ≤ Lim) : RM (rJoin K) C (.str x) [b] (.str (Txt.join x ys)) := fun G H v vs k r1 r2 Q z => by
  have fin : Q (.str (Txt.join x ys)) H := z _ G H (Pu.r ok k) (.str _ (by rw [TL.join_eq]; exact Nat.le_trans (join_len x ys) hl))
  cases r1 with
  | str _ hx =>
    cases r2 with
    | cons h r =>
      cases r
      rcases hb with rfl | rfl
      · cases h with
        | lst h q =>
          obtain ⟨e, _⟩ := RepA.txs q
          subst e
          exact ⟨x, _, ys, rfl, rfl, .inl (SqL.of (ok.sub k _ _ h)), Nat.le_trans hl (by decide), fin⟩
      · cases h with
        | tup h q =>
          obtain ⟨e, _⟩ := RepA.txs q
          subst e
          exact ⟨x, _, ys, rfl, rfl, .inr (SqT.of (ok.sub k _ _ h)), Nat.le_trans hl (by decide), fin⟩
def rStripC : V → List V → Hp → VK → Prop := fun x xs H Q => ∃ a b, x = .str a ∧ xs = [.str b] ∧ a.length ≤ sizeLine ∧ Q (.str (Txt.stripChars a b)) H
theorem mt_stripC {X : Cx} : MtR X "str.strip" rStripC := mt_stripChars
/-- text * n -/
def rMulT : R2 := fun x y H Q => ∃ i n, x = .str i ∧ y = .int n ∧ MulOk i n ∧ Q (.str (Txt.mul i n)) H
theorem op_mulT {X : Cx} : OpR X (binaryOp .Mult) rMulT := by
  intro pins s σ H x y v u Q I rx ry h
  obtain ⟨i, n, rfl, rfl, hz, q⟩ := h
  obtain ⟨t, rfl⟩ := rx
  obtain ⟨t', rfl⟩ := ry
  exact SB.mul hz (fun t' tk => ⟨.str (Txt.mul i n), H, I.tok _, ⟨_, rfl⟩, q⟩)
theorem rv_mulT {x : Str} {n : Int} (ok : Cok C) (h : MulOk x n) (hl : (Txt.mul x n).length ≤ Lim) : RV rMulT C (.str x) (.int n) (.str (Txt.mul x n)) := fun G H v w k r1 r2 Q q => by
  cases r1; cases r2
  exact ⟨x, n, rfl, rfl, h, q _ G H (Pu.r ok k) (.str _ hl)⟩
/-- a list's first place of a text -/
theorem rm_index {x : Str} {l : List Str} {j : Nat} (ok : Cok C) (h : l[j]? = some x) (hn : ∀ m, m < j → l[m]? ≠ some x) : RM (rIndex K) C (.lst (tx l)) [.str x] (.int (j : Nat)) := fun G H v vs k r1 r2 Q z => by
  cases r2 with
  | cons h2 r =>
    cases r
    cases h2
    cases r1 with
    | lst h1 q1 =>
      obtain ⟨e, _⟩ := RepA.txs q1
      subst e
      have fl : ∀ m : List Str, (m.map V.str).all flatV = true := fun m => by induction m with
        | nil => rfl
        | cons _ _ ih => exact ih
      refine ⟨_, _, _, j, .str x, rfl, rfl, SqL.of (ok.sub k _ _ h1), rfl, fl l, by rw [List.getElem?_map, h]; rfl, by show (x == x) = true; simp, fun m z' hm hz => ?_, z _ G H (Pu.r ok k) (.int _)⟩
      rw [List.getElem?_map] at hz
      cases e2 : l[m]? with
      | none => rw [e2] at hz; cases hz
      | some y =>
        rw [e2] at hz
        cases hz
        show (y == x) = false
        refine beq_eq_false_iff_ne.mpr fun q => hn m hm ?_
        rw [e2, q]
/-- a list's method -/
theorem ev_bmL {r : V → List V → Hp → VK → Prop} {as : List Dt} (ok : Cok C) (ho : EvD ta C ds (.lst xs)) (he : EvA tl C ds as) (hr : RM r C (.lst xs) as c) : EvD (tBM K "list" r ta tl) C ds c := fun G σ H k s Q z =>
  ho G σ H k s _ fun v G1 H1 p1 r1 => by
    refine ⟨by cases r1 with | lst h _ => exact .inl ⟨rfl, _, SqL.of (p1.gh _ _ h)⟩, he G1 σ H1 (ok.stp k p1) (s.mono p1.gg) _ fun w G2 H2 p2 r2 => ?_⟩
    exact hr G2 H2 v w (ok.stp k (p1.trans p2)) (r1.mono p2.gg) r2 Q fun u G3 H3 p3 r3 => z u G3 H3 ((p1.trans p2).trans p3) r3

/-! ### == of data -/
/-- plain data as the library's -/
def py : Dt → PyData
  | .non => .none | .bl b => .bool b | .int i => .int i | .str s => .str s
  | .lst xs => .list (pys xs) | .tup xs => .tuple (pys xs) | .obj _ => .none
where pys : List Dt → List PyData
  | [] => [] | x :: r => py x :: pys r
/-- without opaque things -/
def clean : Dt → Bool
  | .lst xs => cleans xs | .tup xs => cleans xs | .obj _ => false | _ => true
where cleans : List Dt → Bool
  | [] => true | x :: r => clean x && cleans r
mutual
theorem Rep.dp {G : Hp} : ∀ {v : V} {d : Dt}, Rep G v d → clean d = true → Dp K G v (py d)
  | _, _, .non, _ => .non
  | _, _, .bl b, _ => .bl b
  | _, _, .int i, _ => .int i
  | _, _, .str x _, _ => .str x
  | _, _, .lst h r, e => .lst (SqL.of h) (RepA.dps r e)
  | _, _, .tup h r, e => .tup (SqT.of h) (RepA.dps r e)
  | _, _, .obj _, e => absurd e Bool.false_ne_true
theorem RepA.dps {G : Hp} : ∀ {vs : List V} {xs : List Dt}, RepA G vs xs → clean.cleans xs = true → DpAll K G vs (py.pys xs)
  | _, _, .nil, _ => .nil
  | _, _, .cons h r, e => by
    have e' := (Bool.and_eq_true _ _).mp (show (clean _ && clean.cleans _) = true from e)
    exact .cons (Rep.dp h e'.1) (RepA.dps r e'.2)
end
theorem rv_eqD (ok : Cok C) (ha : clean a = true) (hb : clean b = true) (sa : SeqAt.shaped (py a) = true) (sb : SeqAt.shaped (py b) = true) : RV (rEqD K) C a b (.bl (PyData.eqv (py a) (py b))) := fun G H x y k r1 r2 Q z => by
  have sub := ok.sub k
  exact ⟨_, _, Rep.dp (r1.mono sub) ha, Rep.dp (r2.mono sub) hb, sa, sb, z _ G H (Pu.r ok k) (.bl _)⟩
theorem rv_neD (ok : Cok C) (ha : clean a = true) (hb : clean b = true) (sa : SeqAt.shaped (py a) = true) (sb : SeqAt.shaped (py b) = true) : RV (rNeD K) C a b (.bl (!PyData.eqv (py a) (py b))) := fun G H x y k r1 r2 Q z => by
  have sub := ok.sub k
  exact ⟨_, _, Rep.dp (r1.mono sub) ha, Rep.dp (r2.mono sub) hb, sa, sb, z _ G H (Pu.r ok k) (.bl _)⟩
end
end Kx

namespace Kx
open PySem L2

/-! ## Targets -/
def setsV (σ : St) : List Nat → List V → St
  | j :: js, w :: ws => setsV (σ.set j (some w)) js ws
  | _, _ => σ
def setsD (ds : List (Option Dt)) : List (Nat × Dt) → List (Option Dt)
  | [] => ds
  | u :: us => setsD (ds.set u.1 (some u.2)) us
theorem Slots.sets {G : Hp} : ∀ (us : List (Nat × Dt)) {σ : St} {ds : List (Option Dt)} {ws : List V}, Slots G σ ds → RepA G ws (us.map (·.2)) → Slots G (setsV σ (us.map (·.1)) ws) (setsD ds us)
  | [], _, _, _, s, .nil => s
  | u :: us, _, _, _ :: _, s, .cons h r => Slots.sets us (s.set h u.1) r
theorem wipe_sets {vs : List Nat} : ∀ (js : List Nat) (σ : St) (ws : List V), (∀ j ∈ js, j ∈ vs) → L2.wipe (setsV σ js ws) vs = L2.wipe σ vs
  | [], _, _, _ => rfl
  | _ :: _, _, [], _ => rfl
  | j :: js, σ, w :: ws, h => by
    show L2.wipe (setsV (σ.set j (some w)) js ws) vs = _
    rw [wipe_sets js _ ws fun z hz => h z (List.mem_cons_of_mem _ hz), wipe_set (h j List.mem_cons_self)]
theorem setsV_append : ∀ (js : List Nat) (ws : List V) (js' : List Nat) (ws' : List V) (σ : St), js.length = ws.length → setsV σ (js ++ js') (ws ++ ws') = setsV (setsV σ js ws) js' ws'
  | [], [], _, _, _, _ => rfl
  | [], _ :: _, _, _, _, h => by cases h
  | _ :: _, [], _, _, _, h => by cases h
  | j :: js, w :: ws, js', ws', σ, h => setsV_append js ws js' ws' (σ.set j (some w)) (Nat.succ.inj h)
/-- a target given d sets the slots us -/
def TgD (g : TG) (d : Dt) (us : List (Nat × Dt)) : Prop :=
  ∀ G σ H v, Same G H → Rep G v d → ∀ Q : St → Hp → Prop, (∀ ws, RepA G ws (us.map (·.2)) → Q (setsV σ (us.map (·.1)) ws) H) → g v σ H Q
def TgsD (t : TGs) (ds : List Dt) (us : List (Nat × Dt)) : Prop :=
  ∀ G σ H vs, Same G H → RepA G vs ds → ∀ Q : St → Hp → Prop, (∀ ws, RepA G ws (us.map (·.2)) → Q (setsV σ (us.map (·.1)) ws) H) → t vs σ H Q
section
variable {K : PySem.W.Frag} {g : TG} {t : TGs} {d : Dt} {xs : List Dt} {us ws : List (Nat × Dt)} {n : Nat}
theorem tg_name {j : Nat} : TgD (gName j) d [(j, d)] := fun G σ H v _ r Q q => q [v] (.cons r .nil)
theorem tgs_nil : TgsD gNil [] [] := fun G σ H vs _ r Q q => by cases r; exact ⟨rfl, q [] .nil⟩
theorem tgs_cons (h : TgD g d us) (h' : TgsD t xs ws) : TgsD (gCons g t) (d :: xs) (us ++ ws) := fun G σ H vs s r Q q => by
  cases r with
  | cons r1 r2 =>
    refine ⟨_, _, rfl, h G σ H _ s r1 _ fun a ra => h' G _ H _ s r2 _ fun b rb => ?_⟩
    have e := q (a ++ b) (by rw [List.map_append]; exact ra.append rb)
    rw [List.map_append, setsV_append _ _ _ _ _ (by rw [ra.length, List.length_map, List.length_map])] at e
    exact e
theorem tg_tup (h : TgsD t xs us) (hn : xs.length = n) : TgD (gTup K n t) (.tup xs) us := fun G σ H v s r Q q => by
  cases r with
  | tup e r => exact ⟨_, _, rfl, SqT.of (s _ _ e), by rw [r.length]; exact hn, h G σ H _ s r Q q⟩
theorem tg_lst (h : TgsD t xs us) (hn : xs.length = n) : TgD (gUnl K n t) (.lst xs) us := fun G σ H v s r Q q => by
  cases r with
  | lst e r => exact ⟨_, _, rfl, SqL.of (s _ _ e), by rw [r.length]; exact hn, h G σ H _ s r Q q⟩
end

/-! ## What is walked: its items one by one, while only S changes -/
def EvI (S : Addr → Prop) (wi : TI) (C : Hp → Hp → Prop) (ds : List (Option Dt)) (xs : List Dt) : Prop :=
  ∀ G σ H, C G H → Slots G σ ds → ∀ R : It → Hp → Prop,
    (∀ J G1 H1, Pu G H G1 H1 → (∀ i G' H', Stp S G1 H1 G' H' → (xs.length ≤ i → J.stop i H') ∧
      ∀ d, xs[i]? = some d → J.go i H' ∧ ∀ v H'', J.yld i H' v H'' → ∃ G'', Pu G' H' G'' H'' ∧ Rep G'' v d) → R J H1) → wi σ H R
section
variable {S : Addr → Prop} {C : Hp → Hp → Prop} {ds : List (Option Dt)} {K : PySem.W.Frag} {te : TE} {tl : TA} {xs ys : List Dt}
theorem ei_list (h : EvD te C ds (.lst xs)) : EvI S (iList K te) C ds xs := fun G σ H k s R z => h G σ H k s _ fun v G1 H1 p1 r1 => by
  cases r1 with
  | @lst a vs _ e r =>
    refine ⟨a, rfl, ⟨_, SqL.of (p1.gh _ _ e)⟩, z _ G1 H1 p1 fun i G' H' st => ⟨fun hi => ⟨_, SqL.of (st.gh _ _ (st.gg _ _ e)), by rw [r.length]; exact hi⟩, fun d hd => ?_⟩⟩
    obtain ⟨v, hv, rv⟩ := r.get hd
    refine ⟨⟨_, v, SqL.of (st.gh _ _ (st.gg _ _ e)), hv⟩, fun u H'' y => ?_⟩
    obtain ⟨rfl, y⟩ := y
    have e2 := y _ (SqL.of (st.gh _ _ (st.gg _ _ e)))
    rw [hv] at e2
    cases e2
    exact ⟨G', Stp.refl st.gh, rv.mono st.gg⟩
theorem ei_tup (h : EvD te C ds (.tup xs)) : EvI S (iTup K te) C ds xs := fun G σ H k s R z => h G σ H k s _ fun v G1 H1 p1 r1 => by
  cases r1 with
  | @tup a vs _ e r =>
    refine ⟨a, rfl, ⟨_, SqT.of (p1.gh _ _ e)⟩, z _ G1 H1 p1 fun i G' H' st => ⟨fun hi => ⟨_, SqT.of (st.gh _ _ (st.gg _ _ e)), by rw [r.length]; exact hi⟩, fun d hd => ?_⟩⟩
    obtain ⟨v, hv, rv⟩ := r.get hd
    refine ⟨⟨_, v, SqT.of (st.gh _ _ (st.gg _ _ e)), hv⟩, fun u H'' y => ?_⟩
    obtain ⟨rfl, y⟩ := y
    have e2 := y _ (SqT.of (st.gh _ _ (st.gg _ _ e)))
    rw [hv] at e2
    cases e2
    exact ⟨G', Stp.refl st.gh, rv.mono st.gg⟩
/-- the signs of a text -/
def signs (x : Str) : List Dt := x.cps.toList.map fun c => Dt.str ⟨#[c]⟩
theorem ei_str {x : Str} (h : EvD te C ds (.str x)) : EvI S (iStr te) C ds (signs x) := fun G σ H k s R z => h G σ H k s _ fun v G1 H1 p1 r1 => by
  cases r1
  refine ⟨x, rfl, z _ G1 H1 p1 fun i G' H' st => ⟨fun hi => ?_, fun d hd => ?_⟩⟩
  · show x.cps.size ≤ i
    simpa [signs] using hi
  · unfold signs at hd
    rw [List.getElem?_map, Array.getElem?_toList] at hd
    cases e : x.cps[i]? with
    | none => rw [e] at hd; cases hd
    | some c =>
      rw [e] at hd
      cases hd
      refine ⟨?_, fun v H'' y => ?_⟩
      · show i < x.cps.size
        exact (Array.getElem?_eq_some_iff.mp e).1
      · obtain ⟨rfl, c', e', rfl⟩ := y
        rw [e] at e'
        cases e'
        exact ⟨G', Stp.refl st.gh, .str _ (by show 1 ≤ Lim; decide)⟩
def intR (lo : Int) (n : Nat) : List Dt := (List.range n).map fun (k : Nat) => Dt.int (lo + (k : Int))
theorem ei_range1 {n : Int} (h : EvA tl C ds [.int n]) (hn : 0 ≤ n ∧ n ≤ 1000000) : EvI S (iRng1 tl) C ds (intR 0 n.toNat) := fun G σ H k s R z => h G σ H k s _ fun vs G1 H1 p1 r1 => by
  cases r1 with
  | cons r1 r2 =>
    cases r2; cases r1
    refine ⟨n, rfl, by omega, by omega, z _ G1 H1 p1 fun i G' H' st => ⟨fun hi => ?_, fun d hd => ?_⟩⟩
    · show n.toNat ≤ i
      simpa [intR] using hi
    · unfold intR at hd
      rw [List.getElem?_map] at hd
      by_cases hi : i < n.toNat
      · rw [List.getElem?_eq_getElem (by simpa using hi), List.getElem_range] at hd
        cases hd
        exact ⟨hi, fun v H'' y => by obtain ⟨rfl, rfl⟩ := y; exact ⟨G', Stp.refl st.gh, .int _⟩⟩
      · rw [List.getElem?_eq_none (by simpa using hi)] at hd
        cases hd
/-- enumerate: pairs -/
def enumF : Nat → List Dt → List Dt
  | _, [] => []
  | k, x :: r => .tup [.int (k : Nat), x] :: enumF (k + 1) r
theorem enumF_length : ∀ (xs : List Dt) (k : Nat), (enumF k xs).length = xs.length
  | [], _ => rfl
  | _ :: r, k => by show (enumF (k + 1) r).length + 1 = _; rw [enumF_length r]; rfl
theorem enumF_get : ∀ (xs : List Dt) (k i : Nat) (d : Dt), (enumF k xs)[i]? = some d → ∃ x, xs[i]? = some x ∧ d = .tup [.int ((k + i : Nat) : Int), x]
  | [], _, _, _, h => by simp [enumF] at h
  | x :: r, k, 0, d, h => ⟨x, rfl, (Option.some.inj (show some (Dt.tup [.int (k : Nat), x]) = some d from h)).symm⟩
  | x :: r, k, i + 1, d, h => by
    obtain ⟨y, e1, e2⟩ := enumF_get r (k + 1) i d h
    exact ⟨y, e1, by rw [e2]; congr 4; omega⟩
theorem ei_enum (h : EvA tl C ds [.lst xs]) : EvI S (iEnum K tl) C ds (enumF 0 xs) := fun G σ H k s R z => h G σ H k s _ fun vs G1 H1 p1 r1 => by
  cases r1 with
  | cons r1 r2 =>
    cases r2
    cases r1 with
    | @lst a vs _ e r =>
      refine ⟨a, _, rfl, SqL.of (p1.gh _ _ e), z _ G1 H1 p1 fun i G' H' st => ⟨fun hi => ⟨_, SqL.of (st.gh _ _ (st.gg _ _ e)), by rw [r.length]; rw [enumF_length] at hi; exact hi⟩, fun d hd => ?_⟩⟩
      obtain ⟨x, hx, rfl⟩ := enumF_get xs 0 i d hd
      obtain ⟨v, hv, rv⟩ := r.get hx
      refine ⟨⟨_, v, SqL.of (st.gh _ _ (st.gg _ _ e)), hv⟩, fun u H'' y => ?_⟩
      obtain ⟨T, x', rfl, hT, rfl, y⟩ := y
      have e2 := y _ (SqL.of (st.gh _ _ (st.gg _ _ e)))
      rw [hv] at e2
      cases e2
      have pn : Pu G' H' (upd G' T (.tup [.int (i : Nat), v])) (upd H' T (.tup [.int (i : Nat), v])) := Pu.new st.gh hT
      refine ⟨_, pn, .tup upd_same (.cons ?_ (.cons ((rv.mono st.gg).mono pn.gg) .nil))⟩
      rw [Nat.zero_add]
      exact .int _
end

/-! ## Comprehensions -/
theorem take_get {α : Type} : ∀ {l : List α} {i : Nat} {x : α}, l[i]? = some x → l.take (i + 1) = l.take i ++ [x]
  | [], i, x, h => by simp at h
  | a :: l, 0, x, h => by
    have e : a = x := Option.some.inj h
    subst e
    rfl
  | a :: l, i + 1, x, h => by
    have ih := take_get (l := l) (i := i) (x := x) h
    show a :: l.take (i + 1) = a :: l.take i ++ [x]
    rw [ih]
    rfl
theorem en_lc {α : Type} {C : Hp → Hp → Prop} {ds : List (Option Dt)} {wi : TI} {g : TG} {tt : TT} {te : TE} {vs : List Nat} (ys : List α) (c : α → Dt) (U : α → List (Nat × Dt)) (P : α → Bool) (F : α → Dt) (ok : Cok C)
    (hi : EvI No wi C ds (ys.map c)) (ht : ∀ y ∈ ys, TgD g (c y) (U y)) (hj : ∀ y ∈ ys, ∀ j ∈ (U y).map (·.1), j ∈ vs)
    (hp : ∀ y ∈ ys, EvT tt C (setsD (wipeD ds vs) (U y)) (P y)) (he : ∀ y ∈ ys, P y = true → EvD te C (setsD (wipeD ds vs) (U y)) (F y)) (hl : ys.length ≤ Lim) :
    EvN (tLc wi g tt te vs) C ds ((ys.filter P).map F) := fun G σ H k s Q q => by
  refine hi G σ H k s _ fun J G1 H1 p1 hJ D hD => ?_
  refine ⟨fun i m H' => m = ys.length - i ∧ i ≤ ys.length ∧ ∃ G' ws, Pu G1 H1 G' H' ∧ G' D = none ∧ H' D = some (.lst ws) ∧ RepA G' ws (((ys.take i).filter P).map F),
    ⟨_, rfl, Nat.zero_le _, G1, [], Pu.newM p1.gh hD, p1.gh.free hD, upd_same, .nil⟩, ?_⟩
  rintro i m H' ⟨rfl, hi', G', ws, pw, gD, hD', rw'⟩
  obtain ⟨hstop, hgo⟩ := hJ i G' H' pw
  by_cases hlt : i < ys.length
  · have hy : ys[i]? = some ys[i] := List.getElem?_eq_getElem hlt
    have hm : ys[i] ∈ ys := List.getElem_mem hlt
    obtain ⟨go, yl⟩ := hgo (c ys[i]) (by rw [List.getElem?_map, hy]; rfl)
    refine .inr ⟨go, fun H2 => ∃ G2 ws2, Pu G1 H1 G2 H2 ∧ G2 D = none ∧ H2 D = some (.lst ws2) ∧ RepA G2 ws2 (((ys.take (i + 1)).filter P).map F), fun H2 h2 => ⟨ys.length - (i + 1), by omega, rfl, hlt, h2⟩, fun v H2 y => ?_⟩
    obtain ⟨G2, p2, r2⟩ := yl v H2 y
    have p12 := pw.trans p2
    refine ht _ hm G2 _ H2 v p2.gh r2 _ fun us ru => ⟨?_, ?_⟩
    · rw [wipe_sets _ _ _ (hj _ hm), wipe_wipe]
    have sl : Slots G2 (setsV (L2.wipe σ vs) ((U ys[i]).map (·.1)) us) (setsD (wipeD ds vs) (U ys[i])) := Slots.sets _ ((s.mono (p1.trans p12).gg).wipe vs) ru
    have ck : C G2 H2 := ok.stp k (p1.trans p12)
    refine hp _ hm G2 _ H2 ck sl _ fun G3 H3 p3 => ?_
    cases hP : P ys[i] with
    | true =>
      rw [if_pos rfl]
      refine he _ hm hP G3 _ H3 (ok.stp ck p3) (sl.mono p3.gg) _ fun u G4 H4 p4 r4 => ?_
      have p24 := p2.trans (p3.trans p4)
      refine ⟨ws, Pu.hs p24 _ _ hD', ?_, G4, ws ++ [u], ?_, ?_, upd_same, ?_⟩
      · have e := rw'.length
        rw [List.length_map] at e
        have e2 := List.length_filter_le P (ys.take i)
        rw [List.length_take] at e2
        have e3 : ws.length < Lim := by omega
        exact Nat.lt_of_lt_of_le e3 (by rw [sizeLine_eq]; decide)
      · exact (pw.trans p24).write (.inr hD) (p24.ap' hD' (fun z => z) (fun _ => nofun) gD)
      · exact p24.ap' hD' (fun z => z) (fun _ => nofun) gD
      · rw [take_get hy, List.filter_append, List.map_append, List.filter_cons, if_pos hP]
        exact (rw'.mono p24.gg).append (.cons r4 .nil)
    | false =>
      rw [if_neg Bool.false_ne_true]
      have p23 := p2.trans p3
      refine ⟨G3, ws, pw.trans p23, p23.ap' hD' (fun z => z) (fun _ => nofun) gD, Pu.hs p23 _ _ hD', ?_⟩
      rw [take_get hy, List.filter_append, List.map_append, List.filter_cons, if_neg (by rw [hP]; exact Bool.false_ne_true)]
      show RepA G3 ws (_ ++ [])
      rw [List.append_nil]
      exact rw'.mono p23.gg
  · have e : i = ys.length := by omega
    subst e
    refine .inl ⟨hstop (by rw [List.length_map]; exact Nat.le_refl _), ?_⟩
    rw [List.take_length] at rw'
    exact q D ws G' H' (p1.trans pw) (p1.th D hD) gD hD' rw'
/-- without a test -/
theorem et_yes {C : Hp → Hp → Prop} {ds : List (Option Dt)} (ok : Cok C) : EvT tYes C ds true := fun G σ H k s Q z => z G H (Pu.r ok k)
theorem en_map {α : Type} {C : Hp → Hp → Prop} {ds : List (Option Dt)} {wi : TI} {g : TG} {te : TE} {vs : List Nat} (ys : List α) (c : α → Dt) (U : α → List (Nat × Dt)) (F : α → Dt) (ok : Cok C)
    (hi : EvI No wi C ds (ys.map c)) (ht : ∀ y ∈ ys, TgD g (c y) (U y)) (hj : ∀ y ∈ ys, ∀ j ∈ (U y).map (·.1), j ∈ vs)
    (he : ∀ y ∈ ys, EvD te C (setsD (wipeD ds vs) (U y)) (F y)) (hl : ys.length ≤ Lim) : EvN (tLc wi g tYes te vs) C ds (ys.map F) := by
  have h := en_lc (tt := tYes) (te := te) ys c U (fun _ => true) F ok hi ht hj (fun _ _ => et_yes ok) (fun y hy _ => he y hy) hl
  rwa [List.filter_eq_self.mpr (fun _ _ => rfl)] at h
/-- over a row, the item in one slot -/
theorem en_map1 {α : Type} {K : PySem.W.Frag} {C : Hp → Hp → Prop} {ds : List (Option Dt)} {tl te : TE} {j : Nat} (ys : List α) (c : α → Dt) (F : α → Dt) (ok : Cok C)
    (hi : EvD tl C ds (.lst (ys.map c))) (he : ∀ y ∈ ys, EvD te C ((ds.set j none).set j (some (c y))) (F y)) (hl : ys.length ≤ Lim) : EvN (tLc (iList K tl) (gName j) tYes te [j]) C ds (ys.map F) :=
  en_map ys c (fun y => [(j, c y)]) F ok (ei_list hi) (fun _ _ => tg_name) (fun _ _ i hi => by simpa using hi) he hl
theorem en_filter1 {α : Type} {K : PySem.W.Frag} {C : Hp → Hp → Prop} {ds : List (Option Dt)} {tl te : TE} {tt : TT} {j : Nat} (ys : List α) (c : α → Dt) (P : α → Bool) (F : α → Dt) (ok : Cok C)
    (hi : EvD tl C ds (.lst (ys.map c))) (hp : ∀ y ∈ ys, EvT tt C ((ds.set j none).set j (some (c y))) (P y)) (he : ∀ y ∈ ys, P y = true → EvD te C ((ds.set j none).set j (some (c y))) (F y)) (hl : ys.length ≤ Lim) :
    EvN (tLc (iList K tl) (gName j) tt te [j]) C ds ((ys.filter P).map F) :=
  en_lc ys c (fun y => [(j, c y)]) P F ok (ei_list hi) (fun _ _ => tg_name) (fun _ _ i hi => by simpa using hi) hp he hl
end Kx

namespace Kx
open PySem L2

/-! ## Statements -/
def Run (t : TS) (C : Hp → Hp → Prop) (ds : List (Option Dt)) (D : Ends) : Prop := ∀ G σ H, C G H → Slots G σ ds → t D σ H
/-- what is handed back is r -/
def Rt (D : Ends) (C : Hp → Hp → Prop) (r : Dt) : Prop := ∀ v G H, C G H → Rep G v r → D.rt v H
theorem Rt.of {D D' : Ends} {C : Hp → Hp → Prop} {r : Dt} (h : D'.rt = D.rt) (q : Rt D C r) : Rt D' C r := fun v G H c r' => by rw [h]; exact q v G H c r'
section
variable {S : Addr → Prop} {C C' : Hp → Hp → Prop} {ds es : List (Option Dt)} {K : PySem.W.Frag} {ta tb te : TE} {tl : TA} {t u w : TS} {c : TT} {a d r : Dt} {xs : List Dt} {D : Ends}
theorem run_seq (h : Run t C ds { D with nx := u D }) : Run (tSeq t u) C ds D := h
theorem run_next (h : ∀ G σ H, C G H → Slots G σ ds → D.nx σ H) : Run tNext C ds D := h
theorem run_less (h : Run t C es D) (l : Less ds es) : Run t C ds D := fun G σ H k s => h G σ H k (s.less l)
theorem run_sub (h : Run t C' ds D) (l : ∀ G H, C G H → C' G H) : Run t C ds D := fun G σ H k s => h G σ H (l G H k) s
theorem run_asg {i : Nat} (ok : Cok C) (h : EvD te C ds d) (q : Run tNext C (ds.set i (some d)) D) : Run (tAsg te (gName i)) C ds D := fun G σ H k s =>
  h G σ H k s _ fun v G1 H1 p1 r1 => q G1 _ H1 (ok.stp k p1) ((s.mono p1.gg).set r1 i)
theorem run_set {i : Nat} (ok : Cok C) (h : EvD te C ds d) (q : Run u C (ds.set i (some d)) D) : Run (tSeq (tAsg te (gName i)) u) C ds D := fun G σ H k s =>
  h G σ H k s _ fun v G1 H1 p1 r1 => q G1 _ H1 (ok.stp k p1) ((s.mono p1.gg).set r1 i)
/-- a target of several names -/
theorem run_tg {g : TG} {us : List (Nat × Dt)} (ok : Cok C) (h : EvD te C ds d) (hg : TgD g d us) (q : Run u C (setsD ds us) D) : Run (tSeq (tAsg te g) u) C ds D := fun G σ H k s =>
  h G σ H k s _ fun v G1 H1 p1 r1 => hg G1 σ H1 v p1.gh r1 _ fun ws rw => q G1 _ H1 (ok.stp k p1) (Slots.sets us (s.mono p1.gg) rw)
theorem run_ret (ok : Cok C) (h : EvD te C ds d) (e : d = r) (q : Rt D C r) : Run (tRet te) C ds D := fun G σ H k s =>
  h G σ H k s _ fun v G1 H1 p1 r1 => q v G1 H1 (ok.stp k p1) (e ▸ r1)
theorem run_if {b : Bool} (ok : Cok C) (h : EvT c C ds b) (h1 : b = true → Run t C ds D) (h2 : b = false → Run u C ds D) : Run (tIfS c t u) C ds D := fun G σ H k s =>
  h G σ H k s _ fun G1 H1 p1 => by
    cases b with
    | true => rw [if_pos rfl]; exact h1 rfl G1 σ H1 (ok.stp k p1) (s.mono p1.gg)
    | false => rw [if_neg Bool.false_ne_true]; exact h2 rfl G1 σ H1 (ok.stp k p1) (s.mono p1.gg)
/-- if .. : (return), then the rest -/
theorem run_when {b : Bool} (ok : Cok C) (h : EvT c C ds b) (h1 : b = true → Run t C ds { D with nx := u D }) (h2 : b = false → Run u C ds D) : Run (tSeq (tIfS c t tNext) u) C ds D :=
  run_seq (run_if ok h h1 fun e G σ H k s => h2 e G σ H k s)
theorem run_drop (ok : Cok C) (h : EvD te C ds d) (q : Run tNext C ds D) : Run (tDrop te) C ds D := fun G σ H k s => h G σ H k s _ fun v G1 H1 p1 r1 => q G1 σ H1 (ok.stp k p1) (s.mono p1.gg)

/-! ### for -/
/-- within a turn that began at (Ga, Ha) -/
def In (C : Hp → Hp → Prop) (S : Addr → Prop) (Ga Ha : Hp) : Hp → Hp → Prop := fun G H => C G H ∧ Stp S Ga Ha G H
theorem In.ok {Ga Ha : Hp} (h : Cok C) : Cok (In C S Ga Ha) := ⟨fun c => h.sub c.1, fun c p => ⟨h.stp c.1 p, c.2.trans (Stp.of p)⟩⟩
theorem run_for {α : Type} {wi : TI} {g : TG} {tb : TS} (ys : List α) (cn : α → Dt) (U : α → List (Nat × Dt)) (Cf : Nat → Hp → Hp → Prop) (dsf : Nat → List (Option Dt)) (ok : Cok C) (okf : ∀ i, Cok (Cf i))
    (hi : EvI S wi C ds (ys.map cn)) (ht : ∀ y ∈ ys, TgD g (cn y) (U y)) (h0 : ∀ G H, C G H → Cf 0 G H) (hl : Less ds (dsf 0))
    (hs : ∀ i y, ys[i]? = some y → ∀ Ga Ha, Cf i Ga Ha → Run tb (In (Cf i) S Ga Ha) (setsD (dsf i) (U y)) { D with nx := fun σ' H' => ∃ G', Stp S Ga Ha G' H' ∧ Cf (i + 1) G' H' ∧ Slots G' σ' (dsf (i + 1)), ct := fun σ' H' => ∃ G', Stp S Ga Ha G' H' ∧ Cf (i + 1) G' H' ∧ Slots G' σ' (dsf (i + 1)), bk := D.nx })
    (hd : Run tNext (Cf ys.length) (dsf ys.length) D) : Run (tFor wi g tb) C ds D := fun G σ H k s => by
  refine hi G σ H k s _ fun J G1 H1 p1 hJ => ?_
  refine ⟨fun i m σ' H' => m = ys.length - i ∧ i ≤ ys.length ∧ ∃ G', Stp S G1 H1 G' H' ∧ Cf i G' H' ∧ Slots G' σ' (dsf i), ⟨_, rfl, Nat.zero_le _, G1, Stp.refl p1.gh, h0 _ _ (ok.stp k p1), (s.mono p1.gg).less hl⟩, ?_⟩
  rintro i m σ' H' ⟨rfl, hi', G', st, cf, sl⟩
  obtain ⟨hstop, hgo⟩ := hJ i G' H' st
  by_cases hlt : i < ys.length
  · have hy : ys[i]? = some ys[i] := List.getElem?_eq_getElem hlt
    have hm : ys[i] ∈ ys := List.getElem_mem hlt
    obtain ⟨go, yl⟩ := hgo (cn ys[i]) (by rw [List.getElem?_map, hy]; rfl)
    refine .inr ⟨go, fun σ2 H2 => ∃ G2, Stp S G' H' G2 H2 ∧ Cf (i + 1) G2 H2 ∧ Slots G2 σ2 (dsf (i + 1)), fun σ2 H2 ⟨G2, h1, h2, h3⟩ => ⟨ys.length - (i + 1), by omega, rfl, hlt, G2, st.trans h1, h2, h3⟩, fun v H2 y => ?_⟩
    obtain ⟨G2, p2, r2⟩ := yl v H2 y
    refine ht _ hm G2 _ H2 v p2.gh r2 _ fun us ru => ?_
    exact hs i _ hy G' H' cf G2 _ H2 ⟨(okf i).stp cf p2, Stp.of p2⟩ (Slots.sets _ (sl.mono p2.gg) ru)
  · have e : i = ys.length := by omega
    subst e
    exact .inl ⟨hstop (by rw [List.length_map]; exact Nat.le_refl _), hd G' σ' H' cf sl⟩
/-- behind a turn -/
theorem turn_end {Cf : Nat → Hp → Hp → Prop} {dsf : Nat → List (Option Dt)} {Ga Ha : Hp} {i : Nat} {D : Ends} (h : ∀ G H, In (Cf i) S Ga Ha G H → Cf (i + 1) G H) (l : Less ds (dsf (i + 1)))
    (hD : D.nx = fun σ' H' => ∃ G', Stp S Ga Ha G' H' ∧ Cf (i + 1) G' H' ∧ Slots G' σ' (dsf (i + 1))) : Run tNext (In (Cf i) S Ga Ha) ds D := fun G σ H k s => by
  show D.nx σ H
  rw [hD]
  exact ⟨G, k.2, h G H k, s.less l⟩
/-- a loop that stores nothing and changes nothing: for .. : if c: (it leaves) -/
theorem run_find {α : Type} {wi : TI} {g : TG} (ys : List α) (cn : α → Dt) (U : α → List (Nat × Dt)) (dw : List (Option Dt)) (T : α → Bool) (ok : Cok C) (hi : EvI No wi C ds (ys.map cn)) (ht : ∀ y ∈ ys, TgD g (cn y) (U y)) (hl : Less ds dw)
    (hw : ∀ y ∈ ys, Less (setsD dw (U y)) dw) (hT : ∀ y ∈ ys, EvT c C (setsD dw (U y)) (T y)) (hr : ∀ y ∈ ys, T y = true → ∀ D' : Ends, D'.rt = D.rt → Run t C (setsD dw (U y)) D')
    (hd : (∀ y ∈ ys, T y = false) → Run tNext C dw D) : Run (tFor wi g (tIfS c t tNext)) C ds D := by
  refine run_for (S := No) ys cn U (fun i G H => C G H ∧ ∀ y ∈ ys.take i, T y = false) (fun _ => dw) ok (fun i => ⟨fun c => ok.sub c.1, fun c p => ⟨ok.stp c.1 p, c.2⟩⟩) hi ht (fun G H c => ⟨c, fun y hy => by simp at hy⟩) hl (fun i y hy Ga Ha ca => ?_) ?_
  · have hm : y ∈ ys := List.mem_of_getElem? hy
    intro G σ H k s
    refine hT y hm G σ H k.1.1 s _ fun G1 H1 p1 => ?_
    cases e : T y with
    | true => rw [if_pos rfl]; exact hr y hm e _ (by rfl) G1 σ H1 (ok.stp k.1.1 p1) (s.mono p1.gg)
    | false =>
      rw [if_neg Bool.false_ne_true]
      refine ⟨G1, k.2.trans p1, ⟨ok.stp k.1.1 p1, fun z hz => ?_⟩, (s.mono p1.gg).less (hw y hm)⟩
      rw [take_get hy] at hz
      rcases List.mem_append.mp hz with hz | hz
      · exact ca.2 z hz
      · rw [List.mem_singleton.mp hz]; exact e
  · intro G σ H c s
    exact hd (by have h := c.2; rwa [List.take_length] at h) G σ H c.1 s

/-- .. and then the rest -/
theorem run_find_seq {α : Type} {wi : TI} {g : TG} (ys : List α) (cn : α → Dt) (U : α → List (Nat × Dt)) (dw : List (Option Dt)) (T : α → Bool) (ok : Cok C) (hi : EvI No wi C ds (ys.map cn)) (ht : ∀ y ∈ ys, TgD g (cn y) (U y)) (hl : Less ds dw)
    (hw : ∀ y ∈ ys, Less (setsD dw (U y)) dw) (hT : ∀ y ∈ ys, EvT c C (setsD dw (U y)) (T y)) (hr : ∀ y ∈ ys, T y = true → ∀ D' : Ends, D'.rt = D.rt → Run t C (setsD dw (U y)) D')
    (hd : (∀ y ∈ ys, T y = false) → Run u C dw D) : Run (tSeq (tFor wi g (tIfS c t tNext)) u) C ds D :=
  run_seq (run_find ys cn U dw T ok hi ht hl hw hT (fun y hy e D' hD' => hr y hy e D' hD') fun h G σ H k s => hd h G σ H k s)

/-! ## Defs that change nothing -/
/-- from the data as of the arguments, under pre, r comes back, and nothing that stood is changed -/
def SpF (n : Nat) (pre : Hp → Hp → List Dt → Dt → Prop) : Sp := fun vs H Q _ => ∃ G as r, Same G H ∧ RepA G vs as ∧ as.length = n ∧ pre G H as r ∧ ∀ v G' H', Pu G H G' H' → Rep G' v r → Q v H'
theorem ev_call {n : Nat} {pre : Hp → Hp → List Dt → Dt → Prop} {as : List Dt} {E : XK} (ok : Cok C) (ha : EvA tl C ds as) (hn : as.length = n) (hp : ∀ G H, C G H → pre G H as r) : EvD (tCall (SpF n pre) [] E tl) C ds r := fun G σ H k s Q z =>
  ha G σ H k s _ fun vs G1 H1 p1 r1 => ⟨G1, as, r, p1.gh, by rw [List.append_nil]; exact r1, hn, hp G1 H1 (ok.stp k p1), fun v G2 H2 p2 r2 => z v G2 H2 (p1.trans p2) r2⟩
/-- a def's body: its slots are the arguments and nothing more -/
def slots0 (as : List Dt) (m : Nat) : List (Option Dt) := as.map some ++ List.replicate m none
end
section
variable {P : Program} {w : World} {K : PySem.W.Frag} {mg : Str → Option Value} {base : Heap}
theorem fnok {x q : Str} {st : Stmt} {f : Addr} {fd : FuncData} {N ps : List Str} {k : Nat} {pre : Hp → Hp → List Dt → Dt → Prop} (F : Fun K x q st f fd) (S : FnScope N ps (defScope st))
    (h : ∀ (cdv : Value) (A : Around) (outer : List Env) (s : Shared) (H : Hp) (E : XK), Room k (A.deeper (PyProof.Rows.envOfC q (defScope st) s.heap.objs.size f cdv)) → ∃ t, PSs (cxOf CX0 P w K mg base N q (defScope st) f cdv A outer s H E).nox (defBody st) t ∧
      ∀ (G : Hp) (as : List Dt) (r : Dt) (D : Ends), as.length = ps.length → Same G H → pre G H as r → Rt D (Bs No G H) r → (D.nx = fun _ H' => D.rt .non H') → Run t (Bs No G H) (slots0 as (N.length - ps.length)) D) :
    FnOk P w K mg base CX0 (k + 1) f fd ps (SpF ps.length pre) := by
  refine F.ok S (fun vs H Q E h => ?_) (fun cdv A outer s H vs Q E hr hsp => ?_)
  · obtain ⟨G, as, r, _, ra, hl, _⟩ := h
    rw [ra.length]; exact hl
  · obtain ⟨t, d, hb⟩ := h cdv A outer s H E hr
    obtain ⟨G, as, r, sm, ra, hl, hp, z⟩ := hsp
    refine ⟨t, d, hb G as r _ hl sm hp (fun v G' H' k r' => z v G' H' k r') rfl G _ H (Stp.refl sm) ?_⟩
    have e : L2.start N vs = vs.map some ++ List.replicate (N.length - ps.length) none := by
      unfold L2.start; rw [ra.length, hl]
    rw [e]
    exact Slots.args ra _
end

/-! ## Attributes, dicts, lists that change -/
section
variable {S : Addr → Prop} {C C' : Hp → Hp → Prop} {ds es : List (Option Dt)} {K : PySem.W.Frag} {ta tb te : TE} {tl : TA} {t u w : TS} {c : TT} {a d r : Dt} {xs : List Dt} {D : Ends}
theorem ev_fld {p : Addr} {f : Str} (ok : Cok C) (h : EvD ta C ds (.obj p)) (hf : ∀ G H, C G H → ∃ cl dx fs v, H p = some (.ins cl dx fs) ∧ Cls K cl ∧ NoAttr K cl f ∧ fs.lookup f = some v ∧ Rep G v d) : EvD (tFld K ta f) C ds d := fun G σ H k s Q z =>
  h G σ H k s _ fun x G1 H1 p1 r1 => by
    cases r1
    obtain ⟨cl, dx, fs, v, e, c1, c2, l, rv⟩ := hf G1 H1 (ok.stp k p1)
    exact ⟨p, cl, dx, fs, v, rfl, e, c1, c2, l, z v G1 H1 p1 rv⟩
/-- k in d, k not in d: the keys texts -/
theorem ev_din {p : Addr} {x : Str} {b : Bool} (ok : Cok C) (hk : EvD ta C ds (.str x)) (hd : EvD tb C ds (.obj p)) (hf : ∀ G H, C G H → ∃ kvs : List (Key × V), H p = some (.dK kvs) ∧ (valV kvs (.inr x)).isSome = b) : EvD (tDIn ta tb) C ds (.bl b) := fun G σ H k s Q z =>
  hk G σ H k s _ fun v G1 H1 p1 r1 => hd G1 σ H1 (ok.stp k p1) (s.mono p1.gg) _ fun w G2 H2 p2 r2 => by
    cases r1; cases r2
    obtain ⟨kvs, e, eb⟩ := hf G2 H2 (ok.stp k (p1.trans p2))
    exact ⟨p, _, rfl, DGet.k (k := .inr x) e, by rw [eb]; exact z _ G2 H2 (p1.trans p2) (.bl b)⟩
theorem ev_dni {p : Addr} {x : Str} {b : Bool} (ok : Cok C) (hk : EvD ta C ds (.str x)) (hd : EvD tb C ds (.obj p)) (hf : ∀ G H, C G H → ∃ kvs : List (Key × V), H p = some (.dK kvs) ∧ (valV kvs (.inr x)).isSome = b) : EvD (tDNotIn ta tb) C ds (.bl (!b)) := fun G σ H k s Q z =>
  hk G σ H k s _ fun v G1 H1 p1 r1 => hd G1 σ H1 (ok.stp k p1) (s.mono p1.gg) _ fun w G2 H2 p2 r2 => by
    cases r1; cases r2
    obtain ⟨kvs, e, eb⟩ := hf G2 H2 (ok.stp k (p1.trans p2))
    exact ⟨p, _, rfl, DGet.k (k := .inr x) e, by rw [eb]; exact z _ G2 H2 (p1.trans p2) (.bl (!b))⟩
/-- a list at p that may change: its items xs, of what stays -/
def Mu (p : Addr) (xs : List Dt) (G H : Hp) : Prop := G p = none ∧ ∃ vs, H p = some (.lst vs) ∧ RepA G vs xs
theorem Mu.stp {p : Addr} {G H G' H' : Hp} (m : Mu p xs G H) (st : Pu G H G' H') : Mu p xs G' H' := by
  obtain ⟨n, vs, e, r⟩ := m
  exact ⟨st.ap' e (fun z => z) (fun _ => nofun) n, vs, Pu.hs st _ _ e, r.mono st.gg⟩
/-- p.append(e) -/
theorem run_append {p : Addr} (ok : Cok C) (hp : EvD ta C ds (.obj p)) (he : EvD te C ds d) (hm : ∀ G H, C G H → Mu p xs G H) (hl : xs.length < Lim) (q : ∀ G σ H, C G H → Slots G σ ds → ∀ H', Mu p (xs ++ [d]) G H' → Stp (fun b => b = p) G H G H' → D.nx σ H') :
    Run (tDrop (tBM K "list" rAppend ta (tCons te tNil))) C ds D := fun G σ H k s =>
  hp G σ H k s _ fun v G1 H1 p1 r1 => by
    cases r1
    obtain ⟨n1, vs1, e1, q1⟩ := hm G1 H1 (ok.stp k p1)
    refine ⟨.inl ⟨rfl, _, SqL.of e1⟩, he G1 σ H1 (ok.stp k p1) (s.mono p1.gg) _ fun w G2 H2 p2 r2 => ?_⟩
    have k2 := ok.stp k (p1.trans p2)
    obtain ⟨n, vs, e, q2⟩ := hm G2 H2 k2
    refine ⟨p, vs, w, rfl, rfl, e, ?_, ?_⟩
    · rw [q2.length]; exact Nat.lt_of_lt_of_le hl (by rw [sizeLine_eq]; decide)
    · exact q G2 σ H2 k2 (s.mono (p1.trans p2).gg) _ ⟨n, _, upd_same, q2.append (.cons r2 .nil)⟩ ((Stp.refl (ok.sub k2)).write (.inl rfl) n)
end
end Kx

namespace Kx
open PySem L2

/-! ## The text's own defs, as callers see them -/
structure Cal (P : Program) (w : World) (K : PySem.W.Frag) (mg : Str → Option Value) (base : Heap) (x : Str) (k : Nat) (ps : List Str) (sp : Sp) : Prop where
  ex : ∃ (f : Addr) (fd : FuncData), FnOk P w K mg base CX0 k f fd ps sp ∧ mg x = some (.ref f) ∧ PySem.W.keepIn K (.ref f) = true ∧ Binds K fd ps []
/-- a def of the text, as the top has left it -/
structure Dfn (K : PySem.W.Frag) (mg : Str → Option Value) (x : Str) (st : Stmt) : Prop where
  ex : ∃ (f : Addr) (fd : FuncData), mg x = some (.ref f) ∧ Fun K x x st f fd
theorem pe_callC {X : Cx} {x : Str} {k : Nat} {ps : List Str} {sp : Sp} {p pos : Pos} {e : Expr} {es : List Expr} {t : TA} (c : Cal X.prog X.w X.K X.mg X.base x k ps sp) (hr : Room k X.A) (hg : Gl X x) (ha : PA X (e :: es) t) (hdb : (x == ("__debug__" : Str)) = false := by decide)
    (he : starEach (e :: es) X.env = (false, eval e X.env) :: starEach es X.env := by rfl) (hpl : (backTo pos (starEach es X.env)).any (·.1) = false := by rfl) : PE X (.Call (.Name x p) (e :: es) [] pos) (tCall sp [] E0 t) := by
  obtain ⟨f, fd, F, hm, hk, hb⟩ := c.ex
  exact pe_call F hr hg hm hk hb .nil pass0 ha hdb he hpl
section
variable {P : Program} {w : World} {K : PySem.W.Frag} {mg : Str → Option Value} {base : Heap}
theorem Cal.mono {x : Str} {j k : Nat} {ps : List Str} {sp : Sp} (c : Cal P w K mg base x j ps sp) (h : j ≤ k) : Cal P w K mg base x k ps sp := by
  obtain ⟨f, fd, F, r⟩ := c.ex
  exact ⟨f, fd, F.mono h, r⟩
theorem cal_of {x : Str} {st : Stmt} {k : Nat} {ps : List Str} {sp : Sp} (D : Dfn K mg x st) (h : ∀ (f : Addr) (fd : FuncData), Fun K x x st f fd → FnOk P w K mg base CX0 k f fd ps sp)
    (hb : ∀ (kV doc pm : Value) (an : Option Addr) (cdv ct : Value) (us : List Value), us.length = ps.length → bindArgs (PySem.W.fnOf x x (defArgs st) (defBody st) (defScope st) .none kV doc pm an cdv ct) ⟨us, []⟩ = pure (ps.zip us)) : Cal P w K mg base x k ps sp := by
  obtain ⟨f, fd, hm, F⟩ := D.ex
  exact ⟨f, fd, h f fd F, hm, F.kp, F.binds hb⟩
end
theorem pg_tupK {X : Cx} {K : PySem.W.Frag} {es : List Expr} {k : Nat} {t : TGs} {n : Nat} {pos : Pos} (hK : X.K = K) (hc : X.calm = true) (h : PGs X es t)
    (hn : (assignEach es X.env).length = n := by rfl) (hst : (assignEach es X.env).findIdx? (·.1) = none := by rfl) : PG X (.Tuple es k pos) (gTup K n t) := by
  subst hK
  exact pg_tup hc h hn hst
theorem pg_unlK {X : Cx} {K : PySem.W.Frag} {es : List Expr} {k : Nat} {t : TGs} {n : Nat} {pos : Pos} (hK : X.K = K) (hc : X.calm = true) (h : PGs X es t)
    (hn : (assignEach es X.env).length = n := by rfl) (hst : (assignEach es X.env).findIdx? (·.1) = none := by rfl) : PG X (.Tuple es k pos) (gUnl K n t) := by
  subst hK
  exact pg_unl hc h hn hst
/-- names of the world's own that the module leaves as they are, and its two constants -/
structure Blt (mg : Str → Option Value) : Prop where
  len_ : mg "len" = none
  all_ : mg "all" = none
  int_ : mg "int" = none
  str_ : mg "str" = none
  list_ : mg "list" = none
  tuple_ : mg "tuple" = none
  bool_ : mg "bool" = none
  dict_ : mg "dict" = none
  isinstance_ : mg "isinstance" = none
  range_ : mg "range" = none
  enumerate_ : mg "enumerate" = none
  zip_ : mg "zip" = none
  signs : ∃ t, mg "SIGNS" = some (.str "abcdefghijklmnopqrstuvwxyz0123456789" t)
  figures : ∃ t, mg "FIGURES" = some (.str "0123456789" t)
theorem pe_const {X : Cx} {x s : Str} {pos : Pos} (h : ∃ t, X.mg x = some (.str s t)) (hg : Gl X x) (hd : (x == ("__debug__" : Str)) = false := by decide) : PE X (.Name x pos) (tC (.str s)) := by
  obtain ⟨t, e⟩ := h
  exact pe_glob hg e ⟨t, rfl⟩ hd
section
variable {C : Hp → Hp → Prop} {ds : List (Option Dt)} {ta tb : TE} {a : Dt}
theorem rv_isN {b : Bool} (ok : Cok C) (h : (match a with | .non => true | _ => false) = b) : RV rIsN C a .non (.bl b) := fun G H x y k r1 r2 Q q => by
  cases r2
  refine ⟨rfl, ?_⟩
  have e : decide (x = V.non) = b := by
    rw [← h]
    cases r1 <;> simp
  rw [e]
  exact q _ G H (Pu.r ok k) (.bl b)
theorem rv_notN {b : Bool} (ok : Cok C) (h : (match a with | .non => true | _ => false) = b) : RV rNotN C a .non (.bl (!b)) := fun G H x y k r1 r2 Q q => by
  cases r2
  refine ⟨rfl, ?_⟩
  have e : decide (x = V.non) = b := by
    rw [← h]
    cases r1 <;> simp
  rw [e]
  exact q _ G H (Pu.r ok k) (.bl _)
theorem rv_inS {c : Nat} {z : Str} (ok : Cok C) : RV rInS C (.str ⟨#[c]⟩) (.str z) (.bl (decide (c ∈ z.cps.toList))) := fun G H x y k r1 r2 Q q => by
  cases r1; cases r2
  exact ⟨c, z, rfl, rfl, q _ G H (Pu.r ok k) (.bl _)⟩
theorem rv_niS {c : Nat} {z : Str} (ok : Cok C) : RV rNotInS C (.str ⟨#[c]⟩) (.str z) (.bl (!decide (c ∈ z.cps.toList))) := fun G H x y k r1 r2 Q q => by
  cases r1; cases r2
  exact ⟨c, z, rfl, rfl, q _ G H (Pu.r ok k) (.bl _)⟩
theorem rm_strip {x y : Str} (ok : Cok C) (hl : (Txt.stripChars x y).length ≤ Lim) : RM rStripC C (.str x) [.str y] (.str (Txt.stripChars x y)) := fun G H v vs k r1 r2 Q z => by
  cases r1 with
  | str _ hx =>
    cases r2 with
    | cons h r =>
      cases r
      cases h
      exact ⟨x, y, rfl, rfl, lim_line hx, z _ G H (Pu.r ok k) (.str _ hl)⟩
/-- the length of a number's text -/
theorem rc_strI {i : Int} (ok : Cok C) (h : i.natAbs.log2 < 1920) (hl : (numT i).length ≤ Lim) : RC rStrI C [.int i] (.str (numT i)) := fun G H vs k r Q z => by
  cases r with
  | cons h' r => cases r; cases h'; exact ⟨i, rfl, h, z _ G H (Pu.r ok k) (.str _ hl)⟩
theorem rc_strS {x : Str} (ok : Cok C) : RC rStrS C [.str x] (.str x) := fun G H vs k r Q z => by
  cases r with
  | cons h' r =>
    cases r
    cases h' with
    | str _ hx => exact ⟨x, rfl, z _ G H (Pu.r ok k) (.str _ hx)⟩
end
def top (i : Nat) : Stmt := PySem.Challenge.pw_glyphhall_k08_whole_texts.main.body.getD i (.Pass ⟨0, 0, 0, 0⟩)
end Kx

namespace Kx
open PySem L2

/-! ## Texts by their signs -/
abbrev tl (x : Str) : List Nat := x.cps.toList
theorem len_tl (x : Str) : x.length = (tl x).length := TL.len_tl x
theorem ext_tl {x y : Str} (h : tl x = tl y) : x = y := TL.ext_tl h
theorem tl_inj {x y : Str} : tl x = tl y ↔ x = y := ⟨ext_tl, fun h => h ▸ rfl⟩
theorem tl_app (x y : Str) : tl (x ++ y) = tl x ++ tl y := TL.tl_append x y
abbrev SIG : Str := "abcdefghijklmnopqrstuvwxyz0123456789"
abbrev FIG : Str := "0123456789"
theorem tl_strSub (x : Str) (i j : Nat) : tl (Builtin.Str.strSub x i j) = ((tl x).drop i).take (j - i) := TL.tl_strSub x i j
theorem strip_tl (x y : Str) : ∃ a b, tl (Txt.stripChars x y) = ((tl x).drop a).take b := by
  unfold Txt.stripChars Txt.stripBy
  split
  · exact ⟨0, (tl x).length, by rw [List.drop_zero, List.take_length]⟩
  · exact ⟨_, _, tl_strSub _ _ _⟩
theorem strip_len (x y : Str) : (Txt.stripChars x y).length ≤ x.length := by
  obtain ⟨a, b, e⟩ := strip_tl x y
  rw [len_tl, len_tl, e, List.length_take, List.length_drop]
  omega
theorem rm_strip' {C : Hp → Hp → Prop} {x y : Str} (ok : Cok C) : RM rStripC C (.str x) [.str y] (.str (Txt.stripChars x y)) := fun G H v vs k r1 r2 Q z => by
  have h : x.length ≤ Lim := by cases r1 with | str _ hx => exact hx
  exact rm_strip ok (Nat.le_trans (strip_len x y) h) G H v vs k r1 r2 Q z
theorem takeWhile_all {p : Nat → Bool} : ∀ {l : List Nat}, (∀ c ∈ l, p c = true) → l.takeWhile p = l
  | [], _ => rfl
  | a :: l, h => by rw [List.takeWhile_cons, if_pos (h a List.mem_cons_self), takeWhile_all fun c hc => h c (List.mem_cons_of_mem _ hc)]
theorem takeWhile_le {p : Nat → Bool} : ∀ l : List Nat, (l.takeWhile p).length ≤ l.length
  | [] => Nat.le_refl _
  | a :: l => by
    rw [List.takeWhile_cons]
    split
    · exact Nat.succ_le_succ (takeWhile_le l)
    · exact Nat.zero_le _
theorem takeWhile_lt {p : Nat → Bool} : ∀ {l : List Nat} {c : Nat}, c ∈ l → p c = false → (l.takeWhile p).length < l.length
  | a :: l, c, h, e => by
    rw [List.takeWhile_cons]
    split
    · rename_i ha
      rcases List.mem_cons.mp h with rfl | h
      · rw [e] at ha; cases ha
      · exact Nat.succ_lt_succ (takeWhile_lt h e)
    · exact Nat.succ_pos _
theorem drop_takeWhile {p : Nat → Bool} : ∀ {l : List Nat} {c : Nat}, c ∈ l → p c = false → ∃ d ∈ l.drop (l.takeWhile p).length, p d = false
  | a :: l, c, h, e => by
    rw [List.takeWhile_cons]
    split
    · rename_i ha
      rcases List.mem_cons.mp h with rfl | h
      · rw [e] at ha; cases ha
      · exact drop_takeWhile h e
    · rename_i ha
      exact ⟨a, List.mem_cons_self, by simpa using ha⟩
/-- nothing is left of a text that is stripped of its own signs -/
theorem strip_empty (x y : Str) : decide (Txt.stripChars x y = "") = (tl x).all fun c => decide (c ∈ tl y) := by
  have hg : ∀ c, y.cps.contains c = decide (c ∈ tl y) := fun c => by
    rw [Bool.eq_iff_iff, decide_eq_true_eq]
    simp [tl]
  cases e : (tl x).all fun c => decide (c ∈ tl y) with
  | true =>
    refine decide_eq_true (ext_tl ?_)
    have all : ∀ c ∈ tl x, y.cps.contains c = true := fun c hc => by rw [hg]; exact List.all_eq_true.mp e c hc
    unfold Txt.stripChars Txt.stripBy
    have lo : stripLo y.cps.contains true x = (tl x).length := by
      show (if true = true then _ else _) = _
      rw [if_pos rfl, takeWhile_all all]
    split
    · rename_i hs
      unfold stripSame at hs
      rw [lo] at hs
      have h0 : (tl x).length = 0 := by simpa using ((Bool.and_eq_true _ _).mp hs).1
      have e1 : tl x = [] := List.length_eq_zero_iff.mp h0
      rw [e1]; rfl
    · show tl (Builtin.Str.strSub x _ _) = _
      rw [tl_strSub, lo, List.drop_length]; simp; rfl
  | false =>
    refine decide_eq_false fun h => ?_
    obtain ⟨c, hc, hn⟩ := List.all_eq_false.mp e
    have hn' : y.cps.contains c = false := by rw [hg]; simpa using hn
    have h' : tl (Txt.stripChars x y) = [] := by rw [h]; rfl
    unfold Txt.stripChars Txt.stripBy at h'
    split at h'
    · rw [h'] at hc; cases hc
    · have h2 : tl (Builtin.Str.strSub x (stripLo y.cps.contains true x) (stripHi y.cps.contains true x (stripLo y.cps.contains true x))) = [] := h'
      rw [tl_strSub] at h2
      have lo : stripLo y.cps.contains true x = ((tl x).takeWhile y.cps.contains).length := by
        show (if true = true then _ else _) = _
        rw [if_pos rfl]
      obtain ⟨d, hd, hdn⟩ := drop_takeWhile hc hn'
      have hi : stripHi y.cps.contains true x (stripLo y.cps.contains true x) = x.length - (((tl x).drop (stripLo y.cps.contains true x)).reverse.takeWhile y.cps.contains).length := by
        show (if true = true then _ else _) = _
        rw [if_pos rfl]
      rw [hi, lo] at h2
      have l1 := takeWhile_lt (p := y.cps.contains) (List.mem_reverse.mpr hd) hdn
      have l2 := takeWhile_lt (p := y.cps.contains) hc hn'
      have l3 := congrArg List.length h2
      rw [List.length_take, List.length_reverse, List.length_drop] at *
      simp only [List.length_nil] at l3
      rw [len_tl] at l3
      omega
/-! ### parts of texts, of rows -/
theorem sIx_some (n d k : Nat) : HT.sIx n d (some (k : Int)) = min k n := HT.sIx_nat n d k
theorem tl_cut (z : Str) (lo hi : Option Int) : tl (cutS z lo hi) = ((tl z).drop (HT.sIx z.length 0 lo)).take (HT.sIx z.length z.length hi - HT.sIx z.length 0 lo) := rfl
theorem tl_cutL (z : Str) (k : Nat) : tl (cutS z none (some (k : Int))) = (tl z).take k := by
  rw [tl_cut, sIx_some, HT.sIx_none, List.drop_zero, len_tl, Nat.sub_zero]
  by_cases h : k ≤ (tl z).length
  · rw [Nat.min_eq_left h]
  · rw [Nat.min_eq_right (by omega), List.take_length, List.take_of_length_le (by omega)]
theorem tl_cutR (z : Str) (k : Nat) : tl (cutS z (some (k : Int)) none) = (tl z).drop k := by
  rw [tl_cut, sIx_some, HT.sIx_none, len_tl]
  by_cases h : k ≤ (tl z).length
  · rw [Nat.min_eq_left h, List.take_of_length_le]; rw [List.length_drop]; exact Nat.le_refl _
  · rw [Nat.min_eq_right (by omega), List.drop_length, List.drop_eq_nil_of_le (by omega)]; simp
theorem cutD_L (xs : List Dt) (k : Nat) : cutD xs none (some (k : Int)) = xs.take k := by
  unfold cutD
  rw [sIx_some, HT.sIx_none, List.drop_zero, Nat.sub_zero]
  by_cases h : k ≤ xs.length
  · rw [Nat.min_eq_left h]
  · rw [Nat.min_eq_right (by omega), List.take_length, List.take_of_length_le (by omega)]
theorem cutD_R (xs : List Dt) (k : Nat) : cutD xs (some (k : Int)) none = xs.drop k := by
  unfold cutD
  rw [sIx_some, HT.sIx_none]
  by_cases h : k ≤ xs.length
  · rw [Nat.min_eq_left h, List.take_of_length_le]; rw [List.length_drop]; exact Nat.le_refl _
  · rw [Nat.min_eq_right (by omega), List.drop_length, List.drop_eq_nil_of_le (by omega)]; simp
theorem cutD_M (xs : List Dt) (j k : Nat) : cutD xs (some (j : Int)) (some (k : Int)) = (xs.drop j).take (k - j) := by
  unfold cutD
  rw [sIx_some, sIx_some]
  by_cases h : j ≤ xs.length
  · rw [Nat.min_eq_left h]
    by_cases h2 : k ≤ xs.length
    · rw [Nat.min_eq_left h2]
    · rw [Nat.min_eq_right (by omega), List.take_of_length_le (by rw [List.length_drop]; omega), List.take_of_length_le (by rw [List.length_drop]; omega)]
  · rw [Nat.min_eq_right (show xs.length ≤ j by omega), List.drop_length, List.drop_eq_nil_of_le (show xs.length ≤ j by omega)]; simp
theorem tx_drop (l : List Str) (k : Nat) : (tx l).drop k = tx (l.drop k) := by simp [tx, List.map_drop]
theorem tx_take (l : List Str) (k : Nat) : (tx l).take k = tx (l.take k) := by simp [tx, List.map_take]
theorem atI_txt {l : List Str} {k : Nat} {x : Str} (h : l[k]? = some x) : atI (tx l) (k : Int) = some (Dt.str x) := atI_nat (by rw [List.getElem?_map, h]; rfl)
theorem at_nat {xs : List Dt} {k : Nat} {d : Dt} (h : xs[k]? = some d) : atI xs (k : Int) = some d := atI_nat h

theorem at_nat0 {α : Type} {xs : List α} {d : α} (h : xs[0]? = some d) : atI xs (0 : Int) = some d := atI_nat (j := 0) h
theorem at0 {x : Str} {c : Nat} {r : List Nat} (h : tl x = c :: r) : atI x.cps.toList (0 : Int) = some c := by rw [show x.cps.toList = c :: r from h]; exact at_nat0 rfl
/-! ## names.py -/
def isName (w : Str) : Bool := (decide (1 ≤ w.length) && decide (w.length ≤ 12)) && (tl w).all fun c => decide (c ∈ tl SIG)
def digs (w : Str) : Bool := (tl w).all fun c => decide (c ∈ tl FIG)
def isNum (w : Str) : Bool := ((decide (1 ≤ w.length) && decide (w.length ≤ 5)) && digs w) && (decide ((tl w).head? ≠ some 48) || decide (w = "0"))
def numV (w : Str) : Int := ((NumText.digitsVal (tl w) : Nat) : Int)
def numOf (w : Str) : Option Int := if isNum w then some (numV w) else none
/-- the signs behind a - -/
def rest1 (w : Str) : Str := cutS w (some 1) none
def isNeg (w : Str) : Bool := decide ((tl w).take 1 = [45])
def isSigned (w : Str) : Bool := if isNeg w then isNum (rest1 w) && decide (numV (rest1 w) ≠ 0) else isNum w
def sgnV (w : Str) : Int := if isNeg w then -numV (rest1 w) else numV w
def signedOf (w : Str) : Option Int := if isSigned w then some (sgnV w) else none
def isItem (w : Str) : Bool := if decide ((tl w).take 1 = [64]) then isName (rest1 w) else isName w
/-- a row's words -/
def wordsOf (r : Str) : List Str := (Txt.split r " ").filter fun w => !decide (w = "")
def optI : Option Int → Dt
  | some i => .int i
  | none => .non
theorem digs_all {w : Str} (h : digs w = true) : NumText.AllDigits (tl w) := fun c hc => by
  have := List.all_eq_true.mp h c hc
  have m : c ∈ tl FIG := of_decide_eq_true this
  have e : tl FIG = [48, 49, 50, 51, 52, 53, 54, 55, 56, 57] := by decide +kernel
  rw [e] at m
  simp at m
  omega
theorem isNum_int {w : Str} (h : isNum w = true) : intText? w = some (numV w) ∧ w.length ≤ 5 := by
  unfold isNum at h
  simp only [Bool.and_eq_true, decide_eq_true_eq] at h
  obtain ⟨⟨⟨h1, h5⟩, hd⟩, _⟩ := h
  refine ⟨intText_digits (digs_all hd) (fun e => ?_) (by omega), h5⟩
  rw [len_tl] at h1
  have : (tl w).length = 0 := by rw [show tl w = [] from e]; rfl
  omega
end Kx

namespace Kx
open PySem L2
section
variable {P : Program} {w : World} {K : PySem.W.Frag} {mg : Str → Option Value} {base : Heap}
local macro_rules | `(tactic| walk_at "ev") => `(tactic| with_reducible first
  | (show EvD _ _ _ _; first
    | exact ev_var (by assumption) rfl
    | exact ev_int (by assumption)
    | exact ev_str (by assumption)
    | exact ev_non (by assumption)
    | exact ev_bl (by assumption)
    | (refine' ev_call (by assumption) ?_ ?_ ?_ <;> (try walk_at "ev"))
    | (refine' ev_op (by assumption) ?_ ?_ ?_ <;> (try walk_at "ev"))
    | (refine' ev_un (by assumption) ?_ rfl <;> (try walk_at "ev"))
    | (refine' ev_andV (by assumption) ?_ (fun _ => ?_) <;> (try walk_at "ev"))
    | (refine' ev_orV (by assumption) ?_ (fun _ => ?_) <;> (try walk_at "ev"))
    | (refine' ev_notV (by assumption) ?_ <;> (try walk_at "ev"))
    | (refine' ev_chain (by assumption) ?_ ?_ ?_ ?_ ?_ <;> (try walk_at "ev"))
    | (refine' ev_cb (by assumption) ?_ ?_ <;> (try walk_at "ev"))
    | (refine' ev_bm (by assumption) ?_ ?_ ?_ <;> (try walk_at "ev"))
    | (refine' ev_m1 (by assumption) ?_ ?_ ?_ <;> (try walk_at "ev"))
    | (refine' ev_sliceS (by assumption) ?_ ?_ ?_ <;> (try walk_at "ev"))
    | (refine' ev_slice (by assumption) ?_ ?_ ?_ <;> (try walk_at "ev"))
    | (refine' ev_tup (by assumption) ?_ ?_ <;> (try walk_at "ev"))
    | (refine' ev_lst (by assumption) ?_ ?_ <;> (try walk_at "ev"))
    | exact ev_h_shapes (by assumption) (by assumption) (by assumption) (ev_var (by assumption) rfl)
    | exact ev_h_marks (by assumption) (by assumption) (by assumption) (ev_var (by assumption) rfl)
    | exact ev_h_points (by assumption) (by assumption) (by assumption) (ev_var (by assumption) rfl)
    | exact ev_h_letters (by assumption) (by assumption) (by assumption) (ev_var (by assumption) rfl)
    | exact ev_h_gaps (by assumption) (by assumption) (by assumption) (ev_var (by assumption) rfl)
    | exact ev_h_classes (by assumption) (by assumption) (by assumption) (ev_var (by assumption) rfl)
    | exact ev_h_features (by assumption) (by assumption) (by assumption) (ev_var (by assumption) rfl)
    | exact ev_h_rules (by assumption) (by assumption) (by assumption) (ev_var (by assumption) rfl)
    | (refine' ev_dinK (by assumption) ?_ ?_ ?_ <;> (try walk_at "ev"))
    | (refine' ev_dniK (by assumption) ?_ ?_ ?_ <;> (try walk_at "ev"))
    | (refine' ev_dinT (by assumption) ?_ ?_ ?_ <;> (try walk_at "ev")))
  | (show EvA _ _ _ _; first
    | exact ea_nil (by assumption)
    | (refine' ea_cons (by assumption) ?_ ?_ <;> (try walk_at "ev")))
  | (show RV _ _ _ _ _; first
    | exact rv_int (by assumption)
    | exact rv_cmp (by assumption)
    | exact rv_eq (by assumption) rfl
    | exact rv_ne (by assumption) rfl
    | exact rv_isN (by assumption) rfl
    | exact rv_notN (by assumption) rfl
    | exact rv_inT (by assumption) (.inl rfl)
    | exact rv_inT (by assumption) (.inr rfl)
    | exact rv_niT (by assumption) (.inl rfl)
    | exact rv_niT (by assumption) (.inr rfl)
    | exact rv_inS (by assumption)
    | exact rv_niS (by assumption)
    | exact rv_ixS (by assumption) (by assumption)
    | exact rv_ixL (by assumption) (by assumption)
    | exact rv_ixT (by assumption) (by assumption)
    | exact rv_ixT (by assumption) rfl
    | exact rv_ixL (by assumption) rfl
    | (refine' rv_inM (by assumption) ?_ <;> (try walk_at "ev"))
    | (refine' rv_niM (by assumption) ?_ <;> (try walk_at "ev"))
    | (refine' rv_inX (by assumption) ?_ (.inl rfl) <;> (try walk_at "ev"))
    | (refine' rv_inX (by assumption) ?_ (.inr rfl) <;> (try walk_at "ev"))
    | (refine' rv_niX (by assumption) ?_ (.inl rfl) <;> (try walk_at "ev"))
    | (refine' rv_niX (by assumption) ?_ (.inr rfl) <;> (try walk_at "ev"))
    | exact rv_in (neg := false) (by assumption) rfl rfl (.inr rfl)
    | exact rv_in (neg := true) (by assumption) rfl rfl (.inr rfl)
    | exact rv_intC (g := fun i j => i % j) (by assumption) (by decide)
    | exact rv_intC (g := fun i j => i / j) (by assumption) (cdiv_ok (by decide)))
  | (show EvT _ _ _ _; first
    | exact et_yes (by assumption)
    | (refine' et_and (by assumption) ?_ (fun _ => ?_) <;> (try walk_at "ev"))
    | (refine' et_or (by assumption) ?_ (fun _ => ?_) <;> (try walk_at "ev"))
    | (refine' et_not ?_ <;> (try walk_at "ev"))
    | (refine' et_test ?_ <;> (try walk_at "ev"))
    | (refine' et_B ?_ <;> (try walk_at "ev")))
  | (show RC _ _ _ _; first
    | exact rc_lenL (by assumption)
    | exact rc_lenT (by assumption)
    | exact rc_lenS (by assumption)
    | exact rc_all (by assumption)
    | exact rc_intB (by assumption)
    | exact rc_strS (by assumption)
    | exact rc_listOf (by assumption) (.inl rfl)
    | exact rc_listOf (by assumption) (.inr rfl)
    | exact rc_tupOf (by assumption)
    | (refine' rc_lenD (by assumption) ?_ <;> (try walk_at "ev"))
    | (refine' rc_lenM (by assumption) ?_ <;> (try walk_at "ev")))
  | (show RM _ _ _ _ _; first
    | exact rm_strip' (by assumption))
  | (show EvO _ _ _ _; first
    | exact eo_none (by assumption)
    | (refine' eo_some ?_ <;> (try walk_at "ev")))
  | (show List.length _ ≤ Lim; with_unfolding_all exact Nat.le_of_ble_eq_true rfl)
  | (show List.length _ = _; with_unfolding_all rfl)
  | exact (fun _ _ _ => ⟨_, rfl, rfl⟩)
  | exact (fun _ _ _ => ⟨_, _, rfl, rfl⟩)
  | exact (fun _ _ _ => ⟨_, _, _, rfl, rfl⟩)
  | exact (fun _ _ _ => ⟨_, rfl, by assumption, rfl⟩)
  | exact hall_s (by assumption)
  | exact hall_m (by assumption)
  | exact hall_p (by assumption)
  | exact hall_l (by assumption)
  | exact hall_g (by assumption)
  | exact hall_c (by assumption)
  | exact hall_f (by assumption)
  | exact hall_r (by assumption)
  | exact TxL.of _
  | exact TxL.nil
  | (refine' TxL.cons ?_ <;> (try walk_at "ev")))


abbrev s_is_name : Stmt := top 10
abbrev N_is_name : List Str := ["word"]
abbrev P_is_name : List Str := ["word"]
theorem sc_is_name : FnScope N_is_name P_is_name (defScope s_is_name) := ⟨rfl, rfl, rfl, by decide +kernel, rfl, by decide +kernel, by decide +kernel⟩

abbrev spIsName : Sp := SpF 1 fun _ _ as r => ∃ x, as = [.str x] ∧ r = .bl (isName x)
theorem cal_is_name (B : Blt mg) (D : Dfn K mg "is_name" s_is_name) : Cal P w K mg base "is_name" 1 P_is_name spIsName := by
  have sc := sc_is_name
  refine cal_of D (fun f fd F => fnok F sc fun cdv A outer s H E hr => ⟨_, (pss_one (ps_ret (pe_and (pe_chain op_le op_le pe_int (pe_callB (r := rLen K) call_lenK (by rfl) B.len_ (by decide +kernel) (pa_cons (pv 0) pa_nil)) pe_int) (pe_one (pe_cmpR op_eq (pe_bm PySem.F.plainAttrs_str PySem.F.slot_str_strip PySem.F.type_str_strip mt_stripC (pv 0) (pa_cons (pe_const B.signs rfl) pa_nil)) pe_str (nomark _)))))), fun G as r D hl sm hp hq hx => ?_⟩) (fun _ _ _ _ _ _ us hl => match us, hl with | [_], _ => rfl)
  obtain ⟨x, rfl, rfl⟩ := hp
  have ok : Cok (Bs No G H) := Bs.ok
  refine run_ret ok (by walk_at "ev") ?_ hq
  rw [strip_empty]
  have e1 : decide ((1 : Int) ≤ x.length) = decide (1 ≤ x.length) := decide_eq_decide.mpr (by omega)
  have e2 : decide ((x.length : Int) ≤ 12) = decide (x.length ≤ 12) := decide_eq_decide.mpr (by omega)
  rw [e1, e2]; rfl

abbrev s_number_of : Stmt := top 11
abbrev N_number_of : List Str := ["word"]
abbrev P_number_of : List Str := ["word"]
theorem sc_number_of : FnScope N_number_of P_number_of (defScope s_number_of) := ⟨rfl, rfl, rfl, by decide +kernel, rfl, by decide +kernel, by decide +kernel⟩

abbrev spNumberOf : Sp := SpF 1 fun _ _ as r => ∃ x, as = [.str x] ∧ r = optI (numOf x)
theorem cal_number_of (B : Blt mg) (D : Dfn K mg "number_of" s_number_of) : Cal P w K mg base "number_of" 1 P_number_of spNumberOf := by
  have sc := sc_number_of
  refine cal_of D (fun f fd F => fnok F sc fun cdv A outer s H E hr => ⟨_, (pss_cons (ps_if (PW.pt (pw_or (pt_not (pt_chain op_le op_le pe_int (pe_callB (r := rLen K) call_lenK (by rfl) B.len_ (by decide +kernel) (pa_cons (pv 0) pa_nil)) pe_int)) (pw_or1 (pt_cmpR op_ne (pe_bm PySem.F.plainAttrs_str PySem.F.slot_str_strip PySem.F.type_str_strip mt_stripC (pv 0) (pa_cons (pe_const B.figures rfl) pa_nil)) pe_str (nomark _))))) (pss_one (ps_ret pe_non)) pss_nil)
      (pss_cons (ps_if (PW.pt (pw_and (pt_cmpR op_eq (pe_ix ix_str (pv 0) pe_int (fun _ _ => rfl)) pe_str (nomark _)) (pw_and1 (pt_cmpR op_ne (pv 0) pe_str (nomark _))))) (pss_one (ps_ret pe_non)) pss_nil)
      (pss_one (ps_ret (pe_callTy call_intS (by rfl) B.int_ (by decide +kernel) (pa_cons (pv 0) pa_nil)))))), fun G as r D hl sm hp hq hx => ?_⟩) (fun _ _ _ _ _ _ us hl => match us, hl with | [_], _ => rfl)
  obtain ⟨x, rfl, rfl⟩ := hp
  have ok : Cok (Bs No G H) := Bs.ok
  have eL : (!(decide ((1 : Int) ≤ x.length) && decide ((x.length : Int) ≤ 5)) || !decide (Txt.stripChars x "0123456789" = "")) = !((decide (1 ≤ x.length) && decide (x.length ≤ 5)) && digs x) := by
    rw [strip_empty]
    have e1 : decide ((1 : Int) ≤ x.length) = decide (1 ≤ x.length) := decide_eq_decide.mpr (by omega)
    have e2 : decide ((x.length : Int) ≤ 5) = decide (x.length ≤ 5) := decide_eq_decide.mpr (by omega)
    rw [e1, e2]
    show (!(decide (1 ≤ x.length) && decide (x.length ≤ 5)) || !digs x) = _
    cases decide (1 ≤ x.length) <;> cases decide (x.length ≤ 5) <;> cases digs x <;> rfl
  refine run_when ok ((show EvT _ _ _ _ by walk_at "ev").is eL) (fun e => ?_) (fun e => ?_)
  · refine run_ret ok (by walk_at "ev") ?_ hq
    have h : isNum x = false := by
      unfold isNum
      cases q : ((decide (1 ≤ x.length) && decide (x.length ≤ 5)) && digs x) with
      | true => rw [q] at e; cases e
      | false => rfl
    unfold numOf; rw [h]; rfl
  · have q : ((decide (1 ≤ x.length) && decide (x.length ≤ 5)) && digs x) = true := by
      cases q : ((decide (1 ≤ x.length) && decide (x.length ≤ 5)) && digs x) with
      | true => rfl
      | false => rw [q] at e; cases e
    obtain ⟨c, rs, ex⟩ : ∃ c rs, tl x = c :: rs := by
      simp only [Bool.and_eq_true, decide_eq_true_eq] at q
      have h1 := q.1.1
      rw [len_tl] at h1
      cases ex : tl x with
      | nil => rw [ex] at h1; simp at h1
      | cons c rs => exact ⟨c, rs, rfl⟩
    have hix : atI x.cps.toList 0 = some c := by
      rw [show x.cps.toList = c :: rs from ex]; exact atI_nat (j := 0) rfl
    have e0 : decide (({ cps := #[c] } : Str) = "0") = decide (c = 48) := decide_eq_decide.mpr ⟨fun h => by
      have := congrArg tl h
      have e : tl "0" = [48] := by decide +kernel
      rw [e] at this
      exact (List.cons.inj this).1, fun h => by subst h; exact ext_tl (by decide +kernel)⟩
    have hd : (tl x).head? = some c := by rw [ex]; rfl
    refine run_when ok (by walk_at "ev") (fun e2 => ?_) (fun e2 => ?_)
    · refine run_ret ok (by walk_at "ev") ?_ hq
      rw [e0] at e2
      simp only [Bool.and_eq_true, decide_eq_true_eq, Bool.not_eq_true', decide_eq_false_iff_not] at e2
      have h : isNum x = false := by
        unfold isNum
        rw [q, hd, e2.1]
        simp [e2.2]
      unfold numOf; rw [h]; rfl
    · rw [e0] at e2
      have h : isNum x = true := by
        unfold isNum
        rw [q, hd]
        by_cases hc : c = 48
        · have : x = "0" := by
            by_cases hx : x = "0"
            · exact hx
            · simp [hc, hx] at e2
          simp [this]
        · simp [hc]
      obtain ⟨hi, h5⟩ := isNum_int h
      refine run_ret ok (ev_cb ok (by walk_at "ev") (rc_intS ok hi (by omega))) ?_ hq
      unfold numOf; rw [h]; rfl
end
end Kx

namespace Kx
open PySem L2
section
variable {P : Program} {w : World} {K : PySem.W.Frag} {mg : Str → Option Value} {base : Heap}
local macro_rules | `(tactic| walk_at "ev") => `(tactic| with_reducible first
  | (show EvD _ _ _ _; first
    | exact ev_var (by assumption) rfl
    | exact ev_int (by assumption)
    | exact ev_str (by assumption)
    | exact ev_non (by assumption)
    | exact ev_bl (by assumption)
    | (refine' ev_call (by assumption) ?_ ?_ ?_ <;> (try walk_at "ev"))
    | (refine' ev_op (by assumption) ?_ ?_ ?_ <;> (try walk_at "ev"))
    | (refine' ev_un (by assumption) ?_ rfl <;> (try walk_at "ev"))
    | (refine' ev_andV (by assumption) ?_ (fun _ => ?_) <;> (try walk_at "ev"))
    | (refine' ev_orV (by assumption) ?_ (fun _ => ?_) <;> (try walk_at "ev"))
    | (refine' ev_notV (by assumption) ?_ <;> (try walk_at "ev"))
    | (refine' ev_chain (by assumption) ?_ ?_ ?_ ?_ ?_ <;> (try walk_at "ev"))
    | (refine' ev_cb (by assumption) ?_ ?_ <;> (try walk_at "ev"))
    | (refine' ev_bm (by assumption) ?_ ?_ ?_ <;> (try walk_at "ev"))
    | (refine' ev_m1 (by assumption) ?_ ?_ ?_ <;> (try walk_at "ev"))
    | (refine' ev_sliceS (by assumption) ?_ ?_ ?_ <;> (try walk_at "ev"))
    | (refine' ev_slice (by assumption) ?_ ?_ ?_ <;> (try walk_at "ev"))
    | (refine' ev_tup (by assumption) ?_ ?_ <;> (try walk_at "ev"))
    | (refine' ev_lst (by assumption) ?_ ?_ <;> (try walk_at "ev"))
    | exact ev_h_shapes (by assumption) (by assumption) (by assumption) (ev_var (by assumption) rfl)
    | exact ev_h_marks (by assumption) (by assumption) (by assumption) (ev_var (by assumption) rfl)
    | exact ev_h_points (by assumption) (by assumption) (by assumption) (ev_var (by assumption) rfl)
    | exact ev_h_letters (by assumption) (by assumption) (by assumption) (ev_var (by assumption) rfl)
    | exact ev_h_gaps (by assumption) (by assumption) (by assumption) (ev_var (by assumption) rfl)
    | exact ev_h_classes (by assumption) (by assumption) (by assumption) (ev_var (by assumption) rfl)
    | exact ev_h_features (by assumption) (by assumption) (by assumption) (ev_var (by assumption) rfl)
    | exact ev_h_rules (by assumption) (by assumption) (by assumption) (ev_var (by assumption) rfl)
    | (refine' ev_dinK (by assumption) ?_ ?_ ?_ <;> (try walk_at "ev"))
    | (refine' ev_dniK (by assumption) ?_ ?_ ?_ <;> (try walk_at "ev"))
    | (refine' ev_dinT (by assumption) ?_ ?_ ?_ <;> (try walk_at "ev")))
  | (show EvA _ _ _ _; first
    | exact ea_nil (by assumption)
    | (refine' ea_cons (by assumption) ?_ ?_ <;> (try walk_at "ev")))
  | (show RV _ _ _ _ _; first
    | exact rv_int (by assumption)
    | exact rv_cmp (by assumption)
    | exact rv_eq (by assumption) rfl
    | exact rv_ne (by assumption) rfl
    | exact rv_isN (by assumption) rfl
    | exact rv_notN (by assumption) rfl
    | exact rv_inT (by assumption) (.inl rfl)
    | exact rv_inT (by assumption) (.inr rfl)
    | exact rv_niT (by assumption) (.inl rfl)
    | exact rv_niT (by assumption) (.inr rfl)
    | exact rv_inS (by assumption)
    | exact rv_niS (by assumption)
    | exact rv_ixS (by assumption) (by assumption)
    | exact rv_ixL (by assumption) (by assumption)
    | exact rv_ixT (by assumption) (by assumption)
    | exact rv_ixT (by assumption) rfl
    | exact rv_ixL (by assumption) rfl
    | (refine' rv_inM (by assumption) ?_ <;> (try walk_at "ev"))
    | (refine' rv_niM (by assumption) ?_ <;> (try walk_at "ev"))
    | (refine' rv_inX (by assumption) ?_ (.inl rfl) <;> (try walk_at "ev"))
    | (refine' rv_inX (by assumption) ?_ (.inr rfl) <;> (try walk_at "ev"))
    | (refine' rv_niX (by assumption) ?_ (.inl rfl) <;> (try walk_at "ev"))
    | (refine' rv_niX (by assumption) ?_ (.inr rfl) <;> (try walk_at "ev"))
    | exact rv_in (neg := false) (by assumption) rfl rfl (.inr rfl)
    | exact rv_in (neg := true) (by assumption) rfl rfl (.inr rfl)
    | exact rv_intC (g := fun i j => i % j) (by assumption) (by decide)
    | exact rv_intC (g := fun i j => i / j) (by assumption) (cdiv_ok (by decide)))
  | (show EvT _ _ _ _; first
    | exact et_yes (by assumption)
    | (refine' et_and (by assumption) ?_ (fun _ => ?_) <;> (try walk_at "ev"))
    | (refine' et_or (by assumption) ?_ (fun _ => ?_) <;> (try walk_at "ev"))
    | (refine' et_not ?_ <;> (try walk_at "ev"))
    | (refine' et_test ?_ <;> (try walk_at "ev"))
    | (refine' et_B ?_ <;> (try walk_at "ev")))
  | (show RC _ _ _ _; first
    | exact rc_lenL (by assumption)
    | exact rc_lenT (by assumption)
    | exact rc_lenS (by assumption)
    | exact rc_all (by assumption)
    | exact rc_intB (by assumption)
    | exact rc_strS (by assumption)
    | exact rc_listOf (by assumption) (.inl rfl)
    | exact rc_listOf (by assumption) (.inr rfl)
    | exact rc_tupOf (by assumption)
    | (refine' rc_lenD (by assumption) ?_ <;> (try walk_at "ev"))
    | (refine' rc_lenM (by assumption) ?_ <;> (try walk_at "ev")))
  | (show RM _ _ _ _ _; first
    | exact rm_strip' (by assumption))
  | (show EvO _ _ _ _; first
    | exact eo_none (by assumption)
    | (refine' eo_some ?_ <;> (try walk_at "ev")))
  | (show List.length _ ≤ Lim; with_unfolding_all exact Nat.le_of_ble_eq_true rfl)
  | (show List.length _ = _; with_unfolding_all rfl)
  | exact (fun _ _ _ => ⟨_, rfl, rfl⟩)
  | exact (fun _ _ _ => ⟨_, _, rfl, rfl⟩)
  | exact (fun _ _ _ => ⟨_, _, _, rfl, rfl⟩)
  | exact (fun _ _ _ => ⟨_, rfl, by assumption, rfl⟩)
  | exact hall_s (by assumption)
  | exact hall_m (by assumption)
  | exact hall_p (by assumption)
  | exact hall_l (by assumption)
  | exact hall_g (by assumption)
  | exact hall_c (by assumption)
  | exact hall_f (by assumption)
  | exact hall_r (by assumption)
  | exact TxL.of _
  | exact TxL.nil
  | (refine' TxL.cons ?_ <;> (try walk_at "ev")))

theorem head1_eq (x : Str) (c : Nat) (s : Str) (hs : tl s = [c]) : decide (cutS x none (some 1) = s) = decide ((tl x).take 1 = [c]) := by
  refine decide_eq_decide.mpr ?_
  rw [← tl_inj, show tl (cutS x none (some 1)) = (tl x).take 1 from tl_cutL x 1, hs]

abbrev s_signed_of : Stmt := top 12
abbrev N_signed_of : List Str := ["word", "number"]
abbrev P_signed_of : List Str := ["word"]
theorem sc_signed_of : FnScope N_signed_of P_signed_of (defScope s_signed_of) := ⟨rfl, rfl, rfl, by decide +kernel, rfl, by decide +kernel, by decide +kernel⟩

abbrev spSignedOf : Sp := SpF 1 fun _ _ as r => ∃ x, as = [.str x] ∧ r = optI (signedOf x)
theorem cal_signed_of (B : Blt mg) (D : Dfn K mg "signed_of" s_signed_of) (C_number_of : Cal P w K mg base "number_of" 1 P_number_of spNumberOf) : Cal P w K mg base "signed_of" 2 P_signed_of spSignedOf := by
  have sc := sc_signed_of
  refine cal_of D (fun f fd F => fnok F sc fun cdv A outer s H E hr => have hr1 := hr; ⟨_, (pss_cons (ps_if (pt_cmpR op_ne (pe_slice (r := rSlS) sl_str (pv 0) po_none (po_some pe_int)) pe_str (nomark _)) (pss_one (ps_ret (pe_callC C_number_of hr1 rfl (pa_cons (pv 0) pa_nil)))) pss_nil)
      (pss_cons (ps_set (i := 1) sc.nd rfl (Or.inl rfl) (pe_callC C_number_of hr1 rfl (pa_cons (pe_slice (r := rSlS) sl_str (pv 0) (po_some pe_int) po_none) pa_nil)))
      (pss_cons (ps_if (PW.pt (pw_or (pt_cmpR op_isN1 (pv 1) pe_non (nomark _)) (pw_or1 (pt_cmpR op_eq (pv 1) pe_int (nomark _))))) (pss_one (ps_ret pe_non)) pss_nil)
      (pss_one (ps_ret (pe_un un_neg (pv 1))))))), fun G as r D hl sm hp hq hx => ?_⟩) (fun _ _ _ _ _ _ us hl => match us, hl with | [_], _ => rfl)
  obtain ⟨x, rfl, rfl⟩ := hp
  have ok : Cok (Bs No G H) := Bs.ok
  have eN : (!decide (cutS x none (some 1) = "-")) = !isNeg x := by rw [head1_eq x 45 "-" (by decide +kernel)]; rfl
  refine run_when ok (by walk_at "ev") (fun e => ?_) (fun e => ?_) <;> rw [eN] at e
  · refine run_ret ok (by walk_at "ev") ?_ hq
    have e' : isNeg x = false := by simpa using e
    unfold signedOf isSigned sgnV numOf
    rw [e']
    simp
  · have e' : isNeg x = true := by simpa using e
    have hv : signedOf x = if isNum (rest1 x) && decide (numV (rest1 x) ≠ 0) then some (-numV (rest1 x)) else none := by
      unfold signedOf isSigned sgnV
      rw [e']; simp
    refine run_set ok (d := optI (numOf (rest1 x))) (by walk_at "ev") ?_
    cases hn : isNum (rest1 x) with
    | false =>
      have h1 : optI (numOf (rest1 x)) = .non := by unfold numOf; rw [hn]; rfl
      rw [h1]
      refine run_when ok (by walk_at "ev") (fun e2 => ?_) (fun e2 => by simp at e2)
      refine run_ret ok (by walk_at "ev") ?_ hq
      rw [hv, hn]; rfl
    | true =>
      have h1 : optI (numOf (rest1 x)) = .int (numV (rest1 x)) := by unfold numOf; rw [hn]; rfl
      rw [h1]
      refine run_when ok (by walk_at "ev") (fun e2 => ?_) (fun e2 => ?_)
      · refine run_ret ok (by walk_at "ev") ?_ hq
        have h0 : numV (rest1 x) = 0 := by simpa using e2
        rw [hv, hn, h0]; rfl
      · refine run_ret ok (by walk_at "ev") ?_ hq
        have h0 : numV (rest1 x) ≠ 0 := by simpa using e2
        rw [hv, hn]
        simp [h0, optI]

abbrev s_is_item : Stmt := top 13
abbrev N_is_item : List Str := ["word"]
abbrev P_is_item : List Str := ["word"]
theorem sc_is_item : FnScope N_is_item P_is_item (defScope s_is_item) := ⟨rfl, rfl, rfl, by decide +kernel, rfl, by decide +kernel, by decide +kernel⟩

abbrev spIsItem : Sp := SpF 1 fun _ _ as r => ∃ x, as = [.str x] ∧ r = .bl (isItem x)
theorem cal_is_item (B : Blt mg) (D : Dfn K mg "is_item" s_is_item) (C_is_name : Cal P w K mg base "is_name" 1 P_is_name spIsName) : Cal P w K mg base "is_item" 2 P_is_item spIsItem := by
  have sc := sc_is_item
  refine cal_of D (fun f fd F => fnok F sc fun cdv A outer s H E hr => have hr1 := hr; ⟨_, (pss_cons (ps_if (pt_cmpR op_eq (pe_slice (r := rSlS) sl_str (pv 0) po_none (po_some pe_int)) pe_str (nomark _)) (pss_one (ps_ret (pe_callC C_is_name hr1 rfl (pa_cons (pe_slice (r := rSlS) sl_str (pv 0) (po_some pe_int) po_none) pa_nil)))) pss_nil)
      (pss_one (ps_ret (pe_callC C_is_name hr1 rfl (pa_cons (pv 0) pa_nil))))), fun G as r D hl sm hp hq hx => ?_⟩) (fun _ _ _ _ _ _ us hl => match us, hl with | [_], _ => rfl)
  obtain ⟨x, rfl, rfl⟩ := hp
  have ok : Cok (Bs No G H) := Bs.ok
  have eN : decide (cutS x none (some 1) = "@") = decide ((tl x).take 1 = [64]) := head1_eq x 64 "@" (by decide +kernel)
  refine run_when ok (by walk_at "ev") (fun e => ?_) (fun e => ?_) <;> rw [eN] at e
  · refine run_ret ok (by walk_at "ev") ?_ hq
    unfold isItem
    rw [if_pos e]; rfl
  · refine run_ret ok (by walk_at "ev") ?_ hq
    unfold isItem
    rw [if_neg (by rw [e]; exact Bool.false_ne_true)]
end
end Kx

namespace Kx
open PySem L2
theorem spl_len (S : List Nat) : ∀ (l : List Nat) (k : Nat) (acc : List Nat), ∀ p ∈ TL.spl S k acc l, p.length ≤ acc.length + l.length
  | [], k, acc, p, h => by
    rw [TL.spl_nil] at h
    rw [List.mem_singleton.mp h]
    exact Nat.le_add_right _ _
  | c :: r, 0, acc, p, h => by
    rw [TL.spl] at h
    split at h
    · rcases List.mem_cons.mp h with rfl | h
      · exact Nat.le_add_right _ _
      · have := spl_len S r _ [] p h
        simp at this ⊢
        omega
    · have := spl_len S r _ _ p h
      simp at this ⊢
      omega
  | c :: r, k + 1, acc, p, h => by
    have := spl_len S r k acc p h
    simp at this ⊢
    omega
theorem spl_count (S : List Nat) : ∀ (l : List Nat) (k : Nat) (acc : List Nat), (TL.spl S k acc l).length ≤ l.length + 1
  | [], k, acc => by rw [TL.spl_nil]; exact Nat.le_refl _
  | c :: r, 0, acc => by
    rw [TL.spl]
    split
    · have := spl_count S r (S.length - 1) []
      simp at this ⊢
      omega
    · have := spl_count S r 0 (acc ++ [c])
      simp at this ⊢
      omega
  | c :: r, k + 1, acc => by
    have := spl_count S r k acc
    show (TL.spl S k acc r).length ≤ _
    simp at this ⊢
    omega
theorem split_pieces {x y : Str} (hy : tl y ≠ []) (hk : y.cps.all (· < 256) = true) : (∀ z ∈ Txt.split x y, z.length ≤ x.length) ∧ (Txt.split x y).length ≤ x.length + 1 := by
  have e := TL.split_spl x y hy (TL.kind_ok hk)
  refine ⟨fun z hz => ?_, ?_⟩
  · have m : tl z ∈ (Txt.split x y).map TL.tl := List.mem_map.mpr ⟨z, hz, rfl⟩
    rw [e] at m
    have := spl_len _ _ _ _ _ m
    rw [len_tl, len_tl]
    simpa using this
  · have := spl_count (TL.tl y) (TL.tl x) 0 []
    rw [← e, List.length_map] at this
    rw [len_tl x]
    exact this
theorem wordsOf_len (x : Str) : ∀ z ∈ wordsOf x, z.length ≤ x.length := fun z hz => (split_pieces (by decide +kernel) (by decide +kernel)).1 z (List.mem_filter.mp hz).1
theorem wordsOf_count (x : Str) : (wordsOf x).length ≤ x.length + 1 := Nat.le_trans (List.length_filter_le _ _) (split_pieces (by decide +kernel) (by decide +kernel)).2
theorem wordsOf_ne (x : Str) : ∀ z ∈ wordsOf x, z ≠ "" := fun z hz => by simpa using (List.mem_filter.mp hz).2
def firstDue (t l m : Bool) : Str := if t then "twice" else if l then "name" else if m then "many" else ""
def facesDue (j : Str) : Int := if j = "none" ∨ j = "clear" then 1 else if j = "back" then 2 else if j = "both" then 4 else 0
/-- a key of a dict of texts -/
def hasK (kvs : List (Key × V)) (x : Str) : Bool := (valV kvs (.inr x)).isSome
section
variable {P : Program} {w : World} {K : PySem.W.Frag} {mg : Str → Option Value} {base : Heap}
local macro_rules | `(tactic| walk_at "ev") => `(tactic| with_reducible first
  | (show EvD _ _ _ _; first
    | exact ev_var (by assumption) rfl
    | exact ev_int (by assumption)
    | exact ev_str (by assumption)
    | exact ev_non (by assumption)
    | exact ev_bl (by assumption)
    | (refine' ev_call (by assumption) ?_ ?_ ?_ <;> (try walk_at "ev"))
    | (refine' ev_op (by assumption) ?_ ?_ ?_ <;> (try walk_at "ev"))
    | (refine' ev_un (by assumption) ?_ rfl <;> (try walk_at "ev"))
    | (refine' ev_andV (by assumption) ?_ (fun _ => ?_) <;> (try walk_at "ev"))
    | (refine' ev_orV (by assumption) ?_ (fun _ => ?_) <;> (try walk_at "ev"))
    | (refine' ev_notV (by assumption) ?_ <;> (try walk_at "ev"))
    | (refine' ev_chain (by assumption) ?_ ?_ ?_ ?_ ?_ <;> (try walk_at "ev"))
    | (refine' ev_cb (by assumption) ?_ ?_ <;> (try walk_at "ev"))
    | (refine' ev_bm (by assumption) ?_ ?_ ?_ <;> (try walk_at "ev"))
    | (refine' ev_m1 (by assumption) ?_ ?_ ?_ <;> (try walk_at "ev"))
    | (refine' ev_sliceS (by assumption) ?_ ?_ ?_ <;> (try walk_at "ev"))
    | (refine' ev_slice (by assumption) ?_ ?_ ?_ <;> (try walk_at "ev"))
    | (refine' ev_tup (by assumption) ?_ ?_ <;> (try walk_at "ev"))
    | (refine' ev_lst (by assumption) ?_ ?_ <;> (try walk_at "ev"))
    | exact ev_h_shapes (by assumption) (by assumption) (by assumption) (ev_var (by assumption) rfl)
    | exact ev_h_marks (by assumption) (by assumption) (by assumption) (ev_var (by assumption) rfl)
    | exact ev_h_points (by assumption) (by assumption) (by assumption) (ev_var (by assumption) rfl)
    | exact ev_h_letters (by assumption) (by assumption) (by assumption) (ev_var (by assumption) rfl)
    | exact ev_h_gaps (by assumption) (by assumption) (by assumption) (ev_var (by assumption) rfl)
    | exact ev_h_classes (by assumption) (by assumption) (by assumption) (ev_var (by assumption) rfl)
    | exact ev_h_features (by assumption) (by assumption) (by assumption) (ev_var (by assumption) rfl)
    | exact ev_h_rules (by assumption) (by assumption) (by assumption) (ev_var (by assumption) rfl)
    | (refine' ev_dinK (by assumption) ?_ ?_ ?_ <;> (try walk_at "ev"))
    | (refine' ev_dniK (by assumption) ?_ ?_ ?_ <;> (try walk_at "ev"))
    | (refine' ev_dinT (by assumption) ?_ ?_ ?_ <;> (try walk_at "ev")))
  | (show EvA _ _ _ _; first
    | exact ea_nil (by assumption)
    | (refine' ea_cons (by assumption) ?_ ?_ <;> (try walk_at "ev")))
  | (show RV _ _ _ _ _; first
    | exact rv_int (by assumption)
    | exact rv_cmp (by assumption)
    | exact rv_eq (by assumption) rfl
    | exact rv_ne (by assumption) rfl
    | exact rv_isN (by assumption) rfl
    | exact rv_notN (by assumption) rfl
    | exact rv_inT (by assumption) (.inl rfl)
    | exact rv_inT (by assumption) (.inr rfl)
    | exact rv_niT (by assumption) (.inl rfl)
    | exact rv_niT (by assumption) (.inr rfl)
    | exact rv_inS (by assumption)
    | exact rv_niS (by assumption)
    | exact rv_ixS (by assumption) (by assumption)
    | exact rv_ixL (by assumption) (by assumption)
    | exact rv_ixT (by assumption) (by assumption)
    | exact rv_ixT (by assumption) rfl
    | exact rv_ixL (by assumption) rfl
    | (refine' rv_inM (by assumption) ?_ <;> (try walk_at "ev"))
    | (refine' rv_niM (by assumption) ?_ <;> (try walk_at "ev"))
    | (refine' rv_inX (by assumption) ?_ (.inl rfl) <;> (try walk_at "ev"))
    | (refine' rv_inX (by assumption) ?_ (.inr rfl) <;> (try walk_at "ev"))
    | (refine' rv_niX (by assumption) ?_ (.inl rfl) <;> (try walk_at "ev"))
    | (refine' rv_niX (by assumption) ?_ (.inr rfl) <;> (try walk_at "ev"))
    | exact rv_in (neg := false) (by assumption) rfl rfl (.inr rfl)
    | exact rv_in (neg := true) (by assumption) rfl rfl (.inr rfl)
    | exact rv_intC (g := fun i j => i % j) (by assumption) (by decide)
    | exact rv_intC (g := fun i j => i / j) (by assumption) (cdiv_ok (by decide)))
  | (show EvT _ _ _ _; first
    | exact et_yes (by assumption)
    | (refine' et_and (by assumption) ?_ (fun _ => ?_) <;> (try walk_at "ev"))
    | (refine' et_or (by assumption) ?_ (fun _ => ?_) <;> (try walk_at "ev"))
    | (refine' et_not ?_ <;> (try walk_at "ev"))
    | (refine' et_test ?_ <;> (try walk_at "ev"))
    | (refine' et_B ?_ <;> (try walk_at "ev")))
  | (show RC _ _ _ _; first
    | exact rc_lenL (by assumption)
    | exact rc_lenT (by assumption)
    | exact rc_lenS (by assumption)
    | exact rc_all (by assumption)
    | exact rc_intB (by assumption)
    | exact rc_strS (by assumption)
    | exact rc_listOf (by assumption) (.inl rfl)
    | exact rc_listOf (by assumption) (.inr rfl)
    | exact rc_tupOf (by assumption)
    | (refine' rc_lenD (by assumption) ?_ <;> (try walk_at "ev"))
    | (refine' rc_lenM (by assumption) ?_ <;> (try walk_at "ev")))
  | (show RM _ _ _ _ _; first
    | exact rm_strip' (by assumption))
  | (show EvO _ _ _ _; first
    | exact eo_none (by assumption)
    | (refine' eo_some ?_ <;> (try walk_at "ev")))
  | (show List.length _ ≤ Lim; with_unfolding_all exact Nat.le_of_ble_eq_true rfl)
  | (show List.length _ = _; with_unfolding_all rfl)
  | exact (fun _ _ _ => ⟨_, rfl, rfl⟩)
  | exact (fun _ _ _ => ⟨_, _, rfl, rfl⟩)
  | exact (fun _ _ _ => ⟨_, _, _, rfl, rfl⟩)
  | exact (fun _ _ _ => ⟨_, rfl, by assumption, rfl⟩)
  | exact hall_s (by assumption)
  | exact hall_m (by assumption)
  | exact hall_p (by assumption)
  | exact hall_l (by assumption)
  | exact hall_g (by assumption)
  | exact hall_c (by assumption)
  | exact hall_f (by assumption)
  | exact hall_r (by assumption)
  | exact TxL.of _
  | exact TxL.nil
  | (refine' TxL.cons ?_ <;> (try walk_at "ev")))

theorem wordsExpr {C : Hp → Hp → Prop} {ds : List (Option Dt)} {ta tb : TE} {x : Str} {b : Dt} (ok : Cok C) (h1 : EvD ta C ds (.str x)) (h2 : EvD tb C ds (.str " ")) (hl : x.length ≤ 1000000) : EvD (tM1 rSplit ta tb) C ds (.lst (tx (Txt.split x " "))) :=
  ev_m1 ok h1 h2 (rm_split ok (by decide +kernel) fun z hz => Nat.le_trans ((split_pieces (by decide +kernel) (by decide +kernel)).1 z hz) (Nat.le_trans hl (by decide)))

abbrev s_words_of : Stmt := top 14
abbrev N_words_of : List Str := ["row", "word"]
abbrev P_words_of : List Str := ["row"]
theorem sc_words_of : FnScope N_words_of P_words_of (defScope s_words_of) := ⟨rfl, rfl, rfl, by decide +kernel, rfl, by decide +kernel, by decide +kernel⟩

abbrev spWordsOf : Sp := SpF 1 fun _ _ as r => ∃ x, as = [.str x] ∧ x.length ≤ 1000000 ∧ r = .lst (tx (wordsOf x))
theorem cal_words_of (B : Blt mg) (D : Dfn K mg "words_of" s_words_of) : Cal P w K mg base "words_of" 1 P_words_of spWordsOf := by
  have sc := sc_words_of
  refine cal_of D (fun f fd F => fnok F sc fun cdv A outer s H E hr => ⟨_, (pss_one (ps_ret (pe_lc (own := [("word", 1)]) (by rfl) sc.nd (pi_list (pe_m1 (r := rSplit) PySem.F.slot_str_split PySem.F.type_str_split mt_split (pv 0) pe_str)) (blkOk_by (N := N_words_of) (sc := defScope s_words_of) (by decide +kernel)) (fun _ _ _ _ _ => (pg_name (i := 1) sc.nd rfl (Or.inl rfl))) (fun _ _ _ _ _ => (pts_one (pt_cmpR op_ne (pv 1) pe_str (nomark _)))) (fun _ _ _ _ _ => (pv 1))))), fun G as r D hl sm hp hq hx => ?_⟩) (fun _ _ _ _ _ _ us hl => match us, hl with | [_], _ => rfl)
  obtain ⟨x, rfl, hx1, rfl⟩ := hp
  have ok : Cok (Bs No G H) := Bs.ok
  have hp := split_pieces (x := x) (y := " ") (by decide +kernel) (by decide +kernel)
  exact run_ret ok ((en_filter1 (Txt.split x " ") Dt.str (fun w => !decide (w = "")) Dt.str ok (wordsExpr (b := .non) ok (by walk_at "ev") (by walk_at "ev") hx1) (fun y hy => by walk_at "ev") (fun y hy _ => by walk_at "ev") (Nat.le_trans hp.2 (by show _ ≤ 16000000; omega))).ev ok) rfl hq

abbrev s_first_due : Stmt := top 17
abbrev N_first_due : List Str := ["twice", "lacks", "many"]
abbrev P_first_due : List Str := ["twice", "lacks", "many"]
theorem sc_first_due : FnScope N_first_due P_first_due (defScope s_first_due) := ⟨rfl, rfl, rfl, by decide +kernel, rfl, by decide +kernel, by decide +kernel⟩

abbrev spFirstDue : Sp := SpF 3 fun _ _ as r => ∃ a b c, as = [.bl a, .bl b, .bl c] ∧ r = .str (firstDue a b c)
theorem cal_first_due (B : Blt mg) (D : Dfn K mg "first_due" s_first_due) : Cal P w K mg base "first_due" 1 P_first_due spFirstDue := by
  have sc := sc_first_due
  refine cal_of D (fun f fd F => fnok F sc fun cdv A outer s H E hr => ⟨_, (pss_cons (ps_if (pt_val (pv 0)) (pss_one (ps_ret pe_str)) pss_nil)
      (pss_cons (ps_if (pt_val (pv 1)) (pss_one (ps_ret pe_str)) pss_nil)
      (pss_cons (ps_if (pt_val (pv 2)) (pss_one (ps_ret pe_str)) pss_nil)
      (pss_one (ps_ret pe_str))))), fun G as r D hl sm hp hq hx => ?_⟩) (fun _ _ _ _ _ _ us hl => match us, hl with | [_, _, _], _ => rfl)
  obtain ⟨a, b, c, rfl, rfl⟩ := hp
  have ok : Cok (Bs No G H) := Bs.ok
  refine run_when ok (by walk_at "ev") (fun e => run_ret ok (by walk_at "ev") ?_ hq) (fun e => ?_)
  · subst e; rfl
  refine run_when ok (by walk_at "ev") (fun e2 => run_ret ok (by walk_at "ev") ?_ hq) (fun e2 => ?_)
  · subst e; subst e2; rfl
  refine run_when ok (by walk_at "ev") (fun e3 => run_ret ok (by walk_at "ev") ?_ hq) (fun e3 => run_ret ok (by walk_at "ev") ?_ hq)
  · subst e; subst e2; subst e3; rfl
  · subst e; subst e2; subst e3; rfl

abbrev s_all_names : Stmt := top 18
abbrev N_all_names : List Str := ["words", "word"]
abbrev P_all_names : List Str := ["words"]
theorem sc_all_names : FnScope N_all_names P_all_names (defScope s_all_names) := ⟨rfl, rfl, rfl, by decide +kernel, rfl, by decide +kernel, by decide +kernel⟩

abbrev spAllNames : Sp := SpF 1 fun _ _ as r => ∃ ws : List Str, as = [.lst (tx ws)] ∧ ws.length ≤ 1000001 ∧ r = .bl (ws.all isName)
theorem cal_all_names (B : Blt mg) (D : Dfn K mg "all_names" s_all_names) (C_is_name : Cal P w K mg base "is_name" 1 P_is_name spIsName) : Cal P w K mg base "all_names" 2 P_all_names spAllNames := by
  have sc := sc_all_names
  refine cal_of D (fun f fd F => fnok F sc fun cdv A outer s H E hr => have hr1 := hr; ⟨_, (pss_one (ps_ret (pe_callB (r := rAll K) (cr_all rfl) (by rfl) B.all_ (by decide +kernel) (pa_cons (pe_lc (own := [("word", 1)]) (by rfl) sc.nd (pi_list (pv 0)) (blkOk_by (N := N_all_names) (sc := defScope s_all_names) (by decide +kernel)) (fun _ _ _ _ _ => (pg_name (i := 1) sc.nd rfl (Or.inl rfl))) (fun _ _ _ _ _ => pts_nil) (fun _ _ _ _ _ => (pe_callC C_is_name hr1 rfl (pa_cons (pv 1) pa_nil)))) pa_nil)))), fun G as r D hl sm hp hq hx => ?_⟩) (fun _ _ _ _ _ _ us hl => match us, hl with | [_], _ => rfl)
  obtain ⟨ws, rfl, hw, rfl⟩ := hp
  have ok : Cok (Bs No G H) := Bs.ok
  refine run_ret ok (ev_cb ok (ea_cons ok (((en_map1 ws Dt.str (fun w => .bl (isName w)) ok (by walk_at "ev") (fun y hy => by walk_at "ev") (Nat.le_trans hw (by decide))).ev ok).is (show _ = Dt.lst ((ws.map isName).map Dt.bl) by rw [List.map_map]; rfl)) (ea_nil ok)) (rc_all ok)) ?_ hq
  rw [List.all_map]; rfl

abbrev s_lacking : Stmt := top 19
abbrev N_lacking : List Str := ["words", "told", "word"]
abbrev P_lacking : List Str := ["words", "told"]
theorem sc_lacking : FnScope N_lacking P_lacking (defScope s_lacking) := ⟨rfl, rfl, rfl, by decide +kernel, rfl, by decide +kernel, by decide +kernel⟩

abbrev spLacking : Sp := SpF 2 fun _ H as r => ∃ (ws : List Str) (p : Addr) (kvs : List (Key × V)), as = [.lst (tx ws), .obj p] ∧ H p = some (.dK kvs) ∧ r = .bl (ws.any fun x => !hasK kvs x)
theorem cal_lacking (B : Blt mg) (D : Dfn K mg "lacking" s_lacking) : Cal P w K mg base "lacking" 1 P_lacking spLacking := by
  have sc := sc_lacking
  refine cal_of D (fun f fd F => fnok F sc fun cdv A outer s H E hr => ⟨_, (pss_cons (ps_for PassesOwn.never rfl (pi_list (pv 0)) (pg_name (i := 2) sc.nd rfl (Or.inl rfl)) (pss_one (ps_if (pt_cmp (pc_dnotin (hu_of hr) (pv 2) (pv 1))) (pss_one (ps_ret pe_bl)) pss_nil)))
      (pss_one (ps_ret pe_bl))), fun G as r D hl sm hp hq hx => ?_⟩) (fun _ _ _ _ _ _ us hl => match us, hl with | [_, _], _ => rfl)
  obtain ⟨ws, p, kvs, rfl, hp, rfl⟩ := hp
  have ok : Cok (Bs No G H) := Bs.ok
  have hk : ∀ G' H', Bs No G H G' H' → H' p = some (.dK kvs) := fun G' H' c => Pu.hs c _ _ hp
  refine run_find_seq ws Dt.str (fun y => [(2, .str y)]) [some (.lst (tx ws)), some (.obj p), none] (fun x => !hasK kvs x) ok (ei_list (by walk_at "ev")) (fun _ _ => tg_name) (Less.refl _) (fun y hy => .keep (.keep (.gone .nil)))
    (fun y hy => et_B (ev_dni ok (by walk_at "ev") (by walk_at "ev") fun G' H' c => ⟨kvs, hk G' H' c, rfl⟩)) (fun y hy e D' hD' => run_ret ok (by walk_at "ev") ?_ (Rt.of hD' hq)) fun hn => run_ret ok (by walk_at "ev") ?_ hq
  · rw [List.any_eq_true.mpr ⟨y, hy, e⟩]
  · have e : (ws.any fun x => !hasK kvs x) = false := List.any_eq_false.mpr fun x hx => by rw [hn x hx]; exact Bool.false_ne_true
    rw [e]

abbrev s_faces_due : Stmt := top 24
abbrev N_faces_due : List Str := ["join"]
abbrev P_faces_due : List Str := ["join"]
theorem sc_faces_due : FnScope N_faces_due P_faces_due (defScope s_faces_due) := ⟨rfl, rfl, rfl, by decide +kernel, rfl, by decide +kernel, by decide +kernel⟩

abbrev spFacesDue : Sp := SpF 1 fun _ _ as r => ∃ j, as = [.str j] ∧ r = .int (facesDue j)
theorem cal_faces_due (B : Blt mg) (D : Dfn K mg "faces_due" s_faces_due) : Cal P w K mg base "faces_due" 1 P_faces_due spFacesDue := by
  have sc := sc_faces_due
  refine cal_of D (fun f fd F => fnok F sc fun cdv A outer s H E hr => ⟨_, (pss_cons (ps_if (PW.pt (pw_or (pt_cmpR op_eq (pv 0) pe_str (nomark _)) (pw_or1 (pt_cmpR op_eq (pv 0) pe_str (nomark _))))) (pss_one (ps_ret pe_int)) pss_nil)
      (pss_cons (ps_if (pt_cmpR op_eq (pv 0) pe_str (nomark _)) (pss_one (ps_ret pe_int)) pss_nil)
      (pss_cons (ps_if (pt_cmpR op_eq (pv 0) pe_str (nomark _)) (pss_one (ps_ret pe_int)) pss_nil)
      (pss_one (ps_ret pe_int))))), fun G as r D hl sm hp hq hx => ?_⟩) (fun _ _ _ _ _ _ us hl => match us, hl with | [_], _ => rfl)
  obtain ⟨j, rfl, rfl⟩ := hp
  have ok : Cok (Bs No G H) := Bs.ok
  refine run_when ok (by walk_at "ev") (fun e => run_ret ok (by walk_at "ev") ?_ hq) (fun e => ?_)
  · simp only [Bool.or_eq_true, decide_eq_true_eq] at e
    unfold facesDue; rw [if_pos e]
  simp only [Bool.or_eq_false_iff, decide_eq_false_iff_not] at e
  have e' : ¬ (j = "none" ∨ j = "clear") := fun h => h.elim e.1 e.2
  refine run_when ok (by walk_at "ev") (fun e2 => run_ret ok (by walk_at "ev") ?_ hq) (fun e2 => ?_)
  · unfold facesDue; rw [if_neg e', if_pos (of_decide_eq_true e2)]
  refine run_when ok (by walk_at "ev") (fun e3 => run_ret ok (by walk_at "ev") ?_ hq) (fun e3 => run_ret ok (by walk_at "ev") ?_ hq)
  · unfold facesDue; rw [if_neg e', if_neg (of_decide_eq_false e2), if_pos (of_decide_eq_true e3)]
  · unfold facesDue; rw [if_neg e', if_neg (of_decide_eq_false e2), if_neg (of_decide_eq_false e3)]
end
end Kx

namespace Kx
open PySem L2
/-! ### rows of texts as data of the library -/
theorem pys_tx : ∀ l : List Str, py.pys (tx l) = l.map PyData.str
  | [] => rfl
  | x :: r => by show py (.str x) :: py.pys (tx r) = _; rw [pys_tx r]; rfl
theorem clean_tx : ∀ l : List Str, clean.cleans (tx l) = true
  | [] => rfl
  | x :: r => by show (clean (.str x) && clean.cleans (tx r)) = true; rw [clean_tx r]; rfl
theorem canLay_tx : ∀ l : List Str, (∀ x ∈ l, PyData.strOk x = true) → PyData.canLayAll0 (l.map PyData.str) = true
  | [], _ => by rw [List.map_nil, PyData.canLayAll0]
  | x :: r, h => by
    rw [List.map_cons, PyData.canLayAll0, canLay_tx r fun y hy => h y (List.mem_cons_of_mem _ hy), PyData.canLay0, h x List.mem_cons_self]
    rfl
theorem depth_tx : ∀ l : List Str, PyData.depthAll (l.map PyData.str) = 0
  | [] => by rw [List.map_nil, PyData.depthAll]
  | x :: r => by rw [List.map_cons, PyData.depthAll, depth_tx r, PyData.depth]; rfl
theorem shaped_tx {l : List Str} (h : ∀ x ∈ l, PyData.strOk x = true) : SeqAt.shaped (py (.lst (tx l))) = true := by
  show (PyData.canLay0 (.list (py.pys (tx l))) && decide (PyData.depth (.list (py.pys (tx l))) ≤ 64)) = true
  rw [pys_tx, PyData.canLay0, PyData.depth, canLay_tx l h, depth_tx]; rfl
theorem eqvAll_tx : ∀ l m : List Str, PyData.eqvAll (l.map PyData.str) (m.map PyData.str) = decide (l = m)
  | [], [] => by rw [List.map_nil, PyData.eqvAll]; rfl
  | [], _ :: _ => by rw [List.map_nil, List.map_cons, PyData.eqvAll]; simp
  | _ :: _, [] => by rw [List.map_nil, List.map_cons, PyData.eqvAll]; simp
  | x :: l, y :: m => by
    rw [List.map_cons, List.map_cons, PyData.eqvAll, eqvAll_tx l m, PyData.eqv, Bool.eq_iff_iff]
    simp
theorem eqv_tx (l m : List Str) : PyData.eqv (py (.lst (tx l))) (py (.lst (tx m))) = decide (l = m) := by
  show PyData.eqv (.list (py.pys (tx l))) (.list (py.pys (tx m))) = _
  rw [PyData.eqv, pys_tx, pys_tx, eqvAll_tx]
theorem rv_neT {C : Hp → Hp → Prop} {K : PySem.W.Frag} {l m : List Str} (ok : Cok C) (hl : ∀ x ∈ l, PyData.strOk x = true) (hm : ∀ x ∈ m, PyData.strOk x = true) : RV (rNeD K) C (.lst (tx l)) (.lst (tx m)) (.bl (!decide (l = m))) := by
  have h := rv_neD (K := K) (a := .lst (tx l)) (b := .lst (tx m)) ok (clean_tx l) (clean_tx m) (shaped_tx hl) (shaped_tx hm)
  rwa [eqv_tx] at h
theorem rv_eqT {C : Hp → Hp → Prop} {K : PySem.W.Frag} {l m : List Str} (ok : Cok C) (hl : ∀ x ∈ l, PyData.strOk x = true) (hm : ∀ x ∈ m, PyData.strOk x = true) : RV (rEqD K) C (.lst (tx l)) (.lst (tx m)) (.bl (decide (l = m))) := by
  have h := rv_eqD (K := K) (a := .lst (tx l)) (b := .lst (tx m)) ok (clean_tx l) (clean_tx m) (shaped_tx hl) (shaped_tx hm)
  rwa [eqv_tx] at h
/-! ### range with a step -/
def intC (lo c : Int) (n : Nat) : List Dt := (List.range n).map fun (k : Nat) => Dt.int (lo + (k : Int) * c)
theorem ei_range3 {S : Addr → Prop} {C : Hp → Hp → Prop} {ds : List (Option Dt)} {tl : TA} {i j c : Int} {n : Nat} (h : EvA tl C ds [.int i, .int j, .int c]) (hn : RgC i j c n) : EvI S (iRng3 tl) C ds (intC i c n) := fun G σ H k s R z => h G σ H k s _ fun vs G1 H1 p1 r1 => by
  cases r1 with
  | cons r1 r2 =>
    cases r2 with
    | cons r2 r3 =>
      cases r3 with
      | cons r3 r4 =>
        cases r4; cases r1; cases r2; cases r3
        refine ⟨i, j, c, n, rfl, hn, z _ G1 H1 p1 fun i' G' H' st => ⟨fun hi => ?_, fun d hd => ?_⟩⟩
        · show n ≤ i'
          simpa [intC] using hi
        · unfold intC at hd
          rw [List.getElem?_map] at hd
          by_cases hi : i' < n
          · rw [List.getElem?_eq_getElem (by simpa using hi), List.getElem_range] at hd
            cases hd
            exact ⟨hi, fun v H'' y => by obtain ⟨rfl, rfl⟩ := y; exact ⟨G', Stp.refl st.gh, .int _⟩⟩
          · rw [List.getElem?_eq_none (by simpa using hi)] at hd
            cases hd
theorem len2 {α : Type} {l : List α} (h : l.length = 2) : ∃ a b, l = [a, b] := by
  match l, h with
  | [a, b], _ => exact ⟨a, b, rfl⟩
theorem len4 {α : Type} {l : List α} (h : l.length = 4) : ∃ a b c d, l = [a, b, c, d] := by
  match l, h with
  | [a, b, c, d], _ => exact ⟨a, b, c, d, rfl⟩
theorem len3 {α : Type} {l : List α} (h : l.length = 3) : ∃ a b c, l = [a, b, c] := by
  match l, h with
  | [a, b, c], _ => exact ⟨a, b, c, rfl⟩
/-! ### points -/
def pairs : List Int → List Dt
  | a :: b :: r => .tup [.int a, .int b] :: pairs r
  | _ => []
def spotsOf (ws : List Str) : Dt := if ws.all isSigned then .lst (pairs (ws.map sgnV)) else .non
theorem noneIn : ∀ ws : List Str, ((ws.map fun w => optI (signedOf w)).any fun y => eqD y .non) = !ws.all isSigned
  | [] => rfl
  | w :: r => by
    rw [List.map_cons, List.any_cons, noneIn r, List.all_cons]
    unfold signedOf
    cases isSigned w <;> simp [optI, eqD]
theorem flat_opt : ∀ ws : List Str, (ws.map fun w => optI (signedOf w)).all flatD = true
  | [] => rfl
  | w :: r => by
    rw [List.map_cons, List.all_cons, flat_opt r]
    unfold signedOf
    cases isSigned w <;> rfl
section
variable {P : Program} {w : World} {K : PySem.W.Frag} {mg : Str → Option Value} {base : Heap}
local macro_rules | `(tactic| walk_at "ev") => `(tactic| with_reducible first
  | (show EvD _ _ _ _; first
    | exact ev_var (by assumption) rfl
    | exact ev_int (by assumption)
    | exact ev_str (by assumption)
    | exact ev_non (by assumption)
    | exact ev_bl (by assumption)
    | (refine' ev_call (by assumption) ?_ ?_ ?_ <;> (try walk_at "ev"))
    | (refine' ev_op (by assumption) ?_ ?_ ?_ <;> (try walk_at "ev"))
    | (refine' ev_un (by assumption) ?_ rfl <;> (try walk_at "ev"))
    | (refine' ev_andV (by assumption) ?_ (fun _ => ?_) <;> (try walk_at "ev"))
    | (refine' ev_orV (by assumption) ?_ (fun _ => ?_) <;> (try walk_at "ev"))
    | (refine' ev_notV (by assumption) ?_ <;> (try walk_at "ev"))
    | (refine' ev_chain (by assumption) ?_ ?_ ?_ ?_ ?_ <;> (try walk_at "ev"))
    | (refine' ev_cb (by assumption) ?_ ?_ <;> (try walk_at "ev"))
    | (refine' ev_bm (by assumption) ?_ ?_ ?_ <;> (try walk_at "ev"))
    | (refine' ev_m1 (by assumption) ?_ ?_ ?_ <;> (try walk_at "ev"))
    | (refine' ev_sliceS (by assumption) ?_ ?_ ?_ <;> (try walk_at "ev"))
    | (refine' ev_slice (by assumption) ?_ ?_ ?_ <;> (try walk_at "ev"))
    | (refine' ev_tup (by assumption) ?_ ?_ <;> (try walk_at "ev"))
    | (refine' ev_lst (by assumption) ?_ ?_ <;> (try walk_at "ev"))
    | exact ev_h_shapes (by assumption) (by assumption) (by assumption) (ev_var (by assumption) rfl)
    | exact ev_h_marks (by assumption) (by assumption) (by assumption) (ev_var (by assumption) rfl)
    | exact ev_h_points (by assumption) (by assumption) (by assumption) (ev_var (by assumption) rfl)
    | exact ev_h_letters (by assumption) (by assumption) (by assumption) (ev_var (by assumption) rfl)
    | exact ev_h_gaps (by assumption) (by assumption) (by assumption) (ev_var (by assumption) rfl)
    | exact ev_h_classes (by assumption) (by assumption) (by assumption) (ev_var (by assumption) rfl)
    | exact ev_h_features (by assumption) (by assumption) (by assumption) (ev_var (by assumption) rfl)
    | exact ev_h_rules (by assumption) (by assumption) (by assumption) (ev_var (by assumption) rfl)
    | (refine' ev_dinK (by assumption) ?_ ?_ ?_ <;> (try walk_at "ev"))
    | (refine' ev_dniK (by assumption) ?_ ?_ ?_ <;> (try walk_at "ev"))
    | (refine' ev_dinT (by assumption) ?_ ?_ ?_ <;> (try walk_at "ev")))
  | (show EvA _ _ _ _; first
    | exact ea_nil (by assumption)
    | (refine' ea_cons (by assumption) ?_ ?_ <;> (try walk_at "ev")))
  | (show RV _ _ _ _ _; first
    | exact rv_int (by assumption)
    | exact rv_cmp (by assumption)
    | exact rv_eq (by assumption) rfl
    | exact rv_ne (by assumption) rfl
    | exact rv_isN (by assumption) rfl
    | exact rv_notN (by assumption) rfl
    | exact rv_inT (by assumption) (.inl rfl)
    | exact rv_inT (by assumption) (.inr rfl)
    | exact rv_niT (by assumption) (.inl rfl)
    | exact rv_niT (by assumption) (.inr rfl)
    | exact rv_inS (by assumption)
    | exact rv_niS (by assumption)
    | exact rv_ixS (by assumption) (by assumption)
    | exact rv_ixL (by assumption) (by assumption)
    | exact rv_ixT (by assumption) (by assumption)
    | exact rv_ixT (by assumption) rfl
    | exact rv_ixL (by assumption) rfl
    | (refine' rv_inM (by assumption) ?_ <;> (try walk_at "ev"))
    | (refine' rv_niM (by assumption) ?_ <;> (try walk_at "ev"))
    | (refine' rv_inX (by assumption) ?_ (.inl rfl) <;> (try walk_at "ev"))
    | (refine' rv_inX (by assumption) ?_ (.inr rfl) <;> (try walk_at "ev"))
    | (refine' rv_niX (by assumption) ?_ (.inl rfl) <;> (try walk_at "ev"))
    | (refine' rv_niX (by assumption) ?_ (.inr rfl) <;> (try walk_at "ev"))
    | exact rv_in (neg := false) (by assumption) rfl rfl (.inr rfl)
    | exact rv_in (neg := true) (by assumption) rfl rfl (.inr rfl)
    | exact rv_intC (g := fun i j => i % j) (by assumption) (by decide)
    | exact rv_intC (g := fun i j => i / j) (by assumption) (cdiv_ok (by decide)))
  | (show EvT _ _ _ _; first
    | exact et_yes (by assumption)
    | (refine' et_and (by assumption) ?_ (fun _ => ?_) <;> (try walk_at "ev"))
    | (refine' et_or (by assumption) ?_ (fun _ => ?_) <;> (try walk_at "ev"))
    | (refine' et_not ?_ <;> (try walk_at "ev"))
    | (refine' et_test ?_ <;> (try walk_at "ev"))
    | (refine' et_B ?_ <;> (try walk_at "ev")))
  | (show RC _ _ _ _; first
    | exact rc_lenL (by assumption)
    | exact rc_lenT (by assumption)
    | exact rc_lenS (by assumption)
    | exact rc_all (by assumption)
    | exact rc_intB (by assumption)
    | exact rc_strS (by assumption)
    | exact rc_listOf (by assumption) (.inl rfl)
    | exact rc_listOf (by assumption) (.inr rfl)
    | exact rc_tupOf (by assumption)
    | (refine' rc_lenD (by assumption) ?_ <;> (try walk_at "ev"))
    | (refine' rc_lenM (by assumption) ?_ <;> (try walk_at "ev")))
  | (show RM _ _ _ _ _; first
    | exact rm_strip' (by assumption))
  | (show EvO _ _ _ _; first
    | exact eo_none (by assumption)
    | (refine' eo_some ?_ <;> (try walk_at "ev")))
  | (show List.length _ ≤ Lim; with_unfolding_all exact Nat.le_of_ble_eq_true rfl)
  | (show List.length _ = _; with_unfolding_all rfl)
  | exact (fun _ _ _ => ⟨_, rfl, rfl⟩)
  | exact (fun _ _ _ => ⟨_, _, rfl, rfl⟩)
  | exact (fun _ _ _ => ⟨_, _, _, rfl, rfl⟩)
  | exact (fun _ _ _ => ⟨_, rfl, by assumption, rfl⟩)
  | exact hall_s (by assumption)
  | exact hall_m (by assumption)
  | exact hall_p (by assumption)
  | exact hall_l (by assumption)
  | exact hall_g (by assumption)
  | exact hall_c (by assumption)
  | exact hall_f (by assumption)
  | exact hall_r (by assumption)
  | exact TxL.of _
  | exact TxL.nil
  | (refine' TxL.cons ?_ <;> (try walk_at "ev")))


abbrev s_spots_of : Stmt := top 20
abbrev N_spots_of : List Str := ["words", "numbers", "word", "k"]
abbrev P_spots_of : List Str := ["words"]
theorem sc_spots_of : FnScope N_spots_of P_spots_of (defScope s_spots_of) := ⟨rfl, rfl, rfl, by decide +kernel, rfl, by decide +kernel, by decide +kernel⟩

abbrev spSpotsOf : Sp := SpF 1 fun _ _ as r => ∃ ws : List Str, as = [.lst (tx ws)] ∧ (ws.length = 2 ∨ ws.length = 4) ∧ r = spotsOf ws
theorem cal_spots_of (B : Blt mg) (D : Dfn K mg "spots_of" s_spots_of) (C_signed_of : Cal P w K mg base "signed_of" 2 P_signed_of spSignedOf) : Cal P w K mg base "spots_of" 3 P_spots_of spSpotsOf := by
  have sc := sc_spots_of
  refine cal_of D (fun f fd F => fnok F sc fun cdv A outer s H E hr => have hr1 := hr; ⟨_, (pss_cons (ps_set (i := 1) sc.nd rfl (Or.inr rfl) (pe_lc (own := [("word", 2)]) (by rfl) sc.nd (pi_list (pv 0)) (blkOk_by (N := N_spots_of) (sc := defScope s_spots_of) (by decide +kernel)) (fun _ _ _ _ _ => (pg_name (i := 2) sc.nd rfl (Or.inl rfl))) (fun _ _ _ _ _ => pts_nil) (fun _ _ _ _ _ => (pe_callC C_signed_of hr1 rfl (pa_cons (pv 2) pa_nil)))))
      (pss_cons (ps_if (pt_cmpR (r := rIn K false) op_in_seq pe_non (pv 1) rfl) (pss_one (ps_ret pe_non)) pss_nil)
      (pss_one (ps_ret (pe_lc (own := [("k", 3)]) (by rfl) sc.nd (pi_range3 (by rfl) B.range_ (pa_cons pe_int (pa_cons (pe_callB (r := rLen K) call_lenK (by rfl) B.len_ (by decide +kernel) (pa_cons (pv 1) pa_nil)) (pa_cons pe_int pa_nil)))) (blkOk_by (N := N_spots_of) (sc := defScope s_spots_of) (by decide +kernel)) (fun _ _ _ _ _ => (pg_name (i := 3) sc.nd rfl (Or.inl rfl))) (fun _ _ _ _ _ => pts_nil) (fun _ _ _ _ _ => (pe_tup (pa_cons (pe_ix (r := rIxL K) ix_list (pv 1) (pv 3) (fun _ _ => rfl)) (pa_cons (pe_ix (r := rIxL K) ix_list (pv 1) (pe_op op_add (pv 3) pe_int) (fun _ _ => rfl)) pa_nil))))))))), fun G as r D hl sm hp hq hx => ?_⟩) (fun _ _ _ _ _ _ us hl => match us, hl with | [_], _ => rfl)
  obtain ⟨ws, rfl, hw, rfl⟩ := hp
  have ok : Cok (Bs No G H) := Bs.ok
  refine run_set ok ((en_map1 ws Dt.str (fun w => optI (signedOf w)) ok (by walk_at "ev") (fun y hy => by walk_at "ev") (by show _ ≤ 16000000; omega)).ev ok) ?_
  have hN := noneIn ws
  cases hall : ws.all isSigned with
  | false =>
    rw [hall] at hN
    refine run_when ok (et_test (ev_op ok (by walk_at "ev") (ev_var ok rfl) (rv_in (neg := false) ok rfl (flat_opt ws) (.inl rfl)))) (fun e => run_ret ok (by walk_at "ev") ?_ hq) (fun e => ?_)
    · unfold spotsOf; rw [hall]; rfl
    · rw [if_neg Bool.false_ne_true, hN] at e; cases e
  | true =>
    have hD : (ws.map fun w => optI (signedOf w)) = (ws.map sgnV).map Dt.int := by
      rw [List.map_map]
      refine List.map_congr_left fun x hx => ?_
      have := List.all_eq_true.mp hall x hx
      show optI (signedOf x) = .int (sgnV x)
      unfold signedOf; rw [if_pos this]; rfl
    rw [hall] at hN
    refine run_when ok (et_test (ev_op ok (by walk_at "ev") (ev_var ok rfl) (rv_in (neg := false) ok rfl (flat_opt ws) (.inl rfl)))) (fun e => ?_) (fun e => ?_)
    · rw [if_neg Bool.false_ne_true, hN] at e; cases e
    · obtain ⟨n, hn, hn2⟩ : ∃ n : Nat, ws.length = n * 2 ∧ (n = 1 ∨ n = 2) := by
        rcases hw with h | h
        · exact ⟨1, h, .inl rfl⟩
        · exact ⟨2, h, .inr rfl⟩
      rw [hD]
      have hlen : (((ws.map sgnV).map Dt.int).length : Int) = ((n * 2 : Nat) : Int) := by rw [List.length_map, List.length_map, hn]
      have rg : RgC 0 (((ws.map sgnV).map Dt.int).length : Nat) 2 n := by
        rw [hlen]
        rcases hn2 with rfl | rfl <;> exact ⟨by decide, by decide, by decide +kernel, by decide +kernel⟩
      have at_ : ∀ k : Nat, k < n * 2 → ((ws.map sgnV).map Dt.int)[k]? = some (((ws.map sgnV).map Dt.int).getD k .non) := fun k hk => by
        have h : k < ((ws.map sgnV).map Dt.int).length := by rw [List.length_map, List.length_map, hn]; exact hk
        rw [List.getD_eq_getElem?_getD, List.getElem?_eq_getElem h]; rfl
      refine run_ret ok ((en_map (List.range n) (fun (k : Nat) => Dt.int (0 + (k : Int) * 2)) (fun k => [(3, .int (0 + (k : Int) * 2))]) (fun k => .tup [((ws.map sgnV).map Dt.int).getD (k * 2) .non, ((ws.map sgnV).map Dt.int).getD (k * 2 + 1) .non]) ok
        (ei_range3 (by walk_at "ev") rg) (fun _ _ => tg_name) (fun _ _ i hi => by simpa using hi) (fun y hy => ?_) (by rw [List.length_range]; show _ ≤ 16000000; omega)).ev ok) ?_ hq
      · have hy' := List.mem_range.mp hy
        exact ev_tup ok (ea_cons ok (ev_op ok (ev_var ok rfl) (ev_var ok rfl) (rv_ixL ok (by
            rw [show (0 + (y : Int) * 2) = ((y * 2 : Nat) : Int) by omega]; exact at_nat (at_ _ (by omega))))) (ea_cons ok (ev_op ok (ev_var ok rfl) (by walk_at "ev") (rv_ixL ok (by
            rw [show (0 + (y : Int) * 2 + 1) = ((y * 2 + 1 : Nat) : Int) by omega]; exact at_nat (at_ _ (by omega))))) (ea_nil ok))) (by show 2 ≤ Lim; decide)
      · unfold spotsOf
        rw [hall, if_pos rfl]
        rcases hn2 with rfl | rfl
        · obtain ⟨a, b, rfl⟩ := len2 hn
          rfl
        · obtain ⟨a, b, c, d, rfl⟩ := len4 hn
          rfl
end
end Kx

namespace Kx
open PySem L2
/-! ### a row parted by its marks -/
def isMark (w : Str) : Bool := decide (w ∈ (["/", ">"] : List Str))
def idx : Nat → List Str → List (Nat × Str)
  | _, [] => []
  | k, w :: r => (k, w) :: idx (k + 1) r
def marks (ws : List Str) : List Str := ws.filter isMark
def segs : List Str → List (List Str)
  | [] => [[]]
  | w :: r => if isMark w then [] :: segs r else match segs r with
    | [] => [[w]]
    | p :: ps => (w :: p) :: ps
theorem enum_idx : ∀ (ws : List Str) (k : Nat), enumF k (tx ws) = (idx k ws).map fun p => .tup [.int (p.1 : Nat), .str p.2]
  | [], _ => rfl
  | w :: r, k => by show _ :: enumF (k + 1) (tx r) = _; rw [enum_idx r]; rfl
theorem idx_get : ∀ (ws : List Str) (k : Nat), ∀ p ∈ idx k ws, k ≤ p.1 ∧ ws[p.1 - k]? = some p.2
  | w :: r, k, p, h => by
    rcases List.mem_cons.mp h with rfl | h
    · exact ⟨Nat.le_refl _, by simp⟩
    · obtain ⟨h1, h2⟩ := idx_get r (k + 1) p h
      refine ⟨by omega, ?_⟩
      rw [show p.1 - k = (p.1 - (k + 1)) + 1 by omega, List.getElem?_cons_succ]
      exact h2
theorem idx_len : ∀ (ws : List Str) (k : Nat), (idx k ws).length = ws.length
  | [], _ => rfl
  | _ :: r, k => by show (idx (k + 1) r).length + 1 = _; rw [idx_len r]; rfl
theorem idx_marks : ∀ (ws : List Str) (k : Nat), ((idx k ws).filter fun p => isMark p.2).map (·.2) = marks ws
  | [], _ => rfl
  | w :: r, k => by
    unfold marks
    rw [idx, List.filter_cons, List.filter_cons]
    have ih := idx_marks r (k + 1)
    unfold marks at ih
    cases h : isMark w with
    | true => rw [if_pos rfl, if_pos rfl, List.map_cons, ih]
    | false => rw [if_neg Bool.false_ne_true, if_neg Bool.false_ne_true, ih]
theorem segs_ne : ∀ ws : List Str, segs ws ≠ []
  | [], h => by cases h
  | w :: r, h => by
    rw [segs] at h
    split at h
    · cases h
    · split at h <;> cases h
theorem segs_plain : ∀ {a : List Str}, (∀ w ∈ a, isMark w = false) → segs a = [a]
  | [], _ => rfl
  | w :: r, h => by rw [segs, h w List.mem_cons_self, segs_plain fun z hz => h z (List.mem_cons_of_mem _ hz)]; rfl
theorem segs_app : ∀ {a : List Str} {m : Str} {r : List Str}, (∀ w ∈ a, isMark w = false) → isMark m = true → segs (a ++ m :: r) = a :: segs r
  | [], m, r, _, hm => by show segs (m :: r) = _; rw [segs, if_pos hm]
  | w :: a, m, r, h, hm => by
    show segs (w :: (a ++ m :: r)) = _
    rw [segs, h w List.mem_cons_self, segs_app (fun z hz => h z (List.mem_cons_of_mem _ hz)) hm]; rfl
/-- the first mark's place -/
theorem idx_first : ∀ (ws : List Str) (k : Nat) (i : Nat) (m : Str) (rest : List (Nat × Str)), ((idx k ws).filter fun p => isMark p.2) = (i, m) :: rest →
    ∃ a r, ws = a ++ m :: r ∧ i = k + a.length ∧ (∀ w ∈ a, isMark w = false) ∧ isMark m = true ∧ ((idx (i + 1) r).filter fun p => isMark p.2) = rest
  | [], _, _, _, _, h => by cases h
  | w :: ws, k, i, m, rest, h => by
    rw [idx, List.filter_cons] at h
    cases hw : isMark w with
    | true =>
      rw [if_pos hw] at h
      injection h with h1 h2
      injection h1 with h3 h4
      subst h3; subst h4
      exact ⟨[], ws, rfl, by simp, (fun _ hx => by cases hx), hw, h2⟩
    | false =>
      rw [if_neg (by rw [hw]; exact Bool.false_ne_true)] at h
      obtain ⟨a, r, e1, e2, e3, e4, e5⟩ := idx_first ws (k + 1) i m rest h
      refine ⟨w :: a, r, by rw [e1]; rfl, by rw [List.length_cons]; omega, fun z hz => ?_, e4, e5⟩
      rcases List.mem_cons.mp hz with rfl | hz
      · exact hw
      · exact e3 z hz
theorem idx_none : ∀ (ws : List Str) (k : Nat), ((idx k ws).filter fun p => isMark p.2) = [] → ∀ w ∈ ws, isMark w = false
  | w :: ws, k, h, z, hz => by
    rw [idx, List.filter_cons] at h
    cases hw : isMark w with
    | true => rw [if_pos hw] at h; cases h
    | false =>
      rw [if_neg (by rw [hw]; exact Bool.false_ne_true)] at h
      rcases List.mem_cons.mp hz with rfl | hz
      · exact hw
      · exact idx_none ws (k + 1) h z hz
theorem segs_three {ws : List Str} {i j k : Nat} {m1 m2 m3 : Str} (h : ((idx 0 ws).filter fun p => isMark p.2) = [(i, m1), (j, m2), (k, m3)]) :
    i + 1 ≤ j ∧ j + 1 ≤ k ∧ k + 1 ≤ ws.length ∧ segs ws = [ws.take i, (ws.drop (i + 1)).take (j - (i + 1)), (ws.drop (j + 1)).take (k - (j + 1)), ws.drop (k + 1)] := by
  obtain ⟨a, r1, e1, e2, e3, e4, e5⟩ := idx_first _ _ _ _ _ h
  obtain ⟨b, r2, f1, f2, f3, f4, f5⟩ := idx_first _ _ _ _ _ e5
  obtain ⟨c, r3, g1, g2, g3, g4, g5⟩ := idx_first _ _ _ _ _ f5
  have pl := idx_none _ _ g5
  rw [Nat.zero_add] at e2
  subst e2
  refine ⟨by omega, by omega, ?_, ?_⟩
  · rw [e1, f1, g1]
    simp only [List.length_append, List.length_cons]
    omega
  · have s : segs ws = [a, b, c, r3] := by rw [e1, segs_app e3 e4, f1, segs_app f3 f4, g1, segs_app g3 g4, segs_plain pl]
    have d1 : ws.drop (a.length + 1) = r1 := by
      rw [e1, show a ++ m1 :: r1 = (a ++ [m1]) ++ r1 by simp]
      exact List.drop_left' (by simp)
    have d2 : ws.drop (j + 1) = r2 := by
      rw [f2, show a.length + 1 + b.length + 1 = (a.length + 1) + (b.length + 1) by omega, ← List.drop_drop, d1, f1, show b ++ m2 :: r2 = (b ++ [m2]) ++ r2 by simp]
      exact List.drop_left' (by simp)
    have d3 : ws.drop (k + 1) = r3 := by
      rw [g2, show j + 1 + c.length + 1 = (j + 1) + (c.length + 1) by omega, ← List.drop_drop, d2, g1, show c ++ m3 :: r3 = (c ++ [m3]) ++ r3 by simp]
      exact List.drop_left' (by simp)
    rw [s, d1, d2, d3]
    have t1 : ws.take a.length = a := by rw [e1]; exact List.take_left' rfl
    have t2 : r1.take (j - (a.length + 1)) = b := by rw [f2, f1, show a.length + 1 + b.length - (a.length + 1) = b.length by omega]; exact List.take_left' rfl
    have t3 : r2.take (k - (j + 1)) = c := by rw [g2, g1, show j + 1 + c.length - (j + 1) = c.length by omega]; exact List.take_left' rfl
    rw [t1, t2, t3]
abbrev Pts := List Str × List Str × List Str × List Str
def partsOf (ws : List Str) : Option Pts := if marks ws = (["/", "/", ">"] : List Str) then match segs ws with
  | [a, b, c, d] => some (a, b, c, d)
  | _ => none
  else none
def partsD : Option Pts → Dt
  | some (a, b, c, d) => .lst [.lst (tx a), .lst (tx b), .lst (tx c), .lst (tx d)]
  | none => .non
section
variable {P : Program} {w : World} {K : PySem.W.Frag} {mg : Str → Option Value} {base : Heap}
local macro_rules | `(tactic| walk_at "ev") => `(tactic| with_reducible first
  | (show EvD _ _ _ _; first
    | exact ev_var (by assumption) rfl
    | exact ev_int (by assumption)
    | exact ev_str (by assumption)
    | exact ev_non (by assumption)
    | exact ev_bl (by assumption)
    | (refine' ev_call (by assumption) ?_ ?_ ?_ <;> (try walk_at "ev"))
    | (refine' ev_op (by assumption) ?_ ?_ ?_ <;> (try walk_at "ev"))
    | (refine' ev_un (by assumption) ?_ rfl <;> (try walk_at "ev"))
    | (refine' ev_andV (by assumption) ?_ (fun _ => ?_) <;> (try walk_at "ev"))
    | (refine' ev_orV (by assumption) ?_ (fun _ => ?_) <;> (try walk_at "ev"))
    | (refine' ev_notV (by assumption) ?_ <;> (try walk_at "ev"))
    | (refine' ev_chain (by assumption) ?_ ?_ ?_ ?_ ?_ <;> (try walk_at "ev"))
    | (refine' ev_cb (by assumption) ?_ ?_ <;> (try walk_at "ev"))
    | (refine' ev_bm (by assumption) ?_ ?_ ?_ <;> (try walk_at "ev"))
    | (refine' ev_m1 (by assumption) ?_ ?_ ?_ <;> (try walk_at "ev"))
    | (refine' ev_sliceS (by assumption) ?_ ?_ ?_ <;> (try walk_at "ev"))
    | (refine' ev_slice (by assumption) ?_ ?_ ?_ <;> (try walk_at "ev"))
    | (refine' ev_tup (by assumption) ?_ ?_ <;> (try walk_at "ev"))
    | (refine' ev_lst (by assumption) ?_ ?_ <;> (try walk_at "ev"))
    | exact ev_h_shapes (by assumption) (by assumption) (by assumption) (ev_var (by assumption) rfl)
    | exact ev_h_marks (by assumption) (by assumption) (by assumption) (ev_var (by assumption) rfl)
    | exact ev_h_points (by assumption) (by assumption) (by assumption) (ev_var (by assumption) rfl)
    | exact ev_h_letters (by assumption) (by assumption) (by assumption) (ev_var (by assumption) rfl)
    | exact ev_h_gaps (by assumption) (by assumption) (by assumption) (ev_var (by assumption) rfl)
    | exact ev_h_classes (by assumption) (by assumption) (by assumption) (ev_var (by assumption) rfl)
    | exact ev_h_features (by assumption) (by assumption) (by assumption) (ev_var (by assumption) rfl)
    | exact ev_h_rules (by assumption) (by assumption) (by assumption) (ev_var (by assumption) rfl)
    | (refine' ev_dinK (by assumption) ?_ ?_ ?_ <;> (try walk_at "ev"))
    | (refine' ev_dniK (by assumption) ?_ ?_ ?_ <;> (try walk_at "ev"))
    | (refine' ev_dinT (by assumption) ?_ ?_ ?_ <;> (try walk_at "ev")))
  | (show EvA _ _ _ _; first
    | exact ea_nil (by assumption)
    | (refine' ea_cons (by assumption) ?_ ?_ <;> (try walk_at "ev")))
  | (show RV _ _ _ _ _; first
    | exact rv_int (by assumption)
    | exact rv_cmp (by assumption)
    | exact rv_eq (by assumption) rfl
    | exact rv_ne (by assumption) rfl
    | exact rv_isN (by assumption) rfl
    | exact rv_notN (by assumption) rfl
    | exact rv_inT (by assumption) (.inl rfl)
    | exact rv_inT (by assumption) (.inr rfl)
    | exact rv_niT (by assumption) (.inl rfl)
    | exact rv_niT (by assumption) (.inr rfl)
    | exact rv_inS (by assumption)
    | exact rv_niS (by assumption)
    | exact rv_ixS (by assumption) (by assumption)
    | exact rv_ixL (by assumption) (by assumption)
    | exact rv_ixT (by assumption) (by assumption)
    | exact rv_ixT (by assumption) rfl
    | exact rv_ixL (by assumption) rfl
    | (refine' rv_inM (by assumption) ?_ <;> (try walk_at "ev"))
    | (refine' rv_niM (by assumption) ?_ <;> (try walk_at "ev"))
    | (refine' rv_inX (by assumption) ?_ (.inl rfl) <;> (try walk_at "ev"))
    | (refine' rv_inX (by assumption) ?_ (.inr rfl) <;> (try walk_at "ev"))
    | (refine' rv_niX (by assumption) ?_ (.inl rfl) <;> (try walk_at "ev"))
    | (refine' rv_niX (by assumption) ?_ (.inr rfl) <;> (try walk_at "ev"))
    | exact rv_in (neg := false) (by assumption) rfl rfl (.inr rfl)
    | exact rv_in (neg := true) (by assumption) rfl rfl (.inr rfl)
    | exact rv_intC (g := fun i j => i % j) (by assumption) (by decide)
    | exact rv_intC (g := fun i j => i / j) (by assumption) (cdiv_ok (by decide)))
  | (show EvT _ _ _ _; first
    | exact et_yes (by assumption)
    | (refine' et_and (by assumption) ?_ (fun _ => ?_) <;> (try walk_at "ev"))
    | (refine' et_or (by assumption) ?_ (fun _ => ?_) <;> (try walk_at "ev"))
    | (refine' et_not ?_ <;> (try walk_at "ev"))
    | (refine' et_test ?_ <;> (try walk_at "ev"))
    | (refine' et_B ?_ <;> (try walk_at "ev")))
  | (show RC _ _ _ _; first
    | exact rc_lenL (by assumption)
    | exact rc_lenT (by assumption)
    | exact rc_lenS (by assumption)
    | exact rc_all (by assumption)
    | exact rc_intB (by assumption)
    | exact rc_strS (by assumption)
    | exact rc_listOf (by assumption) (.inl rfl)
    | exact rc_listOf (by assumption) (.inr rfl)
    | exact rc_tupOf (by assumption)
    | (refine' rc_lenD (by assumption) ?_ <;> (try walk_at "ev"))
    | (refine' rc_lenM (by assumption) ?_ <;> (try walk_at "ev")))
  | (show RM _ _ _ _ _; first
    | exact rm_strip' (by assumption))
  | (show EvO _ _ _ _; first
    | exact eo_none (by assumption)
    | (refine' eo_some ?_ <;> (try walk_at "ev")))
  | (show List.length _ ≤ Lim; with_unfolding_all exact Nat.le_of_ble_eq_true rfl)
  | (show List.length _ = _; with_unfolding_all rfl)
  | exact (fun _ _ _ => ⟨_, rfl, rfl⟩)
  | exact (fun _ _ _ => ⟨_, _, rfl, rfl⟩)
  | exact (fun _ _ _ => ⟨_, _, _, rfl, rfl⟩)
  | exact (fun _ _ _ => ⟨_, rfl, by assumption, rfl⟩)
  | exact hall_s (by assumption)
  | exact hall_m (by assumption)
  | exact hall_p (by assumption)
  | exact hall_l (by assumption)
  | exact hall_g (by assumption)
  | exact hall_c (by assumption)
  | exact hall_f (by assumption)
  | exact hall_r (by assumption)
  | exact TxL.of _
  | exact TxL.nil
  | (refine' TxL.cons ?_ <;> (try walk_at "ev")))


abbrev s_parted : Stmt := top 29
abbrev N_parted : List Str := ["words", "signs", "one", "two", "end", "k", "word"]
abbrev P_parted : List Str := ["words"]
theorem sc_parted : FnScope N_parted P_parted (defScope s_parted) := ⟨rfl, rfl, rfl, by decide +kernel, rfl, by decide +kernel, by decide +kernel⟩

abbrev spParted : Sp := SpF 1 fun _ _ as r => ∃ ws : List Str, as = [.lst (tx ws)] ∧ ws.length ≤ 1000001 ∧ r = partsD (partsOf ws)
theorem ev_mark {C : Hp → Hp → Prop} {ds : List (Option Dt)} {i : Nat} {x : Str} (ok : Cok C) (h : ds[i]? = some (some (.str x))) : EvD (tOp (rIn K false) (tVar i) (tTup (tCons (tC (.str "/")) (tCons (tC (.str ">")) tNil)))) C ds (.bl (isMark x)) :=
  ev_op ok (ev_var ok h) (ev_tup ok (ea_cons ok (ev_str ok) (ea_cons ok (ev_str ok) (ea_nil ok)))) (rv_inT (l := ["/", ">"]) ok (.inr rfl))
theorem mark_ok {x : Str} (h : isMark x = true) : PyData.strOk x = true := by
  have m : x ∈ (["/", ">"] : List Str) := of_decide_eq_true h
  simp only [List.mem_cons, List.not_mem_nil, or_false] at m
  rcases m with rfl | rfl <;> decide +kernel
theorem cal_parted (B : Blt mg) (D : Dfn K mg "parted" s_parted) : Cal P w K mg base "parted" 1 P_parted spParted := by
  have sc := sc_parted
  refine cal_of D (fun f fd F => fnok F sc fun cdv A outer s H E hr => ⟨_, (pss_cons (ps_setLc (i := 1) (own := [("k", 5), ("word", 6)]) (by rfl) sc.nd rfl rfl (sw_true rfl rfl rfl (by decide +kernel)) (pi_enum (by rfl) B.enumerate_ (pa_cons (pv 0) pa_nil)) (blkOk_by (N := N_parted) (sc := defScope s_parted) (by decide +kernel)) (fun _ _ _ _ _ => (pg_tupK (K := K) (n := 2) rfl rfl (pgs_cons (pg_name (i := 5) sc.nd rfl (Or.inl rfl)) (pgs_cons (pg_name (i := 6) sc.nd rfl (Or.inl rfl)) pgs_nil)))) (fun _ _ _ _ _ => (pts_one (pt_cmpR (r := rIn K false) op_in_seq (pv 6) (pe_tup (pa_cons pe_str (pa_cons pe_str pa_nil))) rfl))) (fun _ _ _ _ _ => (pv 5)))
      (pss_cons (ps_if (pt_cmpR (r := rNeD K) (op_neD hr.units) (pe_lc (own := [("k", 5)]) (by rfl) sc.nd (pi_list (pv 1)) (blkOk_by (N := N_parted) (sc := defScope s_parted) (by decide +kernel)) (fun _ _ _ _ _ => (pg_name (i := 5) sc.nd rfl (Or.inl rfl))) (fun _ _ _ _ _ => pts_nil) (fun _ _ _ _ _ => (pe_ix (r := rIxL K) ix_list (pv 0) (pv 5) (fun _ _ => rfl)))) (pe_lst (pa_cons pe_str (pa_cons pe_str (pa_cons pe_str pa_nil)))) (nomark _)) (pss_one (ps_ret pe_non)) pss_nil)
      (pss_cons (ps_asg (pv 1) (pg_unlK (K := K) (n := 3) rfl rfl (pgs_cons (pg_name (i := 2) sc.nd rfl (Or.inl rfl)) (pgs_cons (pg_name (i := 3) sc.nd rfl (Or.inl rfl)) (pgs_cons (pg_name (i := 4) sc.nd rfl (Or.inl rfl)) pgs_nil)))))
      (pss_one (ps_ret (pe_lst (pa_cons (pe_slice (r := rSlL K) sl_list (pv 0) po_none (po_some (pv 2))) (pa_cons (pe_slice (r := rSlL K) sl_list (pv 0) (po_some (pe_op op_add (pv 2) pe_int)) (po_some (pv 3))) (pa_cons (pe_slice (r := rSlL K) sl_list (pv 0) (po_some (pe_op op_add (pv 3) pe_int)) (po_some (pv 4))) (pa_cons (pe_slice (r := rSlL K) sl_list (pv 0) (po_some (pe_op op_add (pv 4) pe_int)) po_none) pa_nil)))))))))), fun G as r D hl sm hp hq hx => ?_⟩) (fun _ _ _ _ _ _ us hl => match us, hl with | [_], _ => rfl)
  obtain ⟨ws, rfl, hw, rfl⟩ := hp
  have ok : Cok (Bs No G H) := Bs.ok
  generalize hS : ((idx 0 ws).filter fun p => isMark p.2) = S
  have hM : S.map (·.2) = marks ws := by rw [← hS]; exact idx_marks ws 0
  have hG : ∀ p ∈ S, atI (tx ws) (p.1 : Int) = some (.str p.2) ∧ isMark p.2 = true := fun p hp => by
    rw [← hS] at hp
    obtain ⟨h1, h2⟩ := List.mem_filter.mp hp
    exact ⟨atI_txt (by simpa using (idx_get ws 0 p h1).2), h2⟩
  have hSl : S.length ≤ 1000001 := by rw [← hS]; exact Nat.le_trans (List.length_filter_le _ _) (by rw [idx_len]; exact hw)
  refine run_set ok (EvD.is (EvN.ev ok (en_lc (idx 0 ws) (fun p => Dt.tup [.int (p.1 : Nat), .str p.2]) (fun p => [(5, .int (p.1 : Nat)), (6, .str p.2)]) (fun p => isMark p.2) (fun p => .int (p.1 : Nat)) ok
      (by rw [← enum_idx]; exact ei_enum (by walk_at "ev")) (fun p hp => tg_tup (tgs_cons tg_name (tgs_cons tg_name tgs_nil)) rfl) (fun p hp i hi => by simpa using hi) (fun p hp => et_test (ev_mark ok rfl)) (fun p hp _ => by walk_at "ev") (by rw [idx_len]; exact Nat.le_trans hw (by decide)))) (show _ = Dt.lst (S.map fun p => .int (p.1 : Nat)) by rw [hS])) ?_
  have hok : ∀ x ∈ marks ws, PyData.strOk x = true := fun x hx => mark_ok (List.mem_filter.mp hx).2
  refine run_when ok (et_test (ev_op ok (EvD.is (EvN.ev ok (en_map1 S (fun p => Dt.int (p.1 : Nat)) (fun p => Dt.str p.2) ok (by walk_at "ev") (fun p hp => ev_op ok (ev_var ok rfl) (ev_var ok rfl) (rv_ixL ok (hG p hp).1)) (Nat.le_trans hSl (by decide)))) (show _ = Dt.lst (tx (marks ws)) by rw [← hM, tx, List.map_map]; rfl)) (ev_lst ok (ea_cons ok (ev_str ok) (ea_cons ok (ev_str ok) (ea_cons ok (ev_str ok) (ea_nil ok)))) (by show _ ≤ Lim; decide)) (rv_neT (m := ["/", "/", ">"]) ok hok (by decide +kernel)))) (fun e => run_ret ok (by walk_at "ev") ?_ hq) (fun e => ?_)
  · have e' : marks ws ≠ (["/", "/", ">"] : List Str) := by simpa using e
    unfold partsOf; rw [if_neg e']; rfl
  · have e' : marks ws = (["/", "/", ">"] : List Str) := by simpa using e
    rw [e'] at hM
    obtain ⟨p1, p2, p3, rfl⟩ := len3 (show S.length = 3 by have := congrArg List.length hM; simpa using this)
    obtain ⟨i, m1⟩ := p1
    obtain ⟨j, m2⟩ := p2
    obtain ⟨k, m3⟩ := p3
    obtain ⟨q1, q2, q3, q4⟩ := segs_three hS
    refine run_tg ok (ev_var ok rfl) (tg_lst (tgs_cons tg_name (tgs_cons tg_name (tgs_cons tg_name tgs_nil))) rfl) ?_
    refine run_ret ok (ev_lst ok (ea_cons ok (by walk_at "ev") (ea_cons ok (by walk_at "ev") (ea_cons ok (by walk_at "ev") (ea_cons ok (by walk_at "ev") (ea_nil ok))))) (by show (4 : Nat) ≤ Lim; decide)) ?_ hq
    unfold partsOf
    rw [if_pos e', q4]
    show Dt.lst [.lst (cutD _ none (some (i : Int))), .lst (cutD _ (some ((i + 1 : Nat) : Int)) (some (j : Int))), .lst (cutD _ (some ((j + 1 : Nat) : Int)) (some (k : Int))), .lst (cutD _ (some ((k + 1 : Nat) : Int)) none)] = _
    rw [cutD_L, cutD_M, cutD_M, cutD_R]
    simp only [partsD, tx, List.map_drop, List.map_take]
end
end Kx

namespace Kx
open PySem L2
def ok4 (a b c d : List Str) : Bool := ((((decide (a.length ≤ 3) && (decide (1 ≤ b.length) && decide (b.length ≤ 4))) && decide (c.length ≤ 3)) && (decide (1 ≤ d.length) && decide (d.length ≤ 3))) && d.all isName) && (a ++ b ++ c).all isItem
def rulePartsOf (ws : List Str) : Option Pts := match partsOf ws with
  | some (a, b, c, d) => if ok4 a b c d then some (a, b, c, d) else none
  | none => none
theorem segs_len : ∀ ws : List Str, ∀ p ∈ segs ws, p.length ≤ ws.length
  | [], p, h => by rw [segs, List.mem_singleton] at h; subst h; exact Nat.le_refl _
  | w :: r, p, h => by
    rw [segs] at h
    have ih := segs_len r
    split at h
    · rcases List.mem_cons.mp h with rfl | h
      · exact Nat.zero_le _
      · exact Nat.le_succ_of_le (ih p h)
    · split at h
      · rw [List.mem_singleton] at h; subst h; simp
      · rename_i q qs e
        rw [e] at ih
        rcases List.mem_cons.mp h with rfl | h
        · exact Nat.succ_le_succ (ih q List.mem_cons_self)
        · exact Nat.le_succ_of_le (ih p (List.mem_cons_of_mem _ h))
theorem parts_len {ws a b c d : List Str} (h : partsOf ws = some (a, b, c, d)) : a.length ≤ ws.length ∧ b.length ≤ ws.length ∧ c.length ≤ ws.length ∧ d.length ≤ ws.length := by
  unfold partsOf at h
  split at h
  · have l := segs_len ws
    split at h
    · rename_i e
      cases h
      rw [e] at l
      exact ⟨l _ (by simp), l _ (by simp), l _ (by simp), l _ (by simp)⟩
    · cases h
  · cases h
theorem EvN_ev2 {C : Hp → Hp → Prop} {r : R2} {a b : Dt} {xs : List Dt} (ok : Cok C) (h : RN r C a b xs) : RV r C a b (.lst xs) := fun G H x y k r1 r2 Q q =>
  h G H x y k r1 r2 Q fun p vs G' H' pu n ng e r => q _ (upd G' p (.lst vs)) H' (pu.seal (ok.sub k) n e) (.lst upd_same (r.mono fun b o z => by rw [upd_ne (ne_of_none z ng)]; exact z))
theorem RC.is2 {C : Hp → Hp → Prop} {r : List V → Hp → VK → Prop} {as bs : List Dt} {c d : Dt} (h : RC r C as c) (e : as = bs) (f : c = d) : RC r C bs d := e ▸ f ▸ h
section
variable {P : Program} {w : World} {K : PySem.W.Frag} {mg : Str → Option Value} {base : Heap}
local macro_rules | `(tactic| walk_at "ev") => `(tactic| with_reducible first
  | (show EvD _ _ _ _; first
    | exact ev_var (by assumption) rfl
    | exact ev_int (by assumption)
    | exact ev_str (by assumption)
    | exact ev_non (by assumption)
    | exact ev_bl (by assumption)
    | (refine' ev_call (by assumption) ?_ ?_ ?_ <;> (try walk_at "ev"))
    | (refine' ev_op (by assumption) ?_ ?_ ?_ <;> (try walk_at "ev"))
    | (refine' ev_un (by assumption) ?_ rfl <;> (try walk_at "ev"))
    | (refine' ev_andV (by assumption) ?_ (fun _ => ?_) <;> (try walk_at "ev"))
    | (refine' ev_orV (by assumption) ?_ (fun _ => ?_) <;> (try walk_at "ev"))
    | (refine' ev_notV (by assumption) ?_ <;> (try walk_at "ev"))
    | (refine' ev_chain (by assumption) ?_ ?_ ?_ ?_ ?_ <;> (try walk_at "ev"))
    | (refine' ev_cb (by assumption) ?_ ?_ <;> (try walk_at "ev"))
    | (refine' ev_bm (by assumption) ?_ ?_ ?_ <;> (try walk_at "ev"))
    | (refine' ev_m1 (by assumption) ?_ ?_ ?_ <;> (try walk_at "ev"))
    | (refine' ev_sliceS (by assumption) ?_ ?_ ?_ <;> (try walk_at "ev"))
    | (refine' ev_slice (by assumption) ?_ ?_ ?_ <;> (try walk_at "ev"))
    | (refine' ev_tup (by assumption) ?_ ?_ <;> (try walk_at "ev"))
    | (refine' ev_lst (by assumption) ?_ ?_ <;> (try walk_at "ev"))
    | exact ev_h_shapes (by assumption) (by assumption) (by assumption) (ev_var (by assumption) rfl)
    | exact ev_h_marks (by assumption) (by assumption) (by assumption) (ev_var (by assumption) rfl)
    | exact ev_h_points (by assumption) (by assumption) (by assumption) (ev_var (by assumption) rfl)
    | exact ev_h_letters (by assumption) (by assumption) (by assumption) (ev_var (by assumption) rfl)
    | exact ev_h_gaps (by assumption) (by assumption) (by assumption) (ev_var (by assumption) rfl)
    | exact ev_h_classes (by assumption) (by assumption) (by assumption) (ev_var (by assumption) rfl)
    | exact ev_h_features (by assumption) (by assumption) (by assumption) (ev_var (by assumption) rfl)
    | exact ev_h_rules (by assumption) (by assumption) (by assumption) (ev_var (by assumption) rfl)
    | (refine' ev_dinK (by assumption) ?_ ?_ ?_ <;> (try walk_at "ev"))
    | (refine' ev_dniK (by assumption) ?_ ?_ ?_ <;> (try walk_at "ev"))
    | (refine' ev_dinT (by assumption) ?_ ?_ ?_ <;> (try walk_at "ev")))
  | (show EvA _ _ _ _; first
    | exact ea_nil (by assumption)
    | (refine' ea_cons (by assumption) ?_ ?_ <;> (try walk_at "ev")))
  | (show RV _ _ _ _ _; first
    | exact rv_int (by assumption)
    | exact rv_cmp (by assumption)
    | exact rv_eq (by assumption) rfl
    | exact rv_ne (by assumption) rfl
    | exact rv_isN (by assumption) rfl
    | exact rv_notN (by assumption) rfl
    | exact rv_inT (by assumption) (.inl rfl)
    | exact rv_inT (by assumption) (.inr rfl)
    | exact rv_niT (by assumption) (.inl rfl)
    | exact rv_niT (by assumption) (.inr rfl)
    | exact rv_inS (by assumption)
    | exact rv_niS (by assumption)
    | exact rv_ixS (by assumption) (by assumption)
    | exact rv_ixL (by assumption) (by assumption)
    | exact rv_ixT (by assumption) (by assumption)
    | exact rv_ixT (by assumption) rfl
    | exact rv_ixL (by assumption) rfl
    | (refine' rv_inM (by assumption) ?_ <;> (try walk_at "ev"))
    | (refine' rv_niM (by assumption) ?_ <;> (try walk_at "ev"))
    | (refine' rv_inX (by assumption) ?_ (.inl rfl) <;> (try walk_at "ev"))
    | (refine' rv_inX (by assumption) ?_ (.inr rfl) <;> (try walk_at "ev"))
    | (refine' rv_niX (by assumption) ?_ (.inl rfl) <;> (try walk_at "ev"))
    | (refine' rv_niX (by assumption) ?_ (.inr rfl) <;> (try walk_at "ev"))
    | exact rv_in (neg := false) (by assumption) rfl rfl (.inr rfl)
    | exact rv_in (neg := true) (by assumption) rfl rfl (.inr rfl)
    | exact rv_intC (g := fun i j => i % j) (by assumption) (by decide)
    | exact rv_intC (g := fun i j => i / j) (by assumption) (cdiv_ok (by decide)))
  | (show EvT _ _ _ _; first
    | exact et_yes (by assumption)
    | (refine' et_and (by assumption) ?_ (fun _ => ?_) <;> (try walk_at "ev"))
    | (refine' et_or (by assumption) ?_ (fun _ => ?_) <;> (try walk_at "ev"))
    | (refine' et_not ?_ <;> (try walk_at "ev"))
    | (refine' et_test ?_ <;> (try walk_at "ev"))
    | (refine' et_B ?_ <;> (try walk_at "ev")))
  | (show RC _ _ _ _; first
    | exact rc_lenL (by assumption)
    | exact rc_lenT (by assumption)
    | exact rc_lenS (by assumption)
    | exact rc_all (by assumption)
    | exact rc_intB (by assumption)
    | exact rc_strS (by assumption)
    | exact rc_listOf (by assumption) (.inl rfl)
    | exact rc_listOf (by assumption) (.inr rfl)
    | exact rc_tupOf (by assumption)
    | (refine' rc_lenD (by assumption) ?_ <;> (try walk_at "ev"))
    | (refine' rc_lenM (by assumption) ?_ <;> (try walk_at "ev")))
  | (show RM _ _ _ _ _; first
    | exact rm_strip' (by assumption))
  | (show EvO _ _ _ _; first
    | exact eo_none (by assumption)
    | (refine' eo_some ?_ <;> (try walk_at "ev")))
  | (show List.length _ ≤ Lim; with_unfolding_all exact Nat.le_of_ble_eq_true rfl)
  | (show List.length _ = _; with_unfolding_all rfl)
  | exact (fun _ _ _ => ⟨_, rfl, rfl⟩)
  | exact (fun _ _ _ => ⟨_, _, rfl, rfl⟩)
  | exact (fun _ _ _ => ⟨_, _, _, rfl, rfl⟩)
  | exact (fun _ _ _ => ⟨_, rfl, by assumption, rfl⟩)
  | exact hall_s (by assumption)
  | exact hall_m (by assumption)
  | exact hall_p (by assumption)
  | exact hall_l (by assumption)
  | exact hall_g (by assumption)
  | exact hall_c (by assumption)
  | exact hall_f (by assumption)
  | exact hall_r (by assumption)
  | exact TxL.of _
  | exact TxL.nil
  | (refine' TxL.cons ?_ <;> (try walk_at "ev")))


abbrev s_rule_parts : Stmt := top 30
abbrev N_rule_parts : List Str := ["words", "parts", "word"]
abbrev P_rule_parts : List Str := ["words"]
theorem sc_rule_parts : FnScope N_rule_parts P_rule_parts (defScope s_rule_parts) := ⟨rfl, rfl, rfl, by decide +kernel, rfl, by decide +kernel, by decide +kernel⟩

abbrev spRuleParts : Sp := SpF 1 fun _ _ as r => ∃ ws : List Str, as = [.lst (tx ws)] ∧ ws.length ≤ 1000001 ∧ r = partsD (rulePartsOf ws)
theorem cal_rule_parts (B : Blt mg) (D : Dfn K mg "rule_parts" s_rule_parts) (C_parted : Cal P w K mg base "parted" 1 P_parted spParted) (C_all_names : Cal P w K mg base "all_names" 2 P_all_names spAllNames) (C_is_item : Cal P w K mg base "is_item" 2 P_is_item spIsItem) : Cal P w K mg base "rule_parts" 3 P_rule_parts spRuleParts := by
  have sc := sc_rule_parts
  replace C_parted := C_parted.mono (k := 2) (by decide)
  refine cal_of D (fun f fd F => fnok F sc fun cdv A outer s H E hr => have hr1 := hr; ⟨_, (pss_cons (ps_set (i := 1) sc.nd rfl (Or.inl rfl) (pe_callC C_parted hr1 rfl (pa_cons (pv 0) pa_nil)))
      (pss_cons (ps_if (PW.pt (pw_or (pt_cmpR op_isN1 (pv 1) pe_non (nomark _)) (pw_or (pt_cmpR op_gt (pe_callB (r := rLen K) call_lenK (by rfl) B.len_ (by decide +kernel) (pa_cons (pe_ix (r := rIxL K) ix_list (pv 1) pe_int (fun _ _ => rfl)) pa_nil)) pe_int (nomark _)) (pw_or1 (pt_not (pt_chain op_le op_le pe_int (pe_callB (r := rLen K) call_lenK (by rfl) B.len_ (by decide +kernel) (pa_cons (pe_ix (r := rIxL K) ix_list (pv 1) pe_int (fun _ _ => rfl)) pa_nil)) pe_int)))))) (pss_one (ps_ret pe_non)) pss_nil)
      (pss_cons (ps_if (PW.pt (pw_or (pt_cmpR op_gt (pe_callB (r := rLen K) call_lenK (by rfl) B.len_ (by decide +kernel) (pa_cons (pe_ix (r := rIxL K) ix_list (pv 1) pe_int (fun _ _ => rfl)) pa_nil)) pe_int (nomark _)) (pw_or (pt_not (pt_chain op_le op_le pe_int (pe_callB (r := rLen K) call_lenK (by rfl) B.len_ (by decide +kernel) (pa_cons (pe_ix (r := rIxL K) ix_list (pv 1) pe_int (fun _ _ => rfl)) pa_nil)) pe_int)) (pw_or1 (pt_not (pt_val (pe_callC C_all_names hr1 rfl (pa_cons (pe_ix (r := rIxL K) ix_list (pv 1) pe_int (fun _ _ => rfl)) pa_nil)))))))) (pss_one (ps_ret pe_non)) pss_nil)
      (pss_cons (ps_if (pt_not (pt_val (pe_callB (r := rAll K) (cr_all rfl) (by rfl) B.all_ (by decide +kernel) (pa_cons (pe_lc (own := [("word", 2)]) (by rfl) sc.nd (pi_list (pe_op op_cat (pe_op op_cat (pe_ix (r := rIxL K) ix_list (pv 1) pe_int (fun _ _ => rfl)) (pe_ix (r := rIxL K) ix_list (pv 1) pe_int (fun _ _ => rfl))) (pe_ix (r := rIxL K) ix_list (pv 1) pe_int (fun _ _ => rfl)))) (blkOk_by (N := N_rule_parts) (sc := defScope s_rule_parts) (by decide +kernel)) (fun _ _ _ _ _ => (pg_name (i := 2) sc.nd rfl (Or.inl rfl))) (fun _ _ _ _ _ => pts_nil) (fun _ _ _ _ _ => (pe_callC C_is_item hr1 rfl (pa_cons (pv 2) pa_nil)))) pa_nil)))) (pss_one (ps_ret pe_non)) pss_nil)
      (pss_one (ps_ret (pv 1))))))), fun G as r D hl sm hp hq hx => ?_⟩) (fun _ _ _ _ _ _ us hl => match us, hl with | [_], _ => rfl)
  obtain ⟨ws, rfl, hw, rfl⟩ := hp
  have ok : Cok (Bs No G H) := Bs.ok
  refine run_set ok (d := partsD (partsOf ws)) (ev_call ok (by walk_at "ev") rfl (fun _ _ _ => ⟨ws, rfl, hw, rfl⟩)) ?_
  unfold rulePartsOf at hq
  cases hp : partsOf ws with
  | none =>
    rw [hp] at hq
    rw [show partsD none = Dt.non from rfl]
    refine run_when ok (b := true) (et_or (p := true) (q := false) ok (et_test (ev_op ok (ev_var ok rfl) (ev_non ok) (rv_isN ok rfl))) (fun h => absurd h (by decide))) (fun e => run_ret (d := .non) ok (ev_non ok) rfl hq) (fun e => by cases e)
  | some q =>
    obtain ⟨a, b, c, d⟩ := q
    rw [hp] at hq
    obtain ⟨la, lb, lc, ld⟩ := parts_len hp
    have hdl : d.length ≤ 1000001 := Nat.le_trans ld hw
    have ha : atI [Dt.lst (tx a), .lst (tx b), .lst (tx c), .lst (tx d)] 0 = some (.lst (tx a)) := rfl
    have hb : atI [Dt.lst (tx a), .lst (tx b), .lst (tx c), .lst (tx d)] 1 = some (.lst (tx b)) := rfl
    have hc : atI [Dt.lst (tx a), .lst (tx b), .lst (tx c), .lst (tx d)] 2 = some (.lst (tx c)) := rfl
    have hd : atI [Dt.lst (tx a), .lst (tx b), .lst (tx c), .lst (tx d)] 3 = some (.lst (tx d)) := rfl
    rw [show partsD (some (a, b, c, d)) = .lst [Dt.lst (tx a), .lst (tx b), .lst (tx c), .lst (tx d)] from rfl]
    refine run_when ok (by walk_at "ev") (fun e => ?_) (fun e => ?_)
    · refine run_ret ok (ev_non ok) ?_ hq
      have h : ok4 a b c d = false := by
        cases h : ok4 a b c d with
        | false => rfl
        | true =>
          unfold ok4 at h
          simp only [Bool.and_eq_true, decide_eq_true_eq] at h
          simp only [Bool.or_eq_true, Bool.not_eq_true', decide_eq_true_eq, Bool.and_eq_false_iff, decide_eq_false_iff_not, List.length_map] at e
          simp only [Bool.false_eq_true, false_or] at e
          omega
      show Dt.non = partsD (if ok4 a b c d = true then some (a, b, c, d) else none)
      rw [h]; rfl
    · refine run_when ok (by walk_at "ev") (fun e2 => ?_) (fun e2 => ?_)
      · refine run_ret ok (ev_non ok) ?_ hq
        have h : ok4 a b c d = false := by
          cases h : ok4 a b c d with
          | false => rfl
          | true =>
            unfold ok4 at h
            simp only [Bool.and_eq_true, decide_eq_true_eq] at h
            simp only [Bool.or_eq_true, Bool.not_eq_true', decide_eq_true_eq, Bool.and_eq_false_iff, decide_eq_false_iff_not, List.length_map] at e2
            rw [h.1.2] at e2
            simp only [Bool.true_eq_false, or_false] at e2
            omega
        show Dt.non = partsD (if ok4 a b c d = true then some (a, b, c, d) else none)
        rw [h]; rfl
      · simp only [Bool.or_eq_false_iff, Bool.not_eq_false', decide_eq_false_iff_not, Bool.and_eq_true, decide_eq_true_eq, List.length_map] at e e2
        refine run_when ok (et_not (et_test (ev_cb ok (ea_cons ok (EvN.ev ok (en_map1 (a ++ b ++ c) Dt.str (fun y => Dt.bl (isItem y)) ok (EvD.is (ev_op ok (ev_op ok (by walk_at "ev") (by walk_at "ev") (EvN_ev2 ok (rn_cat ok (by simp only [List.length_map]; show _ ≤ 16000000; omega)))) (by walk_at "ev") (EvN_ev2 ok (rn_cat ok (by simp only [List.length_map, List.length_append]; show _ ≤ 16000000; omega)))) (show _ = Dt.lst (tx (a ++ b ++ c)) by simp [tx])) (fun y hy => by walk_at "ev") (by simp only [List.length_append]; show _ ≤ 16000000; omega))) (ea_nil ok)) (RC.is2 (rc_all (bs := (a ++ b ++ c).map isItem) ok) (by rw [List.map_map]; rfl) rfl)))) (fun e5 => ?_) (fun e5 => ?_)
        · refine run_ret ok (ev_non ok) ?_ hq
          have h : ok4 a b c d = false := by
            cases h : ok4 a b c d with
            | false => rfl
            | true =>
              unfold ok4 at h
              rw [Bool.and_eq_true] at h
              rw [List.all_map] at e5
              have h2 : (a ++ b ++ c).all (id ∘ isItem) = true := h.2
              rw [h2] at e5; cases e5
          show Dt.non = partsD (if ok4 a b c d = true then some (a, b, c, d) else none)
          rw [h]; rfl
        · refine run_ret ok (ev_var ok rfl) ?_ hq
          have h : ok4 a b c d = true := by
            unfold ok4
            rw [List.all_map] at e5
            have h2 : (a ++ b ++ c).all isItem = true := by
              cases h3 : (a ++ b ++ c).all isItem with
              | true => rfl
              | false =>
                have h4 : (a ++ b ++ c).all (id ∘ isItem) = false := h3
                rw [h4] at e5; cases e5
            simp only [Bool.and_eq_true, decide_eq_true_eq]
            refine ⟨⟨⟨⟨⟨?_, ?_, ?_⟩, ?_⟩, ?_, ?_⟩, e2.2.2⟩, h2⟩ <;> omega
          show _ = partsD (if ok4 a b c d = true then some (a, b, c, d) else none)
          rw [h]; rfl
end
end Kx

namespace Kx
open PySem L2
/-! ## Dicts that change, by their data -/
inductive RK (G : Hp) : List (Key × V) → List (Str × Dt) → Prop
  | nil : RK G [] []
  | cons {k : Str} {v : V} {d : Dt} {kvs : List (Key × V)} {xs : List (Str × Dt)} (h : Rep G v d) (r : RK G kvs xs) : RK G ((.inr k, v) :: kvs) ((k, d) :: xs)
inductive RT (G : Hp) : List (List Key × V) → List (List Str × Dt) → Prop
  | nil : RT G [] []
  | cons {k : List Str} {v : V} {d : Dt} {kvs : List (List Key × V)} {xs : List (List Str × Dt)} (h : Rep G v d) (r : RT G kvs xs) : RT G ((k.map Sum.inr, v) :: kvs) ((k, d) :: xs)
section
variable {G G' : Hp}
theorem RK.mono (e : Same G G') : ∀ {kvs xs}, RK G kvs xs → RK G' kvs xs
  | _, _, .nil => .nil
  | _, _, .cons h r => .cons (h.mono e) (r.mono e)
theorem RT.mono (e : Same G G') : ∀ {kvs xs}, RT G kvs xs → RT G' kvs xs
  | _, _, .nil => .nil
  | _, _, .cons h r => .cons (h.mono e) (r.mono e)
theorem RK.length : ∀ {kvs xs}, RK G kvs xs → kvs.length = xs.length
  | _, _, .nil => rfl
  | _, _, .cons _ r => by rw [List.length_cons, List.length_cons, r.length]
theorem RT.length : ∀ {kvs xs}, RT G kvs xs → kvs.length = xs.length
  | _, _, .nil => rfl
  | _, _, .cons _ r => by rw [List.length_cons, List.length_cons, r.length]
theorem RK.snoc {k : Str} {v : V} {d : Dt} (h : Rep G v d) : ∀ {kvs xs}, RK G kvs xs → RK G (kvs ++ [(.inr k, v)]) (xs ++ [(k, d)])
  | _, _, .nil => .cons h .nil
  | _, _, .cons h' r => .cons h' (RK.snoc h r)
theorem RT.snoc {k : List Str} {v : V} {d : Dt} (h : Rep G v d) : ∀ {kvs xs}, RT G kvs xs → RT G (kvs ++ [(k.map Sum.inr, v)]) (xs ++ [(k, d)])
  | _, _, .nil => .cons h .nil
  | _, _, .cons h' r => .cons h' (RT.snoc h r)
def hasS (xs : List (Str × Dt)) (x : Str) : Bool := xs.any fun p => decide (p.1 = x)
def hasT (xs : List (List Str × Dt)) (x : List Str) : Bool := xs.any fun p => decide (p.1 = x)
theorem RK.has (x : Str) : ∀ {kvs xs}, RK G kvs xs → (valV kvs (.inr x)).isSome = hasS xs x
  | _, _, .nil => rfl
  | _, _, .cons (k := k) (v := v) (kvs := kvs) h r => by
    unfold hasS
    rw [List.any_cons]
    by_cases e : k = x
    · rw [valV_pos (p := ((.inr k : Key), v)) (by rw [e])]; simp [e]
    · rw [valV_neg (p := ((.inr k : Key), v)) (by simpa using e), r.has x, decide_eq_false e]; rfl
theorem inr_inj : ∀ {a b : List Str}, (a.map Sum.inr : List Key) = b.map Sum.inr → a = b
  | [], [], _ => rfl
  | [], _ :: _, h => by simp at h
  | _ :: _, [], h => by simp at h
  | x :: a, y :: b, h => by
    rw [List.map_cons, List.map_cons] at h
    injection h with h1 h2
    injection h1 with h1
    rw [h1, inr_inj h2]
theorem RT.has (x : List Str) : ∀ {kvs xs}, RT G kvs xs → (valV kvs (x.map Sum.inr)).isSome = hasT xs x
  | _, _, .nil => rfl
  | _, _, .cons (k := k) (v := v) (kvs := kvs) h r => by
    unfold hasT
    rw [List.any_cons]
    by_cases e : k = x
    · rw [valV_pos (p := ((k.map Sum.inr : List Key), v)) (by rw [e])]; simp [e]
    · rw [valV_neg (p := ((k.map Sum.inr : List Key), v)) (fun z => e (inr_inj z)), r.has x, decide_eq_false e]; rfl
end
/-- the dict at p, not in what stays -/
def DK (p : Addr) (xs : List (Str × Dt)) (G H : Hp) : Prop := G p = none ∧ ∃ kvs, H p = some (.dK kvs) ∧ RK G kvs xs
def DT (p : Addr) (xs : List (List Str × Dt)) (G H : Hp) : Prop := G p = none ∧ ∃ kvs, H p = some (.dT kvs) ∧ RT G kvs xs
section
variable {S : Addr → Prop} {G H G' H' : Hp} {p : Addr}
theorem DK.stp {xs} (h : DK p xs G H) (st : Stp S G H G' H') (n : ¬ S p) : DK p xs G' H' := by
  obtain ⟨h1, kvs, h2, h3⟩ := h
  exact ⟨st.ap' h2 n (fun _ => nofun) h1, kvs, st.hh p _ n h2, h3.mono st.gg⟩
theorem DT.stp {xs} (h : DT p xs G H) (st : Stp S G H G' H') (n : ¬ S p) : DT p xs G' H' := by
  obtain ⟨h1, kvs, h2, h3⟩ := h
  exact ⟨st.ap' h2 n (fun _ => nofun) h1, kvs, st.hh p _ n h2, h3.mono st.gg⟩
theorem Mu.stp' {xs} (h : Mu p xs G H) (st : Stp S G H G' H') (n : ¬ S p) : Mu p xs G' H' := by
  obtain ⟨h1, kvs, h2, h3⟩ := h
  exact ⟨st.ap' h2 n (fun _ => nofun) h1, kvs, st.hh p _ n h2, h3.mono st.gg⟩
end
section
variable {S : Addr → Prop} {C C' : Hp → Hp → Prop} {ds es : List (Option Dt)} {K : PySem.W.Frag} {ta tb te : TE} {tl : TA} {t u w : TS} {c : TT} {a d r : Dt} {D : Ends} {p : Addr}
theorem ev_dinK {x : Str} {xs} (ok : Cok C) (hk : EvD ta C ds (.str x)) (hd : EvD tb C ds (.obj p)) (hf : ∀ G H, C G H → DK p xs G H) : EvD (tDIn ta tb) C ds (.bl (hasS xs x)) :=
  ev_din ok hk hd fun G H k => by obtain ⟨_, kvs, e, r⟩ := hf G H k; exact ⟨kvs, e, r.has x⟩
theorem ev_dniK {x : Str} {xs} (ok : Cok C) (hk : EvD ta C ds (.str x)) (hd : EvD tb C ds (.obj p)) (hf : ∀ G H, C G H → DK p xs G H) : EvD (tDNotIn ta tb) C ds (.bl (!hasS xs x)) :=
  ev_dni ok hk hd fun G H k => by obtain ⟨_, kvs, e, r⟩ := hf G H k; exact ⟨kvs, e, r.has x⟩
theorem rep_txs {G : Hp} {v : V} {xs : List Str} (h : Rep G v (.tup (tx xs))) : ∃ b, v = .ref b ∧ G b = some (.tup ((xs.map Sum.inr : List Key).map kV)) := by
  cases h with
  | tup e r =>
    obtain ⟨e', _⟩ := r.txs
    refine ⟨_, rfl, ?_⟩
    rw [e, e', List.map_map]; rfl
theorem ev_dinT {x : List Str} {xs} (ok : Cok C) (hk : EvD ta C ds (.tup (tx x))) (hd : EvD tb C ds (.obj p)) (hf : ∀ G H, C G H → DT p xs G H) : EvD (tDIn ta tb) C ds (.bl (hasT xs x)) := fun G σ H k s Q z =>
  hk G σ H k s _ fun v G1 H1 p1 r1 => hd G1 σ H1 (ok.stp k p1) (s.mono p1.gg) _ fun w G2 H2 p2 r2 => by
    obtain ⟨b, rfl, eb⟩ := rep_txs r1
    cases r2
    obtain ⟨_, kvs, e, r⟩ := hf G2 H2 (ok.stp k (p1.trans p2))
    exact ⟨p, _, rfl, DGet.t e (p2.gh _ _ (p2.gg _ _ eb)), by rw [r.has]; exact z _ G2 H2 (p1.trans p2) (.bl _)⟩
def rLenD : List V → Hp → VK → Prop := fun xs H Q => ∃ a kvs, xs = [V.ref a] ∧ H a = some (.dK kvs) ∧ Q (.int kvs.length) H
theorem call_lenDK {X : Cx} : CallR X (.builtin "len") rLenD := call_lenD
theorem rc_lenD {xs : List (Str × Dt)} (ok : Cok C) (hf : ∀ G H, C G H → DK p xs G H) : RC rLenD C [.obj p] (.int (xs.length : Nat)) := fun G H vs k r Q z => by
  cases r with
  | cons h r =>
    cases r; cases h
    obtain ⟨_, kvs, e, rk⟩ := hf G H k
    exact ⟨p, kvs, rfl, e, by rw [rk.length]; exact z _ G H (Pu.r ok k) (.int _)⟩
theorem rc_lenM {xs : List Dt} (ok : Cok C) (hf : ∀ G H, C G H → Mu p xs G H) : RC (rLen K) C [.obj p] (.int (xs.length : Nat)) := fun G H vs k r Q z => by
  cases r with
  | cons h r =>
    cases r; cases h
    obtain ⟨_, kvs, e, rk⟩ := hf G H k
    exact ⟨_, _, rfl, .inl ⟨_, SqL.of e, rk.length.symm⟩, z _ G H (Pu.r ok k) (.int _)⟩
theorem rv_inM {x : Str} {l : List Str} (ok : Cok C) (hf : ∀ G H, C G H → Mu p (tx l) G H) : RV (rIn K false) C (.str x) (.obj p) (.bl (decide (x ∈ l))) := fun G H v w k r1 r2 Q q => by
  cases r2
  obtain ⟨_, vs, e, r⟩ := hf G H k
  refine ⟨_, vs, rfl, .inl (SqL.of e), flat_rep r1 rfl, flatA_rep r (flat_tx l), ?_⟩
  rw [if_neg Bool.false_ne_true, inV_rep r1 rfl r (flat_tx l), any_tx]
  exact q _ G H (Pu.r ok k) (.bl _)
theorem rv_niM {x : Str} {l : List Str} (ok : Cok C) (hf : ∀ G H, C G H → Mu p (tx l) G H) : RV (rIn K true) C (.str x) (.obj p) (.bl (!decide (x ∈ l))) := fun G H v w k r1 r2 Q q => by
  cases r2
  obtain ⟨_, vs, e, r⟩ := hf G H k
  refine ⟨_, vs, rfl, .inl (SqL.of e), flat_rep r1 rfl, flatA_rep r (flat_tx l), ?_⟩
  rw [if_pos rfl, inV_rep r1 rfl r (flat_tx l), any_tx]
  exact q _ G H (Pu.r ok k) (.bl _)
/-- a list that may change, walked -/
theorem ei_mu {xs : List Dt} (ok : Cok C) (h : EvD te C ds (.obj p)) (hf : ∀ G H, C G H → Mu p xs G H) (hS : ¬ S p) : EvI S (iList K te) C ds xs := fun G σ H k s R z => h G σ H k s _ fun v G1 H1 p1 r1 => by
  cases r1
  obtain ⟨n, vs, e, r⟩ := hf G1 H1 (ok.stp k p1)
  refine ⟨p, rfl, ⟨_, SqL.of e⟩, z _ G1 H1 p1 fun i G' H' st => ⟨fun hi => ⟨_, SqL.of (st.hh _ _ hS e), by rw [r.length]; exact hi⟩, fun d hd => ?_⟩⟩
  obtain ⟨v, hv, rv⟩ := r.get hd
  refine ⟨⟨_, v, SqL.of (st.hh _ _ hS e), hv⟩, fun u H'' y => ?_⟩
  obtain ⟨rfl, y⟩ := y
  have e2 := y _ (SqL.of (st.hh _ _ hS e))
  rw [hv] at e2
  cases e2
  exact ⟨G', Stp.refl st.gh, rv.mono st.gg⟩
/-- d[k] = e, the key new -/
theorem run_dputK {x : Str} {xs} (ok : Cok C) (hd : EvD ta C ds (.obj p)) (hk : EvD tb C ds (.str x)) (he : EvD te C ds d) (hf : ∀ G H, C G H → DK p xs G H) (hl : xs.length < Lim) (hn : hasS xs x = false)
    (q : ∀ G σ H, C G H → Slots G σ ds → ∀ H', DK p (xs ++ [(x, d)]) G H' → Stp (fun b => b = p) G H G H' → D.nx σ H') : Run (sDPut ta tb te) C ds D := fun G σ H k s =>
  he G σ H k s _ fun v G1 H1 p1 r1 => hd G1 σ H1 (ok.stp k p1) (s.mono p1.gg) _ fun w G2 H2 p2 r2 => hk G2 σ H2 (ok.stp k (p1.trans p2)) (s.mono (p1.trans p2).gg) _ fun y G3 H3 p3 r3 => by
    cases r2; cases r3
    have p13 := (p1.trans p2).trans p3
    have k3 := ok.stp k p13
    obtain ⟨n, kvs, e, r⟩ := hf G3 H3 k3
    refine ⟨p, _, rfl, DPut.k (k := .inr x) e (by rw [r.length]; exact Nat.lt_of_lt_of_le hl (by rw [sizeLine_eq]; decide)), ?_⟩
    have hv : valV kvs (.inr x) = none := by
      have := r.has x
      rw [hn] at this
      cases z : valV kvs (.inr x) with
      | none => rfl
      | some _ => rw [z] at this; cases this
    refine q G3 σ H3 k3 (s.mono p13.gg) _ ⟨n, _, upd_same, ?_⟩ ((Stp.refl (ok.sub k3)).write (.inl rfl) n)
    rw [putK_new v hv]
    exact r.snoc (r1.mono (p2.trans p3).gg)
theorem run_dputT {x : List Str} {xs} (ok : Cok C) (hd : EvD ta C ds (.obj p)) (hk : EvD tb C ds (.tup (tx x))) (he : EvD te C ds d) (hf : ∀ G H, C G H → DT p xs G H) (hl : xs.length < Lim) (hn : hasT xs x = false)
    (q : ∀ G σ H, C G H → Slots G σ ds → ∀ H', DT p (xs ++ [(x, d)]) G H' → Stp (fun b => b = p) G H G H' → D.nx σ H') : Run (sDPut ta tb te) C ds D := fun G σ H k s =>
  he G σ H k s _ fun v G1 H1 p1 r1 => hd G1 σ H1 (ok.stp k p1) (s.mono p1.gg) _ fun w G2 H2 p2 r2 => hk G2 σ H2 (ok.stp k (p1.trans p2)) (s.mono (p1.trans p2).gg) _ fun y G3 H3 p3 r3 => by
    cases r2
    obtain ⟨b, rfl, eb⟩ := rep_txs r3
    have p13 := (p1.trans p2).trans p3
    have k3 := ok.stp k p13
    obtain ⟨n, kvs, e, r⟩ := hf G3 H3 k3
    refine ⟨p, _, rfl, DPut.t e (p3.gh _ _ eb) (by rw [r.length]; exact Nat.lt_of_lt_of_le hl (by rw [sizeLine_eq]; decide)), ?_⟩
    have hv : valV kvs (x.map Sum.inr) = none := by
      have := r.has x
      rw [hn] at this
      cases z : valV kvs (x.map Sum.inr) with
      | none => rfl
      | some _ => rw [z] at this; cases this
    refine q G3 σ H3 k3 (s.mono p13.gg) _ ⟨n, _, upd_same, ?_⟩ ((Stp.refl (ok.sub k3)).write (.inl rfl) n)
    rw [putK_new v hv]
    exact r.snoc (r1.mono (p2.trans p3).gg)
end
/-- a row of texts, item by item -/
inductive TxL : List Dt → List Str → Prop
  | nil : TxL [] []
  | cons {x : Str} {xs : List Dt} {l : List Str} (h : TxL xs l) : TxL (.str x :: xs) (x :: l)
theorem TxL.of : ∀ l : List Str, TxL (tx l) l
  | [] => .nil
  | _ :: l => .cons (TxL.of l)
theorem TxL.eq : ∀ {xs : List Dt} {l : List Str}, TxL xs l → xs = tx l
  | _, _, .nil => rfl
  | _, _, .cons h => by rw [h.eq]; rfl
theorem rv_inX {C : Hp → Hp → Prop} {K : PySem.W.Frag} {b : Dt} {x : Str} {xs : List Dt} {l : List Str} (ok : Cok C) (h : TxL xs l) (hb : b = .lst xs ∨ b = .tup xs) : RV (rIn K false) C (.str x) b (.bl (decide (x ∈ l))) := rv_inT ok (h.eq ▸ hb)
theorem rv_niX {C : Hp → Hp → Prop} {K : PySem.W.Frag} {b : Dt} {x : Str} {xs : List Dt} {l : List Str} (ok : Cok C) (h : TxL xs l) (hb : b = .lst xs ∨ b = .tup xs) : RV (rIn K true) C (.str x) b (.bl (!decide (x ∈ l))) := rv_niT ok (h.eq ▸ hb)
/-! ## What a hall tells -/
abbrev Pt := Int × Int
structure Told where
  shapes : List (Str × Int) := []
  marks : List (Str × Str × Pt × Pt) := []
  points : List (Str × Str × Pt) := []
  letters : List (Str × Str × Str × List Str) := []
  gaps : List Str := []
  classes : List (Str × List Str) := []
  features : List (Str × Bool) := []
  rules : List (Str × Str × Pts) := []
def ptD (p : Pt) : Dt := .tup [.int p.1, .int p.2]
def ruleD : Str × Str × Pts → Dt
  | (t, f, a, b, c, d) => .tup [.str t, .str f, .tup (tx a), .tup (tx b), .tup (tx c), .tup (tx d)]
namespace Told
variable (t : Told)
def shapesK : List (Str × Dt) := t.shapes.map fun p => (p.1, .int p.2)
def marksK : List (Str × Dt) := t.marks.map fun p => (p.1, .tup [.str p.2.1, ptD p.2.2.1, ptD p.2.2.2])
def pointsK : List (List Str × Dt) := t.points.map fun p => ([p.1, p.2.1], ptD p.2.2)
def lettersK : List (Str × Dt) := t.letters.map fun p => (p.1, .tup [.str p.2.1, .str p.2.2.1, .tup (tx p.2.2.2)])
def classesK : List (Str × Dt) := t.classes.map fun p => (p.1, .tup (tx p.2))
def featuresK : List (Str × Dt) := t.features.map fun p => (p.1, .bl p.2)
def rulesD : List Dt := t.rules.map ruleD
def size : Nat := t.shapes.length + t.marks.length + t.points.length + t.letters.length + t.gaps.length + t.classes.length + t.features.length + t.rules.length
end Told
structure HA where
  x : Addr
  dx : Addr
  ds : Addr
  dm : Addr
  dp : Addr
  dl : Addr
  dg : Addr
  dc : Addr
  df : Addr
  dr : Addr
def HA.list (a : HA) : List Addr := [a.ds, a.dm, a.dp, a.dl, a.dg, a.dc, a.df, a.dr]
def HA.S (a : HA) : Addr → Prop := fun b => b ∈ a.list
def HA.fs (a : HA) : List (Str × V) := [("shapes", .ref a.ds), ("marks", .ref a.dm), ("points", .ref a.dp), ("letters", .ref a.dl), ("gaps", .ref a.dg), ("classes", .ref a.dc), ("features", .ref a.df), ("rules", .ref a.dr)]
/-- the hall at a tells t -/
structure HallAt (cl : Addr) (a : HA) (t : Told) (G H : Hp) : Prop where
  ins : G a.x = some (.ins cl a.dx a.fs)
  nd : a.list.Nodup
  s : DK a.ds t.shapesK G H
  m : DK a.dm t.marksK G H
  p : DT a.dp t.pointsK G H
  l : DK a.dl t.lettersK G H
  g : Mu a.dg (tx t.gaps) G H
  c : DK a.dc t.classesK G H
  f : DK a.df t.featuresK G H
  r : Mu a.dr t.rulesD G H
theorem HallAt.stp {cl : Addr} {a : HA} {t : Told} {S : Addr → Prop} {G H G' H' : Hp} (h : HallAt cl a t G H) (st : Stp S G H G' H') (n : ∀ b ∈ a.list, ¬ S b) : HallAt cl a t G' H' :=
  ⟨st.gg _ _ h.ins, h.nd, h.s.stp st (n _ (by simp [HA.list])), h.m.stp st (n _ (by simp [HA.list])), h.p.stp st (n _ (by simp [HA.list])), h.l.stp st (n _ (by simp [HA.list])), h.g.stp' st (n _ (by simp [HA.list])), h.c.stp st (n _ (by simp [HA.list])), h.f.stp st (n _ (by simp [HA.list])), h.r.stp' st (n _ (by simp [HA.list]))⟩
theorem nd_ne {l : List Addr} (h : l.Nodup) {i j : Nat} (hij : i ≠ j) {x y : Addr} (hx : l[i]? = some x) (hy : l[j]? = some y) : ¬ x = y := by
  rintro rfl
  obtain ⟨li, ei⟩ := List.getElem?_eq_some_iff.mp hx
  obtain ⟨lj, ej⟩ := List.getElem?_eq_some_iff.mp hy
  exact hij ((List.getElem_inj h).mp (ei.trans ej.symm))
section
variable {cl : Addr} {a : HA} {t : Told} {G H H' : Hp}
theorem HallAt.set_shapes (h : HallAt cl a t G H) {xs} (st : Stp (fun b => b = a.ds) G H G H') (k : DK a.ds (Told.shapesK { t with shapes := xs }) G H') : HallAt cl a { t with shapes := xs } G H' :=
  ⟨h.ins, h.nd, k, h.m.stp st (nd_ne h.nd (i := 1) (j := 0) (by decide) rfl rfl), h.p.stp st (nd_ne h.nd (i := 2) (j := 0) (by decide) rfl rfl), h.l.stp st (nd_ne h.nd (i := 3) (j := 0) (by decide) rfl rfl), h.g.stp' st (nd_ne h.nd (i := 4) (j := 0) (by decide) rfl rfl), h.c.stp st (nd_ne h.nd (i := 5) (j := 0) (by decide) rfl rfl), h.f.stp st (nd_ne h.nd (i := 6) (j := 0) (by decide) rfl rfl), h.r.stp' st (nd_ne h.nd (i := 7) (j := 0) (by decide) rfl rfl)⟩
theorem HallAt.set_marks (h : HallAt cl a t G H) {xs} (st : Stp (fun b => b = a.dm) G H G H') (k : DK a.dm (Told.marksK { t with marks := xs }) G H') : HallAt cl a { t with marks := xs } G H' :=
  ⟨h.ins, h.nd, h.s.stp st (nd_ne h.nd (i := 0) (j := 1) (by decide) rfl rfl), k, h.p.stp st (nd_ne h.nd (i := 2) (j := 1) (by decide) rfl rfl), h.l.stp st (nd_ne h.nd (i := 3) (j := 1) (by decide) rfl rfl), h.g.stp' st (nd_ne h.nd (i := 4) (j := 1) (by decide) rfl rfl), h.c.stp st (nd_ne h.nd (i := 5) (j := 1) (by decide) rfl rfl), h.f.stp st (nd_ne h.nd (i := 6) (j := 1) (by decide) rfl rfl), h.r.stp' st (nd_ne h.nd (i := 7) (j := 1) (by decide) rfl rfl)⟩
theorem HallAt.set_points (h : HallAt cl a t G H) {xs} (st : Stp (fun b => b = a.dp) G H G H') (k : DT a.dp (Told.pointsK { t with points := xs }) G H') : HallAt cl a { t with points := xs } G H' :=
  ⟨h.ins, h.nd, h.s.stp st (nd_ne h.nd (i := 0) (j := 2) (by decide) rfl rfl), h.m.stp st (nd_ne h.nd (i := 1) (j := 2) (by decide) rfl rfl), k, h.l.stp st (nd_ne h.nd (i := 3) (j := 2) (by decide) rfl rfl), h.g.stp' st (nd_ne h.nd (i := 4) (j := 2) (by decide) rfl rfl), h.c.stp st (nd_ne h.nd (i := 5) (j := 2) (by decide) rfl rfl), h.f.stp st (nd_ne h.nd (i := 6) (j := 2) (by decide) rfl rfl), h.r.stp' st (nd_ne h.nd (i := 7) (j := 2) (by decide) rfl rfl)⟩
theorem HallAt.set_letters (h : HallAt cl a t G H) {xs} (st : Stp (fun b => b = a.dl) G H G H') (k : DK a.dl (Told.lettersK { t with letters := xs }) G H') : HallAt cl a { t with letters := xs } G H' :=
  ⟨h.ins, h.nd, h.s.stp st (nd_ne h.nd (i := 0) (j := 3) (by decide) rfl rfl), h.m.stp st (nd_ne h.nd (i := 1) (j := 3) (by decide) rfl rfl), h.p.stp st (nd_ne h.nd (i := 2) (j := 3) (by decide) rfl rfl), k, h.g.stp' st (nd_ne h.nd (i := 4) (j := 3) (by decide) rfl rfl), h.c.stp st (nd_ne h.nd (i := 5) (j := 3) (by decide) rfl rfl), h.f.stp st (nd_ne h.nd (i := 6) (j := 3) (by decide) rfl rfl), h.r.stp' st (nd_ne h.nd (i := 7) (j := 3) (by decide) rfl rfl)⟩
theorem HallAt.set_gaps (h : HallAt cl a t G H) {xs} (st : Stp (fun b => b = a.dg) G H G H') (k : Mu a.dg (tx xs) G H') : HallAt cl a { t with gaps := xs } G H' :=
  ⟨h.ins, h.nd, h.s.stp st (nd_ne h.nd (i := 0) (j := 4) (by decide) rfl rfl), h.m.stp st (nd_ne h.nd (i := 1) (j := 4) (by decide) rfl rfl), h.p.stp st (nd_ne h.nd (i := 2) (j := 4) (by decide) rfl rfl), h.l.stp st (nd_ne h.nd (i := 3) (j := 4) (by decide) rfl rfl), k, h.c.stp st (nd_ne h.nd (i := 5) (j := 4) (by decide) rfl rfl), h.f.stp st (nd_ne h.nd (i := 6) (j := 4) (by decide) rfl rfl), h.r.stp' st (nd_ne h.nd (i := 7) (j := 4) (by decide) rfl rfl)⟩
theorem HallAt.set_classes (h : HallAt cl a t G H) {xs} (st : Stp (fun b => b = a.dc) G H G H') (k : DK a.dc (Told.classesK { t with classes := xs }) G H') : HallAt cl a { t with classes := xs } G H' :=
  ⟨h.ins, h.nd, h.s.stp st (nd_ne h.nd (i := 0) (j := 5) (by decide) rfl rfl), h.m.stp st (nd_ne h.nd (i := 1) (j := 5) (by decide) rfl rfl), h.p.stp st (nd_ne h.nd (i := 2) (j := 5) (by decide) rfl rfl), h.l.stp st (nd_ne h.nd (i := 3) (j := 5) (by decide) rfl rfl), h.g.stp' st (nd_ne h.nd (i := 4) (j := 5) (by decide) rfl rfl), k, h.f.stp st (nd_ne h.nd (i := 6) (j := 5) (by decide) rfl rfl), h.r.stp' st (nd_ne h.nd (i := 7) (j := 5) (by decide) rfl rfl)⟩
theorem HallAt.set_features (h : HallAt cl a t G H) {xs} (st : Stp (fun b => b = a.df) G H G H') (k : DK a.df (Told.featuresK { t with features := xs }) G H') : HallAt cl a { t with features := xs } G H' :=
  ⟨h.ins, h.nd, h.s.stp st (nd_ne h.nd (i := 0) (j := 6) (by decide) rfl rfl), h.m.stp st (nd_ne h.nd (i := 1) (j := 6) (by decide) rfl rfl), h.p.stp st (nd_ne h.nd (i := 2) (j := 6) (by decide) rfl rfl), h.l.stp st (nd_ne h.nd (i := 3) (j := 6) (by decide) rfl rfl), h.g.stp' st (nd_ne h.nd (i := 4) (j := 6) (by decide) rfl rfl), h.c.stp st (nd_ne h.nd (i := 5) (j := 6) (by decide) rfl rfl), k, h.r.stp' st (nd_ne h.nd (i := 7) (j := 6) (by decide) rfl rfl)⟩
theorem HallAt.set_rules (h : HallAt cl a t G H) {xs} (st : Stp (fun b => b = a.dr) G H G H') (k : Mu a.dr (Told.rulesD { t with rules := xs }) G H') : HallAt cl a { t with rules := xs } G H' :=
  ⟨h.ins, h.nd, h.s.stp st (nd_ne h.nd (i := 0) (j := 7) (by decide) rfl rfl), h.m.stp st (nd_ne h.nd (i := 1) (j := 7) (by decide) rfl rfl), h.p.stp st (nd_ne h.nd (i := 2) (j := 7) (by decide) rfl rfl), h.l.stp st (nd_ne h.nd (i := 3) (j := 7) (by decide) rfl rfl), h.g.stp' st (nd_ne h.nd (i := 4) (j := 7) (by decide) rfl rfl), h.c.stp st (nd_ne h.nd (i := 5) (j := 7) (by decide) rfl rfl), h.f.stp st (nd_ne h.nd (i := 6) (j := 7) (by decide) rfl rfl), k⟩
end
end Kx

namespace Kx
open PySem L2
/-- the class Hall -/
theorem pe_fldK {X : Cx} {K : PySem.W.Frag} {e : Expr} {f : Str} {pos : Pos} {ta : TE} (hK : X.K = K) (he : PE X e ta) (hb : attributeBase e f X.env (eval e X.env) = eval e X.env) : PE X (.Attribute e f pos) (tFld K ta f) := by
  subst hK
  exact pe_fld he hb
structure HallK (K : PySem.W.Frag) (cl : Addr) : Prop where
  c : Cls K cl
  shapes : NoAttr K cl "shapes"
  marks : NoAttr K cl "marks"
  points : NoAttr K cl "points"
  letters : NoAttr K cl "letters"
  gaps : NoAttr K cl "gaps"
  classes : NoAttr K cl "classes"
  features : NoAttr K cl "features"
  rules : NoAttr K cl "rules"
section
variable {C : Hp → Hp → Prop} {ds : List (Option Dt)} {K : PySem.W.Frag} {ta : TE} {cl : Addr} {a : HA} {t : Told}
theorem hall_s (h : ∀ G H, C G H → HallAt cl a t G H) : ∀ G H, C G H → DK a.ds t.shapesK G H := fun G H k => (h G H k).s
theorem ev_h_shapes (hk : HallK K cl) (ok : Cok C) (h : ∀ G H, C G H → HallAt cl a t G H) (ho : EvD ta C ds (.obj a.x)) : EvD (tFld K ta "shapes") C ds (.obj a.ds) := ev_fld ok ho fun G H k => ⟨cl, a.dx, a.fs, .ref a.ds, ok.sub k _ _ (h G H k).ins, hk.c, hk.shapes, by rfl, .obj _⟩
theorem hall_m (h : ∀ G H, C G H → HallAt cl a t G H) : ∀ G H, C G H → DK a.dm t.marksK G H := fun G H k => (h G H k).m
theorem ev_h_marks (hk : HallK K cl) (ok : Cok C) (h : ∀ G H, C G H → HallAt cl a t G H) (ho : EvD ta C ds (.obj a.x)) : EvD (tFld K ta "marks") C ds (.obj a.dm) := ev_fld ok ho fun G H k => ⟨cl, a.dx, a.fs, .ref a.dm, ok.sub k _ _ (h G H k).ins, hk.c, hk.marks, by rfl, .obj _⟩
theorem hall_p (h : ∀ G H, C G H → HallAt cl a t G H) : ∀ G H, C G H → DT a.dp t.pointsK G H := fun G H k => (h G H k).p
theorem ev_h_points (hk : HallK K cl) (ok : Cok C) (h : ∀ G H, C G H → HallAt cl a t G H) (ho : EvD ta C ds (.obj a.x)) : EvD (tFld K ta "points") C ds (.obj a.dp) := ev_fld ok ho fun G H k => ⟨cl, a.dx, a.fs, .ref a.dp, ok.sub k _ _ (h G H k).ins, hk.c, hk.points, by rfl, .obj _⟩
theorem hall_l (h : ∀ G H, C G H → HallAt cl a t G H) : ∀ G H, C G H → DK a.dl t.lettersK G H := fun G H k => (h G H k).l
theorem ev_h_letters (hk : HallK K cl) (ok : Cok C) (h : ∀ G H, C G H → HallAt cl a t G H) (ho : EvD ta C ds (.obj a.x)) : EvD (tFld K ta "letters") C ds (.obj a.dl) := ev_fld ok ho fun G H k => ⟨cl, a.dx, a.fs, .ref a.dl, ok.sub k _ _ (h G H k).ins, hk.c, hk.letters, by rfl, .obj _⟩
theorem hall_g (h : ∀ G H, C G H → HallAt cl a t G H) : ∀ G H, C G H → Mu a.dg (tx t.gaps) G H := fun G H k => (h G H k).g
theorem ev_h_gaps (hk : HallK K cl) (ok : Cok C) (h : ∀ G H, C G H → HallAt cl a t G H) (ho : EvD ta C ds (.obj a.x)) : EvD (tFld K ta "gaps") C ds (.obj a.dg) := ev_fld ok ho fun G H k => ⟨cl, a.dx, a.fs, .ref a.dg, ok.sub k _ _ (h G H k).ins, hk.c, hk.gaps, by rfl, .obj _⟩
theorem hall_c (h : ∀ G H, C G H → HallAt cl a t G H) : ∀ G H, C G H → DK a.dc t.classesK G H := fun G H k => (h G H k).c
theorem ev_h_classes (hk : HallK K cl) (ok : Cok C) (h : ∀ G H, C G H → HallAt cl a t G H) (ho : EvD ta C ds (.obj a.x)) : EvD (tFld K ta "classes") C ds (.obj a.dc) := ev_fld ok ho fun G H k => ⟨cl, a.dx, a.fs, .ref a.dc, ok.sub k _ _ (h G H k).ins, hk.c, hk.classes, by rfl, .obj _⟩
theorem hall_f (h : ∀ G H, C G H → HallAt cl a t G H) : ∀ G H, C G H → DK a.df t.featuresK G H := fun G H k => (h G H k).f
theorem ev_h_features (hk : HallK K cl) (ok : Cok C) (h : ∀ G H, C G H → HallAt cl a t G H) (ho : EvD ta C ds (.obj a.x)) : EvD (tFld K ta "features") C ds (.obj a.df) := ev_fld ok ho fun G H k => ⟨cl, a.dx, a.fs, .ref a.df, ok.sub k _ _ (h G H k).ins, hk.c, hk.features, by rfl, .obj _⟩
theorem hall_r (h : ∀ G H, C G H → HallAt cl a t G H) : ∀ G H, C G H → Mu a.dr t.rulesD G H := fun G H k => (h G H k).r
theorem ev_h_rules (hk : HallK K cl) (ok : Cok C) (h : ∀ G H, C G H → HallAt cl a t G H) (ho : EvD ta C ds (.obj a.x)) : EvD (tFld K ta "rules") C ds (.obj a.dr) := ev_fld ok ho fun G H k => ⟨cl, a.dx, a.fs, .ref a.dr, ok.sub k _ _ (h G H k).ins, hk.c, hk.rules, by rfl, .obj _⟩
end
/-- within a row's def: only the hall's own containers change -/
def CH (cl : Addr) (a : HA) (t : Told) (S : Addr → Prop) (G0 H0 : Hp) : Hp → Hp → Prop := fun G H => Stp S G0 H0 G H ∧ HallAt cl a t G H
theorem CH.ok {cl : Addr} {a : HA} {t : Told} {S : Addr → Prop} {G0 H0 : Hp} : Cok (CH cl a t S G0 H0) := ⟨fun c => c.1.gh, fun c p => ⟨c.1.trans (Stp.of p), c.2.stp p fun _ _ z => z⟩⟩
theorem CH.hall {cl : Addr} {a : HA} {t : Told} {S : Addr → Prop} {G0 H0 : Hp} : ∀ G H, CH cl a t S G0 H0 G H → HallAt cl a t G H := fun _ _ k => k.2
/-! ### defs by what they leave -/
def SpX (n : Nat) (pre : Hp → Hp → List Dt → (Hp → Hp → Dt → Prop) → Prop) : Sp := fun vs H Q _ => ∃ G as post, Same G H ∧ RepA G vs as ∧ as.length = n ∧ pre G H as post ∧ ∀ v G' H' r, post G' H' r → Rep G' v r → Q v H'
section
variable {P : Program} {w : World} {K : PySem.W.Frag} {mg : Str → Option Value} {base : Heap}
theorem fnokX {x q : Str} {st : Stmt} {f : Addr} {fd : FuncData} {N ps : List Str} {k : Nat} {pre : Hp → Hp → List Dt → (Hp → Hp → Dt → Prop) → Prop} (F : Fun K x q st f fd) (S : FnScope N ps (defScope st))
    (h : ∀ (cdv : Value) (A : Around) (outer : List Env) (s : Shared) (H : Hp) (E : XK), Room k (A.deeper (PyProof.Rows.envOfC q (defScope st) s.heap.objs.size f cdv)) → ∃ t, PSs (cxOf CX0 P w K mg base N q (defScope st) f cdv A outer s H E).nox (defBody st) t ∧
      ∀ (G : Hp) (as : List Dt) (post : Hp → Hp → Dt → Prop) (D : Ends), as.length = ps.length → Same G H → pre G H as post → (∀ v G' H' r, post G' H' r → Rep G' v r → D.rt v H') → (D.nx = fun _ H' => D.rt .non H') → ∀ σ, Slots G σ (slots0 as (N.length - ps.length)) → t D σ H) :
    FnOk P w K mg base CX0 (k + 1) f fd ps (SpX ps.length pre) := by
  refine F.ok S (fun vs H Q E h => ?_) (fun cdv A outer s H vs Q E hr hsp => ?_)
  · obtain ⟨G, as, r, _, ra, hl, _⟩ := h
    rw [ra.length]; exact hl
  · obtain ⟨t, d, hb⟩ := h cdv A outer s H E hr
    obtain ⟨G, as, post, sm, ra, hl, hp, z⟩ := hsp
    refine ⟨t, d, hb G as post _ hl sm hp (fun v G' H' r k r' => z v G' H' r k r') rfl _ ?_⟩
    have e : L2.start N vs = vs.map some ++ List.replicate (N.length - ps.length) none := by
      unfold L2.start; rw [ra.length, hl]
    rw [e]
    exact Slots.args ra _
end
/-- a row's def: the words of a row, over what the hall tells -/
def preRow (cl : Addr) (m : Told → List Str → Str × Told) : Hp → Hp → List Dt → (Hp → Hp → Dt → Prop) → Prop := fun G H as post => ∃ a t ws, as = [.obj a.x, .lst (tx ws)] ∧ HallAt cl a t G H ∧ ws.length ≤ 1000000 ∧ t.size < 1000000 ∧
  post = fun G' H' r => CH cl a (m t ws).2 a.S G H G' H' ∧ r = .str (m t ws).1
abbrev SpRow (cl : Addr) (m : Told → List Str → Str × Told) : Sp := SpX 2 (preRow cl m)
section
variable {C : Hp → Hp → Prop} {ds : List (Option Dt)} {K : PySem.W.Frag} {ta tb : TE} {tl : TA} {t u : TT} {D : Ends}
theorem et_orT (ha : EvT t C ds true) : EvT (tOr t u) C ds true := fun G σ H k s Q z => ha G σ H k s _ fun G1 H1 p1 => by
  rw [if_pos rfl]; exact z G1 H1 p1
theorem et_orF {p : Bool} (ok : Cok C) (ha : EvT t C ds false) (hb : EvT u C ds p) : EvT (tOr t u) C ds p := fun G σ H k s Q z => ha G σ H k s _ fun G1 H1 p1 => by
  rw [if_neg Bool.false_ne_true]; exact hb G1 σ H1 (ok.stp k p1) (s.mono p1.gg) _ fun G2 H2 p2 => z G2 H2 (p1.trans p2)
theorem ev_lacking {ws : List Str} {p : Addr} {xs : List (Str × Dt)} {E : XK} (ok : Cok C) (ha : EvA tl C ds [.lst (tx ws), .obj p]) (hf : ∀ G H, C G H → DK p xs G H) : EvD (tCall spLacking [] E tl) C ds (.bl (ws.any fun x => !hasS xs x)) :=
  ev_call ok ha rfl fun G H k => by
    obtain ⟨_, kvs, e, r⟩ := hf G H k
    refine ⟨ws, p, kvs, rfl, e, ?_⟩
    congr 1
    refine congrArg (List.any ws) (funext fun x => ?_)
    show _ = !(valV kvs (.inr x)).isSome
    rw [r.has x]
end
def itemLacks (t : Told) (x : Str) : Bool := if decide ((tl x).take 1 = [64]) then !hasS t.classesK (rest1 x) else !hasS t.shapesK x
/-! ### the rows -/
theorem dec_le (k n : Nat) : decide ((OfNat.ofNat k : Int) ≤ (n : Int)) = decide (k ≤ n) := decide_eq_decide.mpr (by show ((k : Nat) : Int) ≤ _ ↔ _; omega)
theorem firstDue_nil {a b c : Bool} : firstDue a b c = "" ↔ a = false ∧ b = false ∧ c = false := by
  unfold firstDue
  cases a <;> cases b <;> cases c <;> decide +kernel
/-- what comes of a row whose first due fault is f -/
def fin (t : Told) (f : Str) (t' : Told) : Str × Told := if f = "" then ("", t') else (f, t)
def shapeRow (t : Told) : List Str → Str × Told
  | [n, x] => if isName n && isNum x then fin t (firstDue (hasS t.shapesK n) false (decide (60 ≤ t.shapes.length))) { t with shapes := t.shapes ++ [(n, numV x)] } else ("row", t)
  | _ => ("row", t)
section
variable {P : Program} {w : World} {K : PySem.W.Frag} {mg : Str → Option Value} {base : Heap} {cl : Addr}
local macro_rules | `(tactic| walk_at "ev") => `(tactic| with_reducible first
  | (show EvD _ _ _ _; first
    | exact ev_var (by assumption) rfl
    | exact ev_int (by assumption)
    | exact ev_str (by assumption)
    | exact ev_non (by assumption)
    | exact ev_bl (by assumption)
    | (refine' ev_call (by assumption) ?_ ?_ ?_ <;> (try walk_at "ev"))
    | (refine' ev_op (by assumption) ?_ ?_ ?_ <;> (try walk_at "ev"))
    | (refine' ev_un (by assumption) ?_ rfl <;> (try walk_at "ev"))
    | (refine' ev_andV (by assumption) ?_ (fun _ => ?_) <;> (try walk_at "ev"))
    | (refine' ev_orV (by assumption) ?_ (fun _ => ?_) <;> (try walk_at "ev"))
    | (refine' ev_notV (by assumption) ?_ <;> (try walk_at "ev"))
    | (refine' ev_chain (by assumption) ?_ ?_ ?_ ?_ ?_ <;> (try walk_at "ev"))
    | (refine' ev_cb (by assumption) ?_ ?_ <;> (try walk_at "ev"))
    | (refine' ev_bm (by assumption) ?_ ?_ ?_ <;> (try walk_at "ev"))
    | (refine' ev_m1 (by assumption) ?_ ?_ ?_ <;> (try walk_at "ev"))
    | (refine' ev_sliceS (by assumption) ?_ ?_ ?_ <;> (try walk_at "ev"))
    | (refine' ev_slice (by assumption) ?_ ?_ ?_ <;> (try walk_at "ev"))
    | (refine' ev_tup (by assumption) ?_ ?_ <;> (try walk_at "ev"))
    | (refine' ev_lst (by assumption) ?_ ?_ <;> (try walk_at "ev"))
    | exact ev_h_shapes (by assumption) (by assumption) (by assumption) (ev_var (by assumption) rfl)
    | exact ev_h_marks (by assumption) (by assumption) (by assumption) (ev_var (by assumption) rfl)
    | exact ev_h_points (by assumption) (by assumption) (by assumption) (ev_var (by assumption) rfl)
    | exact ev_h_letters (by assumption) (by assumption) (by assumption) (ev_var (by assumption) rfl)
    | exact ev_h_gaps (by assumption) (by assumption) (by assumption) (ev_var (by assumption) rfl)
    | exact ev_h_classes (by assumption) (by assumption) (by assumption) (ev_var (by assumption) rfl)
    | exact ev_h_features (by assumption) (by assumption) (by assumption) (ev_var (by assumption) rfl)
    | exact ev_h_rules (by assumption) (by assumption) (by assumption) (ev_var (by assumption) rfl)
    | (refine' ev_dinK (by assumption) ?_ ?_ ?_ <;> (try walk_at "ev"))
    | (refine' ev_dniK (by assumption) ?_ ?_ ?_ <;> (try walk_at "ev"))
    | (refine' ev_dinT (by assumption) ?_ ?_ ?_ <;> (try walk_at "ev")))
  | (show EvA _ _ _ _; first
    | exact ea_nil (by assumption)
    | (refine' ea_cons (by assumption) ?_ ?_ <;> (try walk_at "ev")))
  | (show RV _ _ _ _ _; first
    | exact rv_int (by assumption)
    | exact rv_cmp (by assumption)
    | exact rv_eq (by assumption) rfl
    | exact rv_ne (by assumption) rfl
    | exact rv_isN (by assumption) rfl
    | exact rv_notN (by assumption) rfl
    | exact rv_inT (by assumption) (.inl rfl)
    | exact rv_inT (by assumption) (.inr rfl)
    | exact rv_niT (by assumption) (.inl rfl)
    | exact rv_niT (by assumption) (.inr rfl)
    | exact rv_inS (by assumption)
    | exact rv_niS (by assumption)
    | exact rv_ixS (by assumption) (by assumption)
    | exact rv_ixL (by assumption) (by assumption)
    | exact rv_ixT (by assumption) (by assumption)
    | exact rv_ixT (by assumption) rfl
    | exact rv_ixL (by assumption) rfl
    | (refine' rv_inM (by assumption) ?_ <;> (try walk_at "ev"))
    | (refine' rv_niM (by assumption) ?_ <;> (try walk_at "ev"))
    | (refine' rv_inX (by assumption) ?_ (.inl rfl) <;> (try walk_at "ev"))
    | (refine' rv_inX (by assumption) ?_ (.inr rfl) <;> (try walk_at "ev"))
    | (refine' rv_niX (by assumption) ?_ (.inl rfl) <;> (try walk_at "ev"))
    | (refine' rv_niX (by assumption) ?_ (.inr rfl) <;> (try walk_at "ev"))
    | exact rv_in (neg := false) (by assumption) rfl rfl (.inr rfl)
    | exact rv_in (neg := true) (by assumption) rfl rfl (.inr rfl)
    | exact rv_intC (g := fun i j => i % j) (by assumption) (by decide)
    | exact rv_intC (g := fun i j => i / j) (by assumption) (cdiv_ok (by decide)))
  | (show EvT _ _ _ _; first
    | exact et_yes (by assumption)
    | (refine' et_and (by assumption) ?_ (fun _ => ?_) <;> (try walk_at "ev"))
    | (refine' et_or (by assumption) ?_ (fun _ => ?_) <;> (try walk_at "ev"))
    | (refine' et_not ?_ <;> (try walk_at "ev"))
    | (refine' et_test ?_ <;> (try walk_at "ev"))
    | (refine' et_B ?_ <;> (try walk_at "ev")))
  | (show RC _ _ _ _; first
    | exact rc_lenL (by assumption)
    | exact rc_lenT (by assumption)
    | exact rc_lenS (by assumption)
    | exact rc_all (by assumption)
    | exact rc_intB (by assumption)
    | exact rc_strS (by assumption)
    | exact rc_listOf (by assumption) (.inl rfl)
    | exact rc_listOf (by assumption) (.inr rfl)
    | exact rc_tupOf (by assumption)
    | (refine' rc_lenD (by assumption) ?_ <;> (try walk_at "ev"))
    | (refine' rc_lenM (by assumption) ?_ <;> (try walk_at "ev")))
  | (show RM _ _ _ _ _; first
    | exact rm_strip' (by assumption))
  | (show EvO _ _ _ _; first
    | exact eo_none (by assumption)
    | (refine' eo_some ?_ <;> (try walk_at "ev")))
  | (show List.length _ ≤ Lim; with_unfolding_all exact Nat.le_of_ble_eq_true rfl)
  | (show List.length _ = _; with_unfolding_all rfl)
  | exact (fun _ _ _ => ⟨_, rfl, rfl⟩)
  | exact (fun _ _ _ => ⟨_, _, rfl, rfl⟩)
  | exact (fun _ _ _ => ⟨_, _, _, rfl, rfl⟩)
  | exact (fun _ _ _ => ⟨_, rfl, by assumption, rfl⟩)
  | exact hall_s (by assumption)
  | exact hall_m (by assumption)
  | exact hall_p (by assumption)
  | exact hall_l (by assumption)
  | exact hall_g (by assumption)
  | exact hall_c (by assumption)
  | exact hall_f (by assumption)
  | exact hall_r (by assumption)
  | exact TxL.of _
  | exact TxL.nil
  | (refine' TxL.cons ?_ <;> (try walk_at "ev")))


abbrev s_item_lacks : Stmt := top 31
abbrev N_item_lacks : List Str := ["hall", "item"]
abbrev P_item_lacks : List Str := ["hall", "item"]
theorem sc_item_lacks : FnScope N_item_lacks P_item_lacks (defScope s_item_lacks) := ⟨rfl, rfl, rfl, by decide +kernel, rfl, by decide +kernel, by decide +kernel⟩

abbrev spItemLacks (cl : Addr) : Sp := SpF 2 fun G H as r => ∃ a t x, as = [.obj a.x, .str x] ∧ HallAt cl a t G H ∧ tl x ≠ [] ∧ r = .bl (itemLacks t x)
theorem cal_item_lacks (HK : HallK K cl) (D : Dfn K mg "item_lacks" s_item_lacks) : Cal P w K mg base "item_lacks" 1 P_item_lacks (spItemLacks cl) := by
  have sc := sc_item_lacks
  refine cal_of D (fun f fd F => fnok F sc fun cdv A outer s H E hr => have hr1 := hr; ⟨_, (pss_cons (ps_if (pt_cmpR op_eq (pe_ix ix_str (pv 1) pe_int (fun _ _ => rfl)) pe_str (nomark _)) (pss_one (ps_ret (pe_cmp (pc_dnotin (hu_of hr) (pe_slice (r := rSlS) sl_str (pv 1) (po_some pe_int) po_none) (pe_fldK (K := K) rfl (pv 0) rfl))))) pss_nil)
      (pss_one (ps_ret (pe_cmp (pc_dnotin (hu_of hr) (pv 1) (pe_fldK (K := K) rfl (pv 0) rfl)))))), fun G as r D hl sm hp hq hx => ?_⟩) (fun _ _ _ _ _ _ us hl => match us, hl with | [_, _], _ => rfl)
  obtain ⟨a, t, x, rfl, ha, hne, rfl⟩ := hp
  have ok : Cok (Bs No G H) := Bs.ok
  have hh : ∀ G1 H1, Bs No G H G1 H1 → HallAt cl a t G1 H1 := fun G1 H1 k => ha.stp k fun _ _ z => z
  cases hx0 : tl x with
  | nil => exact absurd hx0 hne
  | cons c rest =>
    have h0 : atI x.cps.toList (0 : Int) = some c := at0 hx0
    have eN : decide ((⟨#[c]⟩ : Str) = "@") = decide ((tl x).take 1 = [64]) := by
      refine decide_eq_decide.mpr ?_
      rw [← tl_inj, hx0]
      show [c] = [64] ↔ [c] = [64]
      exact Iff.rfl
    refine run_when ok (by walk_at "ev") (fun e => ?_) (fun e => ?_) <;> rw [eN] at e
    · refine run_ret ok (by walk_at "ev") ?_ hq
      unfold itemLacks rest1; rw [e]; rfl
    · refine run_ret ok (by walk_at "ev") ?_ hq
      unfold itemLacks; rw [e]; rfl

abbrev s_shape_row : Stmt := top 21
abbrev N_shape_row : List Str := ["hall", "words", "fault"]
abbrev P_shape_row : List Str := ["hall", "words"]
theorem sc_shape_row : FnScope N_shape_row P_shape_row (defScope s_shape_row) := ⟨rfl, rfl, rfl, by decide +kernel, rfl, by decide +kernel, by decide +kernel⟩

theorem cal_shape_row (B : Blt mg) (HK : HallK K cl) (D : Dfn K mg "shape_row" s_shape_row) (C_is_name : Cal P w K mg base "is_name" 1 P_is_name spIsName) (C_number_of : Cal P w K mg base "number_of" 1 P_number_of spNumberOf) (C_first_due : Cal P w K mg base "first_due" 1 P_first_due spFirstDue) :
    Cal P w K mg base "shape_row" 2 P_shape_row (SpRow cl shapeRow) := by
  have sc := sc_shape_row
  refine cal_of D (fun f fd F => fnokX F sc fun cdv A outer s H E hr => have hr1 := hr; ⟨_, (pss_cons (ps_if (PW.pt (pw_or (pt_cmpR op_ne (pe_callB (r := rLen K) call_lenK (by rfl) B.len_ (by decide +kernel) (pa_cons (pv 1) pa_nil)) pe_int (nomark _)) (pw_or (pt_not (pt_val (pe_callC C_is_name hr1 rfl (pa_cons (pe_ix (r := rIxL K) ix_list (pv 1) pe_int (fun _ _ => rfl)) pa_nil)))) (pw_or1 (pt_cmpR op_isN1 (pe_callC C_number_of hr1 rfl (pa_cons (pe_ix (r := rIxL K) ix_list (pv 1) pe_int (fun _ _ => rfl)) pa_nil)) pe_non (nomark _)))))) (pss_one (ps_ret pe_str)) pss_nil)
      (pss_cons (ps_set (i := 2) sc.nd rfl (Or.inl rfl) (pe_callC C_first_due hr1 rfl (pa_cons (pe_cmp (pc_din (hu_of hr) (pe_ix (r := rIxL K) ix_list (pv 1) pe_int (fun _ _ => rfl)) (pe_fldK (K := K) rfl (pv 0) rfl))) (pa_cons pe_bl (pa_cons (pe_cmpR op_ge (pe_callB (r := rLenD) call_lenDK (by rfl) B.len_ (by decide +kernel) (pa_cons (pe_fldK (K := K) rfl (pv 0) rfl) pa_nil)) pe_int (nomark _)) pa_nil)))))
      (pss_cons (ps_if (pt_cmpR op_eq (pv 2) pe_str (nomark _)) (pss_one (ps_dput (hu_of hr) (pe_fldK (K := K) rfl (pv 0) rfl) (pe_ix (r := rIxL K) ix_list (pv 1) pe_int (fun _ _ => rfl)) (pe_callC C_number_of hr1 rfl (pa_cons (pe_ix (r := rIxL K) ix_list (pv 1) pe_int (fun _ _ => rfl)) pa_nil)) rfl)) pss_nil)
      (pss_one (ps_ret (pv 2)))))), fun G as post D hl sm hp hq hx => ?_⟩) (fun _ _ _ _ _ _ us hl => match us, hl with | [_, _], _ => rfl)
  obtain ⟨a, t, ws, rfl, ha, hw, hz, rfl⟩ := hp
  have ok : Cok (CH cl a t a.S G H) := CH.ok
  have hh : ∀ G1 H1, CH cl a t a.S G H G1 H1 → HallAt cl a t G1 H1 := CH.hall
  refine fun σ sl => (?_ : Run _ (CH cl a t a.S G H) _ D) G σ H ⟨Stp.refl sm, ha⟩ sl
  have rt : ∀ f, shapeRow t ws = (f, t) → Rt D (CH cl a t a.S G H) (.str f) := fun f e v G1 H1 k r => hq v G1 H1 _ ⟨by rw [e]; exact k, by rw [e]⟩ r
  by_cases h2 : ws.length = 2
  · obtain ⟨n, x, rfl⟩ := len2 h2
    have h0 : atI (tx [n, x]) 0 = some (.str n) := rfl
    have h1 : atI (tx [n, x]) 1 = some (.str x) := rfl
    have e0 : shapeRow t [n, x] = if isName n && isNum x then fin t (firstDue (hasS t.shapesK n) false (decide (60 ≤ t.shapes.length))) { t with shapes := t.shapes ++ [(n, numV x)] } else ("row", t) := rfl
    cases hb : isName n && isNum x with
    | false =>
      rw [hb, if_neg Bool.false_ne_true] at e0
      refine run_when (b := true) ok (EvT.is (by walk_at "ev") ?_) (fun _ => run_ret ok (ev_str ok) rfl (rt _ e0)) (fun e => by cases e)
      unfold numOf; cases h1 : isName n <;> cases h2 : isNum x <;> simp_all [optI]
    | true =>
      rw [hb, if_pos rfl] at e0
      obtain ⟨hb1, hb2⟩ := (Bool.and_eq_true _ _).mp hb
      have hnum : optI (numOf x) = .int (numV x) := by unfold numOf; rw [if_pos hb2]; rfl
      refine run_when (b := false) ok (EvT.is (by walk_at "ev") ?_) (fun e => by cases e) (fun _ => ?_)
      · rw [hb1, hnum]; rfl
      generalize hf : firstDue (hasS t.shapesK n) false (decide (60 ≤ t.shapes.length)) = f at e0
      refine run_set (d := .str f) ok (EvD.is (by walk_at "ev") ?_) ?_
      · rw [← hf, dec_le 60, Told.shapesK, List.length_map]
      refine run_seq (run_if ok (by walk_at "ev") (fun e => ?_) (fun e => ?_))
      · have e1 : f = "" := of_decide_eq_true e
        subst e1
        obtain ⟨g1, _, _⟩ := firstDue_nil.mp hf
        refine run_dputK ok (by walk_at "ev") (by walk_at "ev") (d := .int (numV x)) (EvD.is (by walk_at "ev") hnum) (hall_s hh) (by simp only [Told.size, Told.shapesK, List.length_map] at *; show _ < 16000000; omega) g1 ?_
        intro G1 σ1 H1 k1 s1 H2 kd st
        exact (run_ret CH.ok (ev_var CH.ok rfl) rfl (fun v G3 H3 k3 r3 => hq v G3 H3 _ ⟨by rw [e0]; exact k3, by rw [e0]; rfl⟩ r3) : Run _ (CH cl a { t with shapes := t.shapes ++ [(n, numV x)] } a.S G H) _ D) G1 σ1 H2 ⟨k1.1.trans (st.mono fun b hb => hb ▸ by simp [HA.S, HA.list]), k1.2.set_shapes st (by simpa [Told.shapesK] using kd)⟩ s1
      · have e1 : f ≠ "" := of_decide_eq_false e
        unfold fin at e0
        rw [if_neg e1] at e0
        exact run_ret ok (ev_var ok rfl) rfl (rt _ e0)
  · have e2 : shapeRow t ws = (("row" : Str), t) := by
      unfold shapeRow; split
      · exact absurd rfl h2
      · rfl
    refine run_when (b := true) ok (et_orT (EvT.is (by walk_at "ev") (by simp; omega))) (fun _ => run_ret ok (ev_str ok) rfl (rt _ e2)) (fun e => by cases e)
end
end Kx

namespace Kx
open PySem L2
theorem ev_drop {C : Hp → Hp → Prop} {ds : List (Option Dt)} {K : PySem.W.Frag} {te : TE} {ws : List Str} (k : Nat) (ok : Cok C) (h : EvD te C ds (.lst (tx ws))) : EvD (tSl (rSlL K) te (tPart (tC (.int (k : Nat)))) tNoPart) C ds (.lst (tx (ws.drop k))) := by
  have := ev_slice (K := K) ok h (eo_some (ev_int (i := (k : Nat)) ok)) (eo_none ok)
  rwa [cutD_R, tx_drop] at this
theorem ev_upto {C : Hp → Hp → Prop} {ds : List (Option Dt)} {K : PySem.W.Frag} {te : TE} {ws : List Str} (k : Nat) (ok : Cok C) (h : EvD te C ds (.lst (tx ws))) : EvD (tSl (rSlL K) te tNoPart (tPart (tC (.int (k : Nat))))) C ds (.lst (tx (ws.take k))) := by
  have := ev_slice (K := K) ok h (eo_none ok) (eo_some (ev_int (i := (k : Nat)) ok))
  rwa [cutD_L, tx_take] at this
theorem len6 {α : Type} {l : List α} (h : l.length = 6) : ∃ a b c d e f, l = [a, b, c, d, e, f] := by
  match l, h with
  | [a, b, c, d, e, f], _ => exact ⟨a, b, c, d, e, f, rfl⟩
abbrev isSide (s : Str) : Bool := decide (s ∈ (["above", "below"] : List Str))
def markRow (t : Told) : List Str → Str × Told
  | [n, s, a, b, c, d] => if (isName n && isSide s) && [a, b, c, d].all isSigned then fin t (firstDue (hasS t.marksK n) (!hasS t.shapesK n) false) { t with marks := t.marks ++ [(n, s, (sgnV a, sgnV b), (sgnV c, sgnV d))] } else ("row", t)
  | _ => ("row", t)
def pointRow (t : Told) : List Str → Str × Told
  | [n, s, a, b] => if (isName n && isSide s) && [a, b].all isSigned then fin t (firstDue (hasT t.pointsK [n, s]) (!hasS t.shapesK n) false) { t with points := t.points ++ [(n, s, (sgnV a, sgnV b))] } else ("row", t)
  | _ => ("row", t)
section
variable {P : Program} {w : World} {K : PySem.W.Frag} {mg : Str → Option Value} {base : Heap} {cl : Addr}
local macro_rules | `(tactic| walk_at "ev") => `(tactic| with_reducible first
  | (show EvD _ _ _ _; first
    | exact ev_var (by assumption) rfl
    | exact ev_int (by assumption)
    | exact ev_str (by assumption)
    | exact ev_non (by assumption)
    | exact ev_bl (by assumption)
    | (refine' ev_call (by assumption) ?_ ?_ ?_ <;> (try walk_at "ev"))
    | (refine' ev_op (by assumption) ?_ ?_ ?_ <;> (try walk_at "ev"))
    | (refine' ev_un (by assumption) ?_ rfl <;> (try walk_at "ev"))
    | (refine' ev_andV (by assumption) ?_ (fun _ => ?_) <;> (try walk_at "ev"))
    | (refine' ev_orV (by assumption) ?_ (fun _ => ?_) <;> (try walk_at "ev"))
    | (refine' ev_notV (by assumption) ?_ <;> (try walk_at "ev"))
    | (refine' ev_chain (by assumption) ?_ ?_ ?_ ?_ ?_ <;> (try walk_at "ev"))
    | (refine' ev_cb (by assumption) ?_ ?_ <;> (try walk_at "ev"))
    | (refine' ev_bm (by assumption) ?_ ?_ ?_ <;> (try walk_at "ev"))
    | (refine' ev_m1 (by assumption) ?_ ?_ ?_ <;> (try walk_at "ev"))
    | (refine' ev_sliceS (by assumption) ?_ ?_ ?_ <;> (try walk_at "ev"))
    | (refine' ev_slice (by assumption) ?_ ?_ ?_ <;> (try walk_at "ev"))
    | (refine' ev_tup (by assumption) ?_ ?_ <;> (try walk_at "ev"))
    | (refine' ev_lst (by assumption) ?_ ?_ <;> (try walk_at "ev"))
    | exact ev_h_shapes (by assumption) (by assumption) (by assumption) (ev_var (by assumption) rfl)
    | exact ev_h_marks (by assumption) (by assumption) (by assumption) (ev_var (by assumption) rfl)
    | exact ev_h_points (by assumption) (by assumption) (by assumption) (ev_var (by assumption) rfl)
    | exact ev_h_letters (by assumption) (by assumption) (by assumption) (ev_var (by assumption) rfl)
    | exact ev_h_gaps (by assumption) (by assumption) (by assumption) (ev_var (by assumption) rfl)
    | exact ev_h_classes (by assumption) (by assumption) (by assumption) (ev_var (by assumption) rfl)
    | exact ev_h_features (by assumption) (by assumption) (by assumption) (ev_var (by assumption) rfl)
    | exact ev_h_rules (by assumption) (by assumption) (by assumption) (ev_var (by assumption) rfl)
    | (refine' ev_dinK (by assumption) ?_ ?_ ?_ <;> (try walk_at "ev"))
    | (refine' ev_dniK (by assumption) ?_ ?_ ?_ <;> (try walk_at "ev"))
    | (refine' ev_dinT (by assumption) ?_ ?_ ?_ <;> (try walk_at "ev")))
  | (show EvA _ _ _ _; first
    | exact ea_nil (by assumption)
    | (refine' ea_cons (by assumption) ?_ ?_ <;> (try walk_at "ev")))
  | (show RV _ _ _ _ _; first
    | exact rv_int (by assumption)
    | exact rv_cmp (by assumption)
    | exact rv_eq (by assumption) rfl
    | exact rv_ne (by assumption) rfl
    | exact rv_isN (by assumption) rfl
    | exact rv_notN (by assumption) rfl
    | exact rv_inT (by assumption) (.inl rfl)
    | exact rv_inT (by assumption) (.inr rfl)
    | exact rv_niT (by assumption) (.inl rfl)
    | exact rv_niT (by assumption) (.inr rfl)
    | exact rv_inS (by assumption)
    | exact rv_niS (by assumption)
    | exact rv_ixS (by assumption) (by assumption)
    | exact rv_ixL (by assumption) (by assumption)
    | exact rv_ixT (by assumption) (by assumption)
    | exact rv_ixT (by assumption) rfl
    | exact rv_ixL (by assumption) rfl
    | (refine' rv_inM (by assumption) ?_ <;> (try walk_at "ev"))
    | (refine' rv_niM (by assumption) ?_ <;> (try walk_at "ev"))
    | (refine' rv_inX (by assumption) ?_ (.inl rfl) <;> (try walk_at "ev"))
    | (refine' rv_inX (by assumption) ?_ (.inr rfl) <;> (try walk_at "ev"))
    | (refine' rv_niX (by assumption) ?_ (.inl rfl) <;> (try walk_at "ev"))
    | (refine' rv_niX (by assumption) ?_ (.inr rfl) <;> (try walk_at "ev"))
    | exact rv_in (neg := false) (by assumption) rfl rfl (.inr rfl)
    | exact rv_in (neg := true) (by assumption) rfl rfl (.inr rfl)
    | exact rv_intC (g := fun i j => i % j) (by assumption) (by decide)
    | exact rv_intC (g := fun i j => i / j) (by assumption) (cdiv_ok (by decide)))
  | (show EvT _ _ _ _; first
    | exact et_yes (by assumption)
    | (refine' et_and (by assumption) ?_ (fun _ => ?_) <;> (try walk_at "ev"))
    | (refine' et_or (by assumption) ?_ (fun _ => ?_) <;> (try walk_at "ev"))
    | (refine' et_not ?_ <;> (try walk_at "ev"))
    | (refine' et_test ?_ <;> (try walk_at "ev"))
    | (refine' et_B ?_ <;> (try walk_at "ev")))
  | (show RC _ _ _ _; first
    | exact rc_lenL (by assumption)
    | exact rc_lenT (by assumption)
    | exact rc_lenS (by assumption)
    | exact rc_all (by assumption)
    | exact rc_intB (by assumption)
    | exact rc_strS (by assumption)
    | exact rc_listOf (by assumption) (.inl rfl)
    | exact rc_listOf (by assumption) (.inr rfl)
    | exact rc_tupOf (by assumption)
    | (refine' rc_lenD (by assumption) ?_ <;> (try walk_at "ev"))
    | (refine' rc_lenM (by assumption) ?_ <;> (try walk_at "ev")))
  | (show RM _ _ _ _ _; first
    | exact rm_strip' (by assumption))
  | (show EvO _ _ _ _; first
    | exact eo_none (by assumption)
    | (refine' eo_some ?_ <;> (try walk_at "ev")))
  | (show List.length _ ≤ Lim; with_unfolding_all exact Nat.le_of_ble_eq_true rfl)
  | (show List.length _ = _; with_unfolding_all rfl)
  | exact (fun _ _ _ => ⟨_, rfl, rfl⟩)
  | exact (fun _ _ _ => ⟨_, _, rfl, rfl⟩)
  | exact (fun _ _ _ => ⟨_, _, _, rfl, rfl⟩)
  | exact (fun _ _ _ => ⟨_, rfl, by assumption, rfl⟩)
  | exact hall_s (by assumption)
  | exact hall_m (by assumption)
  | exact hall_p (by assumption)
  | exact hall_l (by assumption)
  | exact hall_g (by assumption)
  | exact hall_c (by assumption)
  | exact hall_f (by assumption)
  | exact hall_r (by assumption)
  | exact TxL.of _
  | exact TxL.nil
  | (refine' TxL.cons ?_ <;> (try walk_at "ev")))


abbrev s_mark_row : Stmt := top 22
abbrev N_mark_row : List Str := ["hall", "words", "spots", "fault"]
abbrev P_mark_row : List Str := ["hall", "words"]
theorem sc_mark_row : FnScope N_mark_row P_mark_row (defScope s_mark_row) := ⟨rfl, rfl, rfl, by decide +kernel, rfl, by decide +kernel, by decide +kernel⟩

theorem cal_mark_row (B : Blt mg) (HK : HallK K cl) (D : Dfn K mg "mark_row" s_mark_row) (C_is_name : Cal P w K mg base "is_name" 1 P_is_name spIsName) (C_spots_of : Cal P w K mg base "spots_of" 3 P_spots_of spSpotsOf) (C_first_due : Cal P w K mg base "first_due" 1 P_first_due spFirstDue) :
    Cal P w K mg base "mark_row" 4 P_mark_row (SpRow cl markRow) := by
  have sc := sc_mark_row
  replace C_is_name := C_is_name.mono (k := 3) (by decide)
  replace C_first_due := C_first_due.mono (k := 3) (by decide)
  refine cal_of D (fun f fd F => fnokX F sc fun cdv A outer s H E hr => have hr1 := hr; ⟨_, (pss_cons (ps_if (PW.pt (pw_or (pt_cmpR op_ne (pe_callB (r := rLen K) call_lenK (by rfl) B.len_ (by decide +kernel) (pa_cons (pv 1) pa_nil)) pe_int (nomark _)) (pw_or (pt_not (pt_val (pe_callC C_is_name hr1 rfl (pa_cons (pe_ix (r := rIxL K) ix_list (pv 1) pe_int (fun _ _ => rfl)) pa_nil)))) (pw_or1 (pt_cmpR (r := rIn K true) op_notIn_seq (pe_ix (r := rIxL K) ix_list (pv 1) pe_int (fun _ _ => rfl)) (pe_tup (pa_cons pe_str (pa_cons pe_str pa_nil))) rfl))))) (pss_one (ps_ret pe_str)) pss_nil)
      (pss_cons (ps_set (i := 2) sc.nd rfl (Or.inl rfl) (pe_callC C_spots_of hr1 rfl (pa_cons (pe_slice (r := rSlL K) sl_list (pv 1) (po_some pe_int) po_none) pa_nil)))
      (pss_cons (ps_if (pt_cmpR op_isN1 (pv 2) pe_non (nomark _)) (pss_one (ps_ret pe_str)) pss_nil)
      (pss_cons (ps_set (i := 3) sc.nd rfl (Or.inl rfl) (pe_callC C_first_due hr1 rfl (pa_cons (pe_cmp (pc_din (hu_of hr) (pe_ix (r := rIxL K) ix_list (pv 1) pe_int (fun _ _ => rfl)) (pe_fldK (K := K) rfl (pv 0) rfl))) (pa_cons (pe_cmp (pc_dnotin (hu_of hr) (pe_ix (r := rIxL K) ix_list (pv 1) pe_int (fun _ _ => rfl)) (pe_fldK (K := K) rfl (pv 0) rfl))) (pa_cons pe_bl pa_nil)))))
      (pss_cons (ps_if (pt_cmpR op_eq (pv 3) pe_str (nomark _)) (pss_one (ps_dput (hu_of hr) (pe_fldK (K := K) rfl (pv 0) rfl) (pe_ix (r := rIxL K) ix_list (pv 1) pe_int (fun _ _ => rfl)) (pe_tup (pa_cons (pe_ix (r := rIxL K) ix_list (pv 1) pe_int (fun _ _ => rfl)) (pa_cons (pe_ix (r := rIxL K) ix_list (pv 2) pe_int (fun _ _ => rfl)) (pa_cons (pe_ix (r := rIxL K) ix_list (pv 2) pe_int (fun _ _ => rfl)) pa_nil)))) rfl)) pss_nil)
      (pss_one (ps_ret (pv 3)))))))), fun G as post D hl sm hp hq hx => ?_⟩) (fun _ _ _ _ _ _ us hl => match us, hl with | [_, _], _ => rfl)
  obtain ⟨a', t, ws, rfl, ha, hw, hz, rfl⟩ := hp
  have ok : Cok (CH cl a' t a'.S G H) := CH.ok
  have hh : ∀ G1 H1, CH cl a' t a'.S G H G1 H1 → HallAt cl a' t G1 H1 := CH.hall
  refine fun σ sl => (?_ : Run _ (CH cl a' t a'.S G H) _ D) G σ H ⟨Stp.refl sm, ha⟩ sl
  have rt : ∀ f, markRow t ws = (f, t) → Rt D (CH cl a' t a'.S G H) (.str f) := fun f e v G1 H1 k r => hq v G1 H1 _ ⟨by rw [e]; exact k, by rw [e]⟩ r
  by_cases h2 : ws.length = 6
  · obtain ⟨n, s, a, b, c, d, rfl⟩ := len6 h2
    have h0 : atI (tx [n, s, a, b, c, d]) 0 = some (.str n) := rfl
    have h1 : atI (tx [n, s, a, b, c, d]) 1 = some (.str s) := rfl
    have e0 : markRow t [n, s, a, b, c, d] = if (isName n && isSide s) && [a, b, c, d].all isSigned then fin t (firstDue (hasS t.marksK n) (!hasS t.shapesK n) false) { t with marks := t.marks ++ [(n, s, (sgnV a, sgnV b), (sgnV c, sgnV d))] } else ("row", t) := rfl
    cases hb : isName n && isSide s with
    | false =>
      rw [hb, Bool.false_and, if_neg Bool.false_ne_true] at e0
      refine run_when (b := true) ok (EvT.is (by walk_at "ev") ?_) (fun _ => run_ret ok (ev_str ok) rfl (rt _ e0)) (fun e => by cases e)
      unfold isSide at hb
      cases h1 : isName n <;> simp_all [tx]
    | true =>
      rw [hb, Bool.true_and] at e0
      obtain ⟨hb1, hb2⟩ := (Bool.and_eq_true _ _).mp hb
      refine run_when (b := false) ok (EvT.is (by walk_at "ev") ?_) (fun e => by cases e) (fun _ => ?_)
      · unfold isSide at hb2
        rw [hb1, hb2]; rfl
      refine run_set (d := spotsOf [a, b, c, d]) ok (ev_call ok (ea_cons ok (ev_drop 2 ok (by walk_at "ev")) (ea_nil ok)) rfl (fun _ _ _ => ⟨[a, b, c, d], rfl, .inr rfl, rfl⟩)) ?_
      cases hb3 : [a, b, c, d].all isSigned with
      | false =>
        rw [hb3, if_neg Bool.false_ne_true] at e0
        rw [show spotsOf [a, b, c, d] = .non by unfold spotsOf; rw [hb3]; rfl]
        exact run_when (b := true) ok (EvT.is (by walk_at "ev") rfl) (fun _ => run_ret ok (ev_str ok) rfl (rt _ e0)) (fun e => by cases e)
      | true =>
      rw [hb3, if_pos rfl] at e0
      rw [show spotsOf [a, b, c, d] = .lst (pairs ([a, b, c, d].map sgnV)) by unfold spotsOf; rw [hb3]; rfl]
      have p0 : atI (pairs ([a, b, c, d].map sgnV)) 0 = some (ptD (sgnV a, sgnV b)) := rfl
      have p1 : atI (pairs ([a, b, c, d].map sgnV)) 1 = some (ptD (sgnV c, sgnV d)) := rfl
      refine run_when (b := false) ok (EvT.is (by walk_at "ev") rfl) (fun e => by cases e) (fun _ => ?_)
      generalize hf : firstDue (hasS t.marksK n) (!hasS t.shapesK n) false = f at e0
      refine run_set (d := .str f) ok (EvD.is (by walk_at "ev") (by rw [← hf])) ?_
      refine run_seq (run_if ok (by walk_at "ev") (fun e => ?_) (fun e => ?_))
      · have e1 : f = "" := of_decide_eq_true e
        subst e1
        obtain ⟨g1, g2, g3⟩ := firstDue_nil.mp hf
        refine run_dputK ok (by walk_at "ev") (by walk_at "ev") (d := .tup [.str s, ptD (sgnV a, sgnV b), ptD (sgnV c, sgnV d)]) (by walk_at "ev") (hall_m hh) (by simp only [Told.size, Told.marksK, Told.pointsK, Told.lettersK, Told.classesK, Told.featuresK, Told.rulesD, tx, List.length_map] at *; show _ < 16000000; omega) g1 ?_
        intro G1 σ1 H1 k1 s1 H2 kd st
        exact (run_ret CH.ok (ev_var CH.ok rfl) rfl (fun v G3 H3 k3 r3 => hq v G3 H3 _ ⟨by rw [e0]; exact k3, by rw [e0]; rfl⟩ r3) : Run _ (CH cl a' { t with marks := t.marks ++ [(n, s, (sgnV a, sgnV b), (sgnV c, sgnV d))] } a'.S G H) _ D) G1 σ1 H2 ⟨k1.1.trans (st.mono fun b hb => hb ▸ by simp [HA.S, HA.list]), k1.2.set_marks st (by first | exact kd | simpa [Told.marksK, Told.pointsK, Told.lettersK, Told.classesK, Told.featuresK, Told.rulesD, tx] using kd)⟩ s1
      · have e1 : f ≠ "" := of_decide_eq_false e
        unfold fin at e0
        rw [if_neg e1] at e0
        exact run_ret ok (ev_var ok rfl) rfl (rt _ e0)
  · have e2 : markRow t ws = (("row" : Str), t) := by
      unfold markRow; split
      · exact absurd rfl h2
      · rfl
    refine run_when (b := true) ok (et_orT (EvT.is (by walk_at "ev") (by simp; omega))) (fun _ => run_ret ok (ev_str ok) rfl (rt _ e2)) (fun e => by cases e)

abbrev s_point_row : Stmt := top 23
abbrev N_point_row : List Str := ["hall", "words", "spots", "fault"]
abbrev P_point_row : List Str := ["hall", "words"]
theorem sc_point_row : FnScope N_point_row P_point_row (defScope s_point_row) := ⟨rfl, rfl, rfl, by decide +kernel, rfl, by decide +kernel, by decide +kernel⟩

theorem cal_point_row (B : Blt mg) (HK : HallK K cl) (D : Dfn K mg "point_row" s_point_row) (C_is_name : Cal P w K mg base "is_name" 1 P_is_name spIsName) (C_spots_of : Cal P w K mg base "spots_of" 3 P_spots_of spSpotsOf) (C_first_due : Cal P w K mg base "first_due" 1 P_first_due spFirstDue) :
    Cal P w K mg base "point_row" 4 P_point_row (SpRow cl pointRow) := by
  have sc := sc_point_row
  replace C_is_name := C_is_name.mono (k := 3) (by decide)
  replace C_first_due := C_first_due.mono (k := 3) (by decide)
  refine cal_of D (fun f fd F => fnokX F sc fun cdv A outer s H E hr => have hr1 := hr; ⟨_, (pss_cons (ps_if (PW.pt (pw_or (pt_cmpR op_ne (pe_callB (r := rLen K) call_lenK (by rfl) B.len_ (by decide +kernel) (pa_cons (pv 1) pa_nil)) pe_int (nomark _)) (pw_or (pt_not (pt_val (pe_callC C_is_name hr1 rfl (pa_cons (pe_ix (r := rIxL K) ix_list (pv 1) pe_int (fun _ _ => rfl)) pa_nil)))) (pw_or1 (pt_cmpR (r := rIn K true) op_notIn_seq (pe_ix (r := rIxL K) ix_list (pv 1) pe_int (fun _ _ => rfl)) (pe_tup (pa_cons pe_str (pa_cons pe_str pa_nil))) rfl))))) (pss_one (ps_ret pe_str)) pss_nil)
      (pss_cons (ps_set (i := 2) sc.nd rfl (Or.inl rfl) (pe_callC C_spots_of hr1 rfl (pa_cons (pe_slice (r := rSlL K) sl_list (pv 1) (po_some pe_int) po_none) pa_nil)))
      (pss_cons (ps_if (pt_cmpR op_isN1 (pv 2) pe_non (nomark _)) (pss_one (ps_ret pe_str)) pss_nil)
      (pss_cons (ps_set (i := 3) sc.nd rfl (Or.inl rfl) (pe_callC C_first_due hr1 rfl (pa_cons (pe_cmp (pc_din (hu_of hr) (pe_tup (pa_cons (pe_ix (r := rIxL K) ix_list (pv 1) pe_int (fun _ _ => rfl)) (pa_cons (pe_ix (r := rIxL K) ix_list (pv 1) pe_int (fun _ _ => rfl)) pa_nil))) (pe_fldK (K := K) rfl (pv 0) rfl))) (pa_cons (pe_cmp (pc_dnotin (hu_of hr) (pe_ix (r := rIxL K) ix_list (pv 1) pe_int (fun _ _ => rfl)) (pe_fldK (K := K) rfl (pv 0) rfl))) (pa_cons pe_bl pa_nil)))))
      (pss_cons (ps_if (pt_cmpR op_eq (pv 3) pe_str (nomark _)) (pss_one (ps_dput (hu_of hr) (pe_fldK (K := K) rfl (pv 0) rfl) (pe_tup (pa_cons (pe_ix (r := rIxL K) ix_list (pv 1) pe_int (fun _ _ => rfl)) (pa_cons (pe_ix (r := rIxL K) ix_list (pv 1) pe_int (fun _ _ => rfl)) pa_nil))) (pe_ix (r := rIxL K) ix_list (pv 2) pe_int (fun _ _ => rfl)) rfl)) pss_nil)
      (pss_one (ps_ret (pv 3)))))))), fun G as post D hl sm hp hq hx => ?_⟩) (fun _ _ _ _ _ _ us hl => match us, hl with | [_, _], _ => rfl)
  obtain ⟨a', t, ws, rfl, ha, hw, hz, rfl⟩ := hp
  have ok : Cok (CH cl a' t a'.S G H) := CH.ok
  have hh : ∀ G1 H1, CH cl a' t a'.S G H G1 H1 → HallAt cl a' t G1 H1 := CH.hall
  refine fun σ sl => (?_ : Run _ (CH cl a' t a'.S G H) _ D) G σ H ⟨Stp.refl sm, ha⟩ sl
  have rt : ∀ f, pointRow t ws = (f, t) → Rt D (CH cl a' t a'.S G H) (.str f) := fun f e v G1 H1 k r => hq v G1 H1 _ ⟨by rw [e]; exact k, by rw [e]⟩ r
  by_cases h2 : ws.length = 4
  · obtain ⟨n, s, a, b, rfl⟩ := len4 h2
    have h0 : atI (tx [n, s, a, b]) 0 = some (.str n) := rfl
    have h1 : atI (tx [n, s, a, b]) 1 = some (.str s) := rfl
    have e0 : pointRow t [n, s, a, b] = if (isName n && isSide s) && [a, b].all isSigned then fin t (firstDue (hasT t.pointsK [n, s]) (!hasS t.shapesK n) false) { t with points := t.points ++ [(n, s, (sgnV a, sgnV b))] } else ("row", t) := rfl
    cases hb : isName n && isSide s with
    | false =>
      rw [hb, Bool.false_and, if_neg Bool.false_ne_true] at e0
      refine run_when (b := true) ok (EvT.is (by walk_at "ev") ?_) (fun _ => run_ret ok (ev_str ok) rfl (rt _ e0)) (fun e => by cases e)
      unfold isSide at hb
      cases h1 : isName n <;> simp_all [tx]
    | true =>
      rw [hb, Bool.true_and] at e0
      obtain ⟨hb1, hb2⟩ := (Bool.and_eq_true _ _).mp hb
      refine run_when (b := false) ok (EvT.is (by walk_at "ev") ?_) (fun e => by cases e) (fun _ => ?_)
      · unfold isSide at hb2
        rw [hb1, hb2]; rfl
      refine run_set (d := spotsOf [a, b]) ok (ev_call ok (ea_cons ok (ev_drop 2 ok (by walk_at "ev")) (ea_nil ok)) rfl (fun _ _ _ => ⟨[a, b], rfl, .inl rfl, rfl⟩)) ?_
      cases hb3 : [a, b].all isSigned with
      | false =>
        rw [hb3, if_neg Bool.false_ne_true] at e0
        rw [show spotsOf [a, b] = .non by unfold spotsOf; rw [hb3]; rfl]
        exact run_when (b := true) ok (EvT.is (by walk_at "ev") rfl) (fun _ => run_ret ok (ev_str ok) rfl (rt _ e0)) (fun e => by cases e)
      | true =>
      rw [hb3, if_pos rfl] at e0
      rw [show spotsOf [a, b] = .lst (pairs ([a, b].map sgnV)) by unfold spotsOf; rw [hb3]; rfl]
      have p0 : atI (pairs ([a, b].map sgnV)) 0 = some (ptD (sgnV a, sgnV b)) := rfl
      skip
      refine run_when (b := false) ok (EvT.is (by walk_at "ev") rfl) (fun e => by cases e) (fun _ => ?_)
      generalize hf : firstDue (hasT t.pointsK [n, s]) (!hasS t.shapesK n) false = f at e0
      refine run_set (d := .str f) ok (EvD.is (ev_call ok (ea_cons ok (ev_dinT (x := [n, s]) ok (ev_tup ok (ea_cons ok (by walk_at "ev") (ea_cons ok (by walk_at "ev") (ea_nil ok))) (Nat.le_of_ble_eq_true rfl)) (by walk_at "ev") (hall_p hh)) (ea_cons ok (by walk_at "ev") (ea_cons ok (by walk_at "ev") (ea_nil ok)))) rfl (fun _ _ _ => ⟨_, _, _, rfl, rfl⟩)) (by rw [← hf])) ?_
      refine run_seq (run_if ok (by walk_at "ev") (fun e => ?_) (fun e => ?_))
      · have e1 : f = "" := of_decide_eq_true e
        subst e1
        obtain ⟨g1, g2, g3⟩ := firstDue_nil.mp hf
        refine run_dputT (x := [n, s]) ok (by walk_at "ev") (ev_tup ok (ea_cons ok (by walk_at "ev") (ea_cons ok (by walk_at "ev") (ea_nil ok))) (Nat.le_of_ble_eq_true rfl)) (d := ptD (sgnV a, sgnV b)) (by walk_at "ev") (hall_p hh) (by simp only [Told.size, Told.marksK, Told.pointsK, Told.lettersK, Told.classesK, Told.featuresK, Told.rulesD, tx, List.length_map] at *; show _ < 16000000; omega) g1 ?_
        intro G1 σ1 H1 k1 s1 H2 kd st
        exact (run_ret CH.ok (ev_var CH.ok rfl) rfl (fun v G3 H3 k3 r3 => hq v G3 H3 _ ⟨by rw [e0]; exact k3, by rw [e0]; rfl⟩ r3) : Run _ (CH cl a' { t with points := t.points ++ [(n, s, (sgnV a, sgnV b))] } a'.S G H) _ D) G1 σ1 H2 ⟨k1.1.trans (st.mono fun b hb => hb ▸ by simp [HA.S, HA.list]), k1.2.set_points st (by first | exact kd | simpa [Told.marksK, Told.pointsK, Told.lettersK, Told.classesK, Told.featuresK, Told.rulesD, tx] using kd)⟩ s1
      · have e1 : f ≠ "" := of_decide_eq_false e
        unfold fin at e0
        rw [if_neg e1] at e0
        exact run_ret ok (ev_var ok rfl) rfl (rt _ e0)
  · have e2 : pointRow t ws = (("row" : Str), t) := by
      unfold pointRow; split
      · exact absurd rfl h2
      · rfl
    refine run_when (b := true) ok (et_orT (EvT.is (by walk_at "ev") (by simp; omega))) (fun _ => run_ret ok (ev_str ok) rfl (rt _ e2)) (fun e => by cases e)
end
end Kx

namespace Kx
open PySem L2
abbrev isWay (s : Str) : Bool := decide (s ∈ (["left", "right", "either"] : List Str))
abbrev isOn (s : Str) : Bool := decide (s ∈ (["on", "off"] : List Str))
def letterRow (t : Told) : List Str → Str × Told
  | n :: j :: w :: fs => if ((decide (1 ≤ fs.length) && isName n) && isWay w) && (decide ((fs.length : Int) = facesDue j) && fs.all isName) then fin t (firstDue (hasS t.lettersK n) (fs.any fun x => !hasS t.shapesK x) (decide (24 ≤ t.letters.length))) { t with letters := t.letters ++ [(n, j, w, fs)] } else ("row", t)
  | _ => ("row", t)
def gapRow (t : Told) : List Str → Str × Told
  | [n] => if isName n then fin t (firstDue (decide (n ∈ t.gaps)) (!hasS t.lettersK n) false) { t with gaps := t.gaps ++ [n] } else ("row", t)
  | _ => ("row", t)
def classRow (t : Told) : List Str → Str × Told
  | n :: fs => if (decide (1 ≤ fs.length) && decide (fs.length ≤ 20)) && (n :: fs).all isName then fin t (firstDue (hasS t.classesK n) (fs.any fun x => !hasS t.shapesK x) (decide (20 ≤ t.classes.length))) { t with classes := t.classes ++ [(n, fs)] } else ("row", t)
  | _ => ("row", t)
def featureRow (t : Told) : List Str → Str × Told
  | [n, s] => if isName n && isOn s then fin t (firstDue (hasS t.featuresK n) false (decide (10 ≤ t.features.length))) { t with features := t.features ++ [(n, decide (s = "on"))] } else ("row", t)
  | _ => ("row", t)
theorem len1 {α : Type} {l : List α} (h : l.length = 1) : ∃ a, l = [a] := by
  match l, h with
  | [a], _ => exact ⟨a, rfl⟩
section
variable {P : Program} {w : World} {K : PySem.W.Frag} {mg : Str → Option Value} {base : Heap} {cl : Addr}
local macro_rules | `(tactic| walk_at "ev") => `(tactic| with_reducible first
  | (show EvD _ _ _ _; first
    | exact ev_var (by assumption) rfl
    | exact ev_int (by assumption)
    | exact ev_str (by assumption)
    | exact ev_non (by assumption)
    | exact ev_bl (by assumption)
    | (refine' ev_call (by assumption) ?_ ?_ ?_ <;> (try walk_at "ev"))
    | (refine' ev_op (by assumption) ?_ ?_ ?_ <;> (try walk_at "ev"))
    | (refine' ev_un (by assumption) ?_ rfl <;> (try walk_at "ev"))
    | (refine' ev_andV (by assumption) ?_ (fun _ => ?_) <;> (try walk_at "ev"))
    | (refine' ev_orV (by assumption) ?_ (fun _ => ?_) <;> (try walk_at "ev"))
    | (refine' ev_notV (by assumption) ?_ <;> (try walk_at "ev"))
    | (refine' ev_chain (by assumption) ?_ ?_ ?_ ?_ ?_ <;> (try walk_at "ev"))
    | (refine' ev_cb (by assumption) ?_ ?_ <;> (try walk_at "ev"))
    | (refine' ev_bm (by assumption) ?_ ?_ ?_ <;> (try walk_at "ev"))
    | (refine' ev_m1 (by assumption) ?_ ?_ ?_ <;> (try walk_at "ev"))
    | (refine' ev_sliceS (by assumption) ?_ ?_ ?_ <;> (try walk_at "ev"))
    | (refine' ev_slice (by assumption) ?_ ?_ ?_ <;> (try walk_at "ev"))
    | (refine' ev_tup (by assumption) ?_ ?_ <;> (try walk_at "ev"))
    | (refine' ev_lst (by assumption) ?_ ?_ <;> (try walk_at "ev"))
    | exact ev_h_shapes (by assumption) (by assumption) (by assumption) (ev_var (by assumption) rfl)
    | exact ev_h_marks (by assumption) (by assumption) (by assumption) (ev_var (by assumption) rfl)
    | exact ev_h_points (by assumption) (by assumption) (by assumption) (ev_var (by assumption) rfl)
    | exact ev_h_letters (by assumption) (by assumption) (by assumption) (ev_var (by assumption) rfl)
    | exact ev_h_gaps (by assumption) (by assumption) (by assumption) (ev_var (by assumption) rfl)
    | exact ev_h_classes (by assumption) (by assumption) (by assumption) (ev_var (by assumption) rfl)
    | exact ev_h_features (by assumption) (by assumption) (by assumption) (ev_var (by assumption) rfl)
    | exact ev_h_rules (by assumption) (by assumption) (by assumption) (ev_var (by assumption) rfl)
    | (refine' ev_dinK (by assumption) ?_ ?_ ?_ <;> (try walk_at "ev"))
    | (refine' ev_dniK (by assumption) ?_ ?_ ?_ <;> (try walk_at "ev"))
    | (refine' ev_dinT (by assumption) ?_ ?_ ?_ <;> (try walk_at "ev")))
  | (show EvA _ _ _ _; first
    | exact ea_nil (by assumption)
    | (refine' ea_cons (by assumption) ?_ ?_ <;> (try walk_at "ev")))
  | (show RV _ _ _ _ _; first
    | exact rv_int (by assumption)
    | exact rv_cmp (by assumption)
    | exact rv_eq (by assumption) rfl
    | exact rv_ne (by assumption) rfl
    | exact rv_isN (by assumption) rfl
    | exact rv_notN (by assumption) rfl
    | exact rv_inT (by assumption) (.inl rfl)
    | exact rv_inT (by assumption) (.inr rfl)
    | exact rv_niT (by assumption) (.inl rfl)
    | exact rv_niT (by assumption) (.inr rfl)
    | exact rv_inS (by assumption)
    | exact rv_niS (by assumption)
    | exact rv_ixS (by assumption) (by assumption)
    | exact rv_ixL (by assumption) (by assumption)
    | exact rv_ixT (by assumption) (by assumption)
    | exact rv_ixT (by assumption) rfl
    | exact rv_ixL (by assumption) rfl
    | (refine' rv_inM (by assumption) ?_ <;> (try walk_at "ev"))
    | (refine' rv_niM (by assumption) ?_ <;> (try walk_at "ev"))
    | (refine' rv_inX (by assumption) ?_ (.inl rfl) <;> (try walk_at "ev"))
    | (refine' rv_inX (by assumption) ?_ (.inr rfl) <;> (try walk_at "ev"))
    | (refine' rv_niX (by assumption) ?_ (.inl rfl) <;> (try walk_at "ev"))
    | (refine' rv_niX (by assumption) ?_ (.inr rfl) <;> (try walk_at "ev"))
    | exact rv_in (neg := false) (by assumption) rfl rfl (.inr rfl)
    | exact rv_in (neg := true) (by assumption) rfl rfl (.inr rfl)
    | exact rv_intC (g := fun i j => i % j) (by assumption) (by decide)
    | exact rv_intC (g := fun i j => i / j) (by assumption) (cdiv_ok (by decide)))
  | (show EvT _ _ _ _; first
    | exact et_yes (by assumption)
    | (refine' et_and (by assumption) ?_ (fun _ => ?_) <;> (try walk_at "ev"))
    | (refine' et_or (by assumption) ?_ (fun _ => ?_) <;> (try walk_at "ev"))
    | (refine' et_not ?_ <;> (try walk_at "ev"))
    | (refine' et_test ?_ <;> (try walk_at "ev"))
    | (refine' et_B ?_ <;> (try walk_at "ev")))
  | (show RC _ _ _ _; first
    | exact rc_lenL (by assumption)
    | exact rc_lenT (by assumption)
    | exact rc_lenS (by assumption)
    | exact rc_all (by assumption)
    | exact rc_intB (by assumption)
    | exact rc_strS (by assumption)
    | exact rc_listOf (by assumption) (.inl rfl)
    | exact rc_listOf (by assumption) (.inr rfl)
    | exact rc_tupOf (by assumption)
    | (refine' rc_lenD (by assumption) ?_ <;> (try walk_at "ev"))
    | (refine' rc_lenM (by assumption) ?_ <;> (try walk_at "ev")))
  | (show RM _ _ _ _ _; first
    | exact rm_strip' (by assumption))
  | (show EvO _ _ _ _; first
    | exact eo_none (by assumption)
    | (refine' eo_some ?_ <;> (try walk_at "ev")))
  | (show List.length _ ≤ Lim; with_unfolding_all exact Nat.le_of_ble_eq_true rfl)
  | (show List.length _ = _; with_unfolding_all rfl)
  | exact (fun _ _ _ => ⟨_, rfl, rfl⟩)
  | exact (fun _ _ _ => ⟨_, _, rfl, rfl⟩)
  | exact (fun _ _ _ => ⟨_, _, _, rfl, rfl⟩)
  | exact (fun _ _ _ => ⟨_, rfl, by assumption, rfl⟩)
  | exact hall_s (by assumption)
  | exact hall_m (by assumption)
  | exact hall_p (by assumption)
  | exact hall_l (by assumption)
  | exact hall_g (by assumption)
  | exact hall_c (by assumption)
  | exact hall_f (by assumption)
  | exact hall_r (by assumption)
  | exact TxL.of _
  | exact TxL.nil
  | (refine' TxL.cons ?_ <;> (try walk_at "ev")))


abbrev s_letter_row : Stmt := top 25
abbrev N_letter_row : List Str := ["hall", "words", "fault"]
abbrev P_letter_row : List Str := ["hall", "words"]
theorem sc_letter_row : FnScope N_letter_row P_letter_row (defScope s_letter_row) := ⟨rfl, rfl, rfl, by decide +kernel, rfl, by decide +kernel, by decide +kernel⟩

theorem cal_letter_row (B : Blt mg) (HK : HallK K cl) (D : Dfn K mg "letter_row" s_letter_row) (C_is_name : Cal P w K mg base "is_name" 1 P_is_name spIsName) (C_faces_due : Cal P w K mg base "faces_due" 1 P_faces_due spFacesDue) (C_all_names : Cal P w K mg base "all_names" 2 P_all_names spAllNames) (C_lacking : Cal P w K mg base "lacking" 1 P_lacking spLacking) (C_first_due : Cal P w K mg base "first_due" 1 P_first_due spFirstDue) :
    Cal P w K mg base "letter_row" 3 P_letter_row (SpRow cl letterRow) := by
  have sc := sc_letter_row
  replace C_is_name := C_is_name.mono (k := 2) (by decide)
  replace C_faces_due := C_faces_due.mono (k := 2) (by decide)
  replace C_lacking := C_lacking.mono (k := 2) (by decide)
  replace C_first_due := C_first_due.mono (k := 2) (by decide)
  refine cal_of D (fun f fd F => fnokX F sc fun cdv A outer s H E hr => have hr1 := hr; ⟨_, (pss_cons (ps_if (PW.pt (pw_or (pt_cmpR op_lt (pe_callB (r := rLen K) call_lenK (by rfl) B.len_ (by decide +kernel) (pa_cons (pv 1) pa_nil)) pe_int (nomark _)) (pw_or (pt_not (pt_val (pe_callC C_is_name hr1 rfl (pa_cons (pe_ix (r := rIxL K) ix_list (pv 1) pe_int (fun _ _ => rfl)) pa_nil)))) (pw_or1 (pt_cmpR (r := rIn K true) op_notIn_seq (pe_ix (r := rIxL K) ix_list (pv 1) pe_int (fun _ _ => rfl)) (pe_tup (pa_cons pe_str (pa_cons pe_str (pa_cons pe_str pa_nil)))) rfl))))) (pss_one (ps_ret pe_str)) pss_nil)
      (pss_cons (ps_if (PW.pt (pw_or (pt_cmpR op_ne (pe_callB (r := rLen K) call_lenK (by rfl) B.len_ (by decide +kernel) (pa_cons (pv 1) pa_nil)) (pe_op op_add pe_int (pe_callC C_faces_due hr1 rfl (pa_cons (pe_ix (r := rIxL K) ix_list (pv 1) pe_int (fun _ _ => rfl)) pa_nil))) (nomark _)) (pw_or1 (pt_not (pt_val (pe_callC C_all_names hr1 rfl (pa_cons (pe_slice (r := rSlL K) sl_list (pv 1) (po_some pe_int) po_none) pa_nil))))))) (pss_one (ps_ret pe_str)) pss_nil)
      (pss_cons (ps_set (i := 2) sc.nd rfl (Or.inl rfl) (pe_callC C_first_due hr1 rfl (pa_cons (pe_cmp (pc_din (hu_of hr) (pe_ix (r := rIxL K) ix_list (pv 1) pe_int (fun _ _ => rfl)) (pe_fldK (K := K) rfl (pv 0) rfl))) (pa_cons (pe_callC C_lacking hr1 rfl (pa_cons (pe_slice (r := rSlL K) sl_list (pv 1) (po_some pe_int) po_none) (pa_cons (pe_fldK (K := K) rfl (pv 0) rfl) pa_nil))) (pa_cons (pe_cmpR op_ge (pe_callB (r := rLenD) call_lenDK (by rfl) B.len_ (by decide +kernel) (pa_cons (pe_fldK (K := K) rfl (pv 0) rfl) pa_nil)) pe_int (nomark _)) pa_nil)))))
      (pss_cons (ps_if (pt_cmpR op_eq (pv 2) pe_str (nomark _)) (pss_one (ps_dput (hu_of hr) (pe_fldK (K := K) rfl (pv 0) rfl) (pe_ix (r := rIxL K) ix_list (pv 1) pe_int (fun _ _ => rfl)) (pe_tup (pa_cons (pe_ix (r := rIxL K) ix_list (pv 1) pe_int (fun _ _ => rfl)) (pa_cons (pe_ix (r := rIxL K) ix_list (pv 1) pe_int (fun _ _ => rfl)) (pa_cons (pe_callTy (r := rTupOf K) call_tupOf (by rfl) B.tuple_ (by decide +kernel) (pa_cons (pe_slice (r := rSlL K) sl_list (pv 1) (po_some pe_int) po_none) pa_nil)) pa_nil)))) rfl)) pss_nil)
      (pss_one (ps_ret (pv 2))))))), fun G as post D hl sm hp hq hx => ?_⟩) (fun _ _ _ _ _ _ us hl => match us, hl with | [_, _], _ => rfl)
  obtain ⟨a, t, ws, rfl, ha, hw, hz, rfl⟩ := hp
  have ok : Cok (CH cl a t a.S G H) := CH.ok
  have hh : ∀ G1 H1, CH cl a t a.S G H G1 H1 → HallAt cl a t G1 H1 := CH.hall
  refine fun σ sl => (?_ : Run _ (CH cl a t a.S G H) _ D) G σ H ⟨Stp.refl sm, ha⟩ sl
  have rt : ∀ f, letterRow t ws = (f, t) → Rt D (CH cl a t a.S G H) (.str f) := fun f e v G1 H1 k r => hq v G1 H1 _ ⟨by rw [e]; exact k, by rw [e]⟩ r
  have short : ws.length < 3 → letterRow t ws = (("row" : Str), t) := fun h2 => by
    unfold letterRow; split
    · simp only [List.length_cons] at h2; omega
    · rfl
  by_cases h2 : ws.length < 3
  · exact run_when (b := true) ok (et_orT (EvT.is (by walk_at "ev") (by simp; omega))) (fun _ => run_ret ok (ev_str ok) rfl (rt _ (short h2))) (fun e => by cases e)
  · match ws, h2, hw, rt, hq, sl with
    | [], h2, _, _, _, _ => exact absurd (by decide) h2
    | [_], h2, _, _, _, _ => exact absurd (by simp) h2
    | [_, _], h2, _, _, _, _ => exact absurd (by simp) h2
    | n :: j :: w :: fs, _, hw, rt, hq, sl =>
    have h0 : atI (tx (n :: j :: w :: fs)) 0 = some (.str n) := at_nat (k := 0) rfl
    have h1 : atI (tx (n :: j :: w :: fs)) 1 = some (.str j) := at_nat (k := 1) rfl
    have h2 : atI (tx (n :: j :: w :: fs)) 2 = some (.str w) := at_nat (k := 2) rfl
    have hfl : fs.length ≤ 1000001 := by simp only [List.length_cons] at hw; omega
    have e0 : letterRow t (n :: j :: w :: fs) = if ((decide (1 ≤ fs.length) && isName n) && isWay w) && (decide ((fs.length : Int) = facesDue j) && fs.all isName) then fin t (firstDue (hasS t.lettersK n) (fs.any fun x => !hasS t.shapesK x) (decide (24 ≤ t.letters.length))) { t with letters := t.letters ++ [(n, j, w, fs)] } else ("row", t) := rfl
    have d3 : ∀ {ds : List (Option Dt)}, ds[1]? = some (some (.lst (tx (n :: j :: w :: fs)))) → EvD (tSl (rSlL K) (tVar 1) (tPart (tC (.int 3))) tNoPart) (CH cl a t a.S G H) ds (.lst (tx fs)) := fun h => ev_drop 3 ok (ev_var ok h)
    cases hb : (decide (1 ≤ fs.length) && isName n) && isWay w with
    | false =>
      rw [hb, Bool.false_and, if_neg Bool.false_ne_true] at e0
      refine run_when (b := true) ok (EvT.is (by walk_at "ev") ?_) (fun _ => run_ret ok (ev_str ok) rfl (rt _ e0)) (fun e => by cases e)
      have l1 : decide ((((tx (n :: j :: w :: fs)).length : Nat) : Int) < 4) = !decide (1 ≤ fs.length) := by
        rw [← decide_not]; refine decide_eq_decide.mpr ?_; simp only [List.length_map, List.length_cons]; omega
      rw [l1]
      rw [show decide (w ∈ (["left", "right", "either"] : List Str)) = isWay w from rfl]
      cases h1 : decide (1 ≤ fs.length) <;> cases h2 : isName n <;> cases h3 : isWay w <;> first | rfl | (rw [h1, h2, h3] at hb; cases hb)
    | true =>
    obtain ⟨hb12, hb3⟩ := (Bool.and_eq_true _ _).mp hb
    obtain ⟨hb1, hb2⟩ := (Bool.and_eq_true _ _).mp hb12
    have hb1' := of_decide_eq_true hb1
    rw [hb, Bool.true_and] at e0
    refine run_when (b := false) ok (EvT.is (by walk_at "ev") ?_) (fun e => by cases e) (fun _ => ?_)
    · have l1 : decide ((((tx (n :: j :: w :: fs)).length : Nat) : Int) < 4) = false := by
        refine decide_eq_false ?_; simp only [List.length_map, List.length_cons]; omega
      have l3 : decide (w ∈ (["left", "right", "either"] : List Str)) = true := hb3
      rw [l1, hb2, l3]; rfl
    have l4 : decide ((((tx (n :: j :: w :: fs)).length : Nat) : Int) = 3 + facesDue j) = decide ((fs.length : Int) = facesDue j) := by
      refine decide_eq_decide.mpr ?_; simp only [List.length_map, List.length_cons]; omega
    have an : ∀ {ds : List (Option Dt)}, ds[1]? = some (some (.lst (tx (n :: j :: w :: fs)))) → EvD (tCall spAllNames [] E0 (tCons (tSl (rSlL K) (tVar 1) (tPart (tC (.int 3))) tNoPart) tNil)) (CH cl a t a.S G H) ds (.bl (fs.all isName)) := fun h => ev_call ok (ea_cons ok (d3 h) (ea_nil ok)) rfl (fun _ _ _ => ⟨fs, rfl, hfl, rfl⟩)
    cases hb4 : decide ((fs.length : Int) = facesDue j) && fs.all isName with
    | false =>
      rw [hb4, if_neg Bool.false_ne_true] at e0
      refine run_when (b := true) ok (EvT.is (et_or ok (by walk_at "ev") (fun _ => et_not (et_B (an rfl)))) ?_) (fun _ => run_ret ok (ev_str ok) rfl (rt _ e0)) (fun e => by cases e)
      rw [l4]
      cases h1 : decide ((fs.length : Int) = facesDue j) <;> cases h2 : fs.all isName <;> first | rfl | (rw [h1, h2] at hb4; cases hb4)
    | true =>
      rw [hb4, if_pos rfl] at e0
      obtain ⟨hb5, hb6⟩ := (Bool.and_eq_true _ _).mp hb4
      refine run_when (b := false) ok (EvT.is (et_or ok (by walk_at "ev") (fun _ => et_not (et_B (an rfl)))) (by rw [l4, hb5, hb6]; rfl)) (fun e => by cases e) (fun _ => ?_)
      generalize hf : firstDue (hasS t.lettersK n) (fs.any fun x => !hasS t.shapesK x) (decide (24 ≤ t.letters.length)) = f at e0
      refine run_set (d := .str f) ok (EvD.is (ev_call ok (ea_cons ok (by walk_at "ev") (ea_cons ok (ev_lacking ok (ea_cons ok (d3 rfl) (ea_cons ok (by walk_at "ev") (ea_nil ok))) (hall_s hh)) (ea_cons ok (by walk_at "ev") (ea_nil ok)))) rfl (fun _ _ _ => ⟨_, _, _, rfl, rfl⟩)) (by rw [← hf, dec_le 24, Told.lettersK, List.length_map])) ?_
      refine run_seq (run_if ok (by walk_at "ev") (fun e => ?_) (fun e => ?_))
      · have e1 : f = "" := of_decide_eq_true e
        subst e1
        obtain ⟨g1, g2, g3⟩ := firstDue_nil.mp hf
        refine run_dputK ok (by walk_at "ev") (by walk_at "ev") (d := .tup [.str j, .str w, .tup (tx fs)]) (ev_tup ok (ea_cons ok (by walk_at "ev") (ea_cons ok (by walk_at "ev") (ea_cons ok (ev_cb ok (ea_cons ok (d3 rfl) (ea_nil ok)) (rc_tupOf ok)) (ea_nil ok)))) (Nat.le_of_ble_eq_true rfl)) (hall_l hh) (by simp only [Told.size, Told.marksK, Told.pointsK, Told.lettersK, Told.classesK, Told.featuresK, Told.rulesD, tx, List.length_map] at *; show _ < 16000000; omega) g1 ?_
        intro G1 σ1 H1 k1 s1 H2 kd st
        exact (run_ret CH.ok (ev_var CH.ok rfl) rfl (fun v G3 H3 k3 r3 => hq v G3 H3 _ ⟨by rw [e0]; exact k3, by rw [e0]; rfl⟩ r3) : Run _ (CH cl a { t with letters := t.letters ++ [(n, j, w, fs)] } a.S G H) _ D) G1 σ1 H2 ⟨k1.1.trans (st.mono fun b hb => hb ▸ by simp [HA.S, HA.list]), k1.2.set_letters st (by first | exact kd | simpa [Told.marksK, Told.pointsK, Told.lettersK, Told.classesK, Told.featuresK, Told.rulesD, tx] using kd)⟩ s1
      · have e1 : f ≠ "" := of_decide_eq_false e
        unfold fin at e0
        rw [if_neg e1] at e0
        exact run_ret ok (ev_var ok rfl) rfl (rt _ e0)

abbrev s_gap_row : Stmt := top 26
abbrev N_gap_row : List Str := ["hall", "words", "fault"]
abbrev P_gap_row : List Str := ["hall", "words"]
theorem sc_gap_row : FnScope N_gap_row P_gap_row (defScope s_gap_row) := ⟨rfl, rfl, rfl, by decide +kernel, rfl, by decide +kernel, by decide +kernel⟩

theorem cal_gap_row (B : Blt mg) (HK : HallK K cl) (D : Dfn K mg "gap_row" s_gap_row) (C_is_name : Cal P w K mg base "is_name" 1 P_is_name spIsName) (C_first_due : Cal P w K mg base "first_due" 1 P_first_due spFirstDue) :
    Cal P w K mg base "gap_row" 2 P_gap_row (SpRow cl gapRow) := by
  have sc := sc_gap_row
  refine cal_of D (fun f fd F => fnokX F sc fun cdv A outer s H E hr => have hr1 := hr; ⟨_, (pss_cons (ps_if (PW.pt (pw_or (pt_cmpR op_ne (pe_callB (r := rLen K) call_lenK (by rfl) B.len_ (by decide +kernel) (pa_cons (pv 1) pa_nil)) pe_int (nomark _)) (pw_or1 (pt_not (pt_val (pe_callC C_is_name hr1 rfl (pa_cons (pe_ix (r := rIxL K) ix_list (pv 1) pe_int (fun _ _ => rfl)) pa_nil))))))) (pss_one (ps_ret pe_str)) pss_nil)
      (pss_cons (ps_set (i := 2) sc.nd rfl (Or.inl rfl) (pe_callC C_first_due hr1 rfl (pa_cons (pe_cmpR (r := rIn K false) op_in_seq (pe_ix (r := rIxL K) ix_list (pv 1) pe_int (fun _ _ => rfl)) (pe_fldK (K := K) rfl (pv 0) rfl) rfl) (pa_cons (pe_cmp (pc_dnotin (hu_of hr) (pe_ix (r := rIxL K) ix_list (pv 1) pe_int (fun _ _ => rfl)) (pe_fldK (K := K) rfl (pv 0) rfl))) (pa_cons pe_bl pa_nil)))))
      (pss_cons (ps_if (pt_cmpR op_eq (pv 2) pe_str (nomark _)) (pss_one (ps_expr (pe_bm PySem.F.plainAttrs_list PySem.F.slot_list_append PySem.F.type_list_append mt_append (pe_fldK (K := K) rfl (pv 0) rfl) (pa_cons (pe_ix (r := rIxL K) ix_list (pv 1) pe_int (fun _ _ => rfl)) pa_nil)))) pss_nil)
      (pss_one (ps_ret (pv 2)))))), fun G as post D hl sm hp hq hx => ?_⟩) (fun _ _ _ _ _ _ us hl => match us, hl with | [_, _], _ => rfl)
  obtain ⟨a, t, ws, rfl, ha, hw, hz, rfl⟩ := hp
  have ok : Cok (CH cl a t a.S G H) := CH.ok
  have hh : ∀ G1 H1, CH cl a t a.S G H G1 H1 → HallAt cl a t G1 H1 := CH.hall
  refine fun σ sl => (?_ : Run _ (CH cl a t a.S G H) _ D) G σ H ⟨Stp.refl sm, ha⟩ sl
  have rt : ∀ f, gapRow t ws = (f, t) → Rt D (CH cl a t a.S G H) (.str f) := fun f e v G1 H1 k r => hq v G1 H1 _ ⟨by rw [e]; exact k, by rw [e]⟩ r
  by_cases h2 : ws.length = 1
  · obtain ⟨n, rfl⟩ := len1 h2
    have h0 : atI (tx [n]) 0 = some (.str n) := rfl
    have e0 : gapRow t [n] = if isName n then fin t (firstDue (decide (n ∈ t.gaps)) (!hasS t.lettersK n) false) { t with gaps := t.gaps ++ [n] } else ("row", t) := rfl
    cases hb : isName n with
    | false =>
      rw [hb, if_neg Bool.false_ne_true] at e0
      exact run_when (b := true) ok (EvT.is (by walk_at "ev") (by rw [hb]; rfl)) (fun _ => run_ret ok (ev_str ok) rfl (rt _ e0)) (fun e => by cases e)
    | true =>
      rw [hb, if_pos rfl] at e0
      refine run_when (b := false) ok (EvT.is (by walk_at "ev") (by rw [hb]; rfl)) (fun e => by cases e) (fun _ => ?_)
      generalize hf : firstDue (decide (n ∈ t.gaps)) (!hasS t.lettersK n) false = f at e0
      refine run_set (d := .str f) ok (EvD.is (by walk_at "ev") (by rw [← hf])) ?_
      refine run_seq (run_if ok (by walk_at "ev") (fun e => ?_) (fun e => ?_))
      · have e1 : f = "" := of_decide_eq_true e
        subst e1
        obtain ⟨g1, g2, g3⟩ := firstDue_nil.mp hf
        refine run_append ok (by walk_at "ev") (d := .str n) (by walk_at "ev") (hall_g hh) (by simp only [Told.size, Told.marksK, Told.pointsK, Told.lettersK, Told.classesK, Told.featuresK, Told.rulesD, tx, List.length_map] at *; show _ < 16000000; omega) ?_
        intro G1 σ1 H1 k1 s1 H2 kd st
        exact (run_ret CH.ok (ev_var CH.ok rfl) rfl (fun v G3 H3 k3 r3 => hq v G3 H3 _ ⟨by rw [e0]; exact k3, by rw [e0]; rfl⟩ r3) : Run _ (CH cl a { t with gaps := t.gaps ++ [n] } a.S G H) _ D) G1 σ1 H2 ⟨k1.1.trans (st.mono fun b hb => hb ▸ by simp [HA.S, HA.list]), k1.2.set_gaps st (by first | exact kd | simpa [Told.marksK, Told.pointsK, Told.lettersK, Told.classesK, Told.featuresK, Told.rulesD, tx] using kd)⟩ s1
      · have e1 : f ≠ "" := of_decide_eq_false e
        unfold fin at e0
        rw [if_neg e1] at e0
        exact run_ret ok (ev_var ok rfl) rfl (rt _ e0)
  · have e2 : gapRow t ws = (("row" : Str), t) := by
      unfold gapRow; split
      · exact absurd rfl h2
      · rfl
    refine run_when (b := true) ok (et_orT (EvT.is (by walk_at "ev") (by simp; omega))) (fun _ => run_ret ok (ev_str ok) rfl (rt _ e2)) (fun e => by cases e)

abbrev s_class_row : Stmt := top 27
abbrev N_class_row : List Str := ["hall", "words", "fault"]
abbrev P_class_row : List Str := ["hall", "words"]
theorem sc_class_row : FnScope N_class_row P_class_row (defScope s_class_row) := ⟨rfl, rfl, rfl, by decide +kernel, rfl, by decide +kernel, by decide +kernel⟩

theorem cal_class_row (B : Blt mg) (HK : HallK K cl) (D : Dfn K mg "class_row" s_class_row) (C_all_names : Cal P w K mg base "all_names" 2 P_all_names spAllNames) (C_lacking : Cal P w K mg base "lacking" 1 P_lacking spLacking) (C_first_due : Cal P w K mg base "first_due" 1 P_first_due spFirstDue) :
    Cal P w K mg base "class_row" 3 P_class_row (SpRow cl classRow) := by
  have sc := sc_class_row
  replace C_lacking := C_lacking.mono (k := 2) (by decide)
  replace C_first_due := C_first_due.mono (k := 2) (by decide)
  refine cal_of D (fun f fd F => fnokX F sc fun cdv A outer s H E hr => have hr1 := hr; ⟨_, (pss_cons (ps_if (PW.pt (pw_or (pt_not (pt_chain op_le op_le pe_int (pe_callB (r := rLen K) call_lenK (by rfl) B.len_ (by decide +kernel) (pa_cons (pv 1) pa_nil)) pe_int)) (pw_or1 (pt_not (pt_val (pe_callC C_all_names hr1 rfl (pa_cons (pv 1) pa_nil))))))) (pss_one (ps_ret pe_str)) pss_nil)
      (pss_cons (ps_set (i := 2) sc.nd rfl (Or.inl rfl) (pe_callC C_first_due hr1 rfl (pa_cons (pe_cmp (pc_din (hu_of hr) (pe_ix (r := rIxL K) ix_list (pv 1) pe_int (fun _ _ => rfl)) (pe_fldK (K := K) rfl (pv 0) rfl))) (pa_cons (pe_callC C_lacking hr1 rfl (pa_cons (pe_slice (r := rSlL K) sl_list (pv 1) (po_some pe_int) po_none) (pa_cons (pe_fldK (K := K) rfl (pv 0) rfl) pa_nil))) (pa_cons (pe_cmpR op_ge (pe_callB (r := rLenD) call_lenDK (by rfl) B.len_ (by decide +kernel) (pa_cons (pe_fldK (K := K) rfl (pv 0) rfl) pa_nil)) pe_int (nomark _)) pa_nil)))))
      (pss_cons (ps_if (pt_cmpR op_eq (pv 2) pe_str (nomark _)) (pss_one (ps_dput (hu_of hr) (pe_fldK (K := K) rfl (pv 0) rfl) (pe_ix (r := rIxL K) ix_list (pv 1) pe_int (fun _ _ => rfl)) (pe_callTy (r := rTupOf K) call_tupOf (by rfl) B.tuple_ (by decide +kernel) (pa_cons (pe_slice (r := rSlL K) sl_list (pv 1) (po_some pe_int) po_none) pa_nil)) rfl)) pss_nil)
      (pss_one (ps_ret (pv 2)))))), fun G as post D hl sm hp hq hx => ?_⟩) (fun _ _ _ _ _ _ us hl => match us, hl with | [_, _], _ => rfl)
  obtain ⟨a, t, ws, rfl, ha, hw, hz, rfl⟩ := hp
  have ok : Cok (CH cl a t a.S G H) := CH.ok
  have hh : ∀ G1 H1, CH cl a t a.S G H G1 H1 → HallAt cl a t G1 H1 := CH.hall
  refine fun σ sl => (?_ : Run _ (CH cl a t a.S G H) _ D) G σ H ⟨Stp.refl sm, ha⟩ sl
  have rt : ∀ f, classRow t ws = (f, t) → Rt D (CH cl a t a.S G H) (.str f) := fun f e v G1 H1 k r => hq v G1 H1 _ ⟨by rw [e]; exact k, by rw [e]⟩ r
  match ws, hw, rt, hq, sl with
  | [], hw, rt, hq, sl => exact run_when (b := true) ok (et_orT (EvT.is (by walk_at "ev") (by decide))) (fun _ => run_ret ok (ev_str ok) rfl (rt _ rfl)) (fun e => by cases e)
  | n :: fs, hw, rt, hq, sl =>
    have h0 : atI (tx (n :: fs)) 0 = some (.str n) := at_nat (k := 0) rfl
    have hfl : (n :: fs).length ≤ 1000001 := by omega
    have e0 : classRow t (n :: fs) = if (decide (1 ≤ fs.length) && decide (fs.length ≤ 20)) && (n :: fs).all isName then fin t (firstDue (hasS t.classesK n) (fs.any fun x => !hasS t.shapesK x) (decide (20 ≤ t.classes.length))) { t with classes := t.classes ++ [(n, fs)] } else ("row", t) := rfl
    have d3 : ∀ {ds : List (Option Dt)}, ds[1]? = some (some (.lst (tx (n :: fs)))) → EvD (tSl (rSlL K) (tVar 1) (tPart (tC (.int 1))) tNoPart) (CH cl a t a.S G H) ds (.lst (tx fs)) := fun h => ev_drop 1 ok (ev_var ok h)
    have l2 : (decide ((2 : Int) ≤ ((tx (n :: fs)).length : Nat)) && decide ((((tx (n :: fs)).length : Nat) : Int) ≤ 21)) = (decide (1 ≤ fs.length) && decide (fs.length ≤ 20)) := by
      congr 1
      · refine decide_eq_decide.mpr ?_; simp only [List.length_map, List.length_cons]; omega
      · refine decide_eq_decide.mpr ?_; simp only [List.length_map, List.length_cons]; omega
    cases hb : (decide (1 ≤ fs.length) && decide (fs.length ≤ 20)) && (n :: fs).all isName with
    | false =>
      rw [hb, if_neg Bool.false_ne_true] at e0
      refine run_when (b := true) ok (EvT.is (by walk_at "ev") ?_) (fun _ => run_ret ok (ev_str ok) rfl (rt _ e0)) (fun e => by cases e)
      rw [l2]
      cases h1 : (decide (1 ≤ fs.length) && decide (fs.length ≤ 20)) <;> cases h2 : (n :: fs).all isName <;> first | rfl | (rw [h1, h2] at hb; cases hb)
    | true =>
      rw [hb, if_pos rfl] at e0
      obtain ⟨hb5, hb6⟩ := (Bool.and_eq_true _ _).mp hb
      refine run_when (b := false) ok (EvT.is (by walk_at "ev") (by rw [l2, hb5, hb6]; rfl)) (fun e => by cases e) (fun _ => ?_)
      generalize hf : firstDue (hasS t.classesK n) (fs.any fun x => !hasS t.shapesK x) (decide (20 ≤ t.classes.length)) = f at e0
      refine run_set (d := .str f) ok (EvD.is (ev_call ok (ea_cons ok (by walk_at "ev") (ea_cons ok (ev_lacking ok (ea_cons ok (d3 rfl) (ea_cons ok (by walk_at "ev") (ea_nil ok))) (hall_s hh)) (ea_cons ok (by walk_at "ev") (ea_nil ok)))) rfl (fun _ _ _ => ⟨_, _, _, rfl, rfl⟩)) (by rw [← hf, dec_le 20, Told.classesK, List.length_map])) ?_
      refine run_seq (run_if ok (by walk_at "ev") (fun e => ?_) (fun e => ?_))
      · have e1 : f = "" := of_decide_eq_true e
        subst e1
        obtain ⟨g1, g2, g3⟩ := firstDue_nil.mp hf
        refine run_dputK ok (by walk_at "ev") (by walk_at "ev") (d := .tup (tx fs)) (ev_cb ok (ea_cons ok (d3 rfl) (ea_nil ok)) (rc_tupOf ok)) (hall_c hh) (by simp only [Told.size, Told.marksK, Told.pointsK, Told.lettersK, Told.classesK, Told.featuresK, Told.rulesD, tx, List.length_map] at *; show _ < 16000000; omega) g1 ?_
        intro G1 σ1 H1 k1 s1 H2 kd st
        exact (run_ret CH.ok (ev_var CH.ok rfl) rfl (fun v G3 H3 k3 r3 => hq v G3 H3 _ ⟨by rw [e0]; exact k3, by rw [e0]; rfl⟩ r3) : Run _ (CH cl a { t with classes := t.classes ++ [(n, fs)] } a.S G H) _ D) G1 σ1 H2 ⟨k1.1.trans (st.mono fun b hb => hb ▸ by simp [HA.S, HA.list]), k1.2.set_classes st (by first | exact kd | simpa [Told.marksK, Told.pointsK, Told.lettersK, Told.classesK, Told.featuresK, Told.rulesD, tx] using kd)⟩ s1
      · have e1 : f ≠ "" := of_decide_eq_false e
        unfold fin at e0
        rw [if_neg e1] at e0
        exact run_ret ok (ev_var ok rfl) rfl (rt _ e0)

abbrev s_feature_row : Stmt := top 28
abbrev N_feature_row : List Str := ["hall", "words", "fault"]
abbrev P_feature_row : List Str := ["hall", "words"]
theorem sc_feature_row : FnScope N_feature_row P_feature_row (defScope s_feature_row) := ⟨rfl, rfl, rfl, by decide +kernel, rfl, by decide +kernel, by decide +kernel⟩

theorem cal_feature_row (B : Blt mg) (HK : HallK K cl) (D : Dfn K mg "feature_row" s_feature_row) (C_is_name : Cal P w K mg base "is_name" 1 P_is_name spIsName) (C_first_due : Cal P w K mg base "first_due" 1 P_first_due spFirstDue) :
    Cal P w K mg base "feature_row" 2 P_feature_row (SpRow cl featureRow) := by
  have sc := sc_feature_row
  refine cal_of D (fun f fd F => fnokX F sc fun cdv A outer s H E hr => have hr1 := hr; ⟨_, (pss_cons (ps_if (PW.pt (pw_or (pt_cmpR op_ne (pe_callB (r := rLen K) call_lenK (by rfl) B.len_ (by decide +kernel) (pa_cons (pv 1) pa_nil)) pe_int (nomark _)) (pw_or (pt_not (pt_val (pe_callC C_is_name hr1 rfl (pa_cons (pe_ix (r := rIxL K) ix_list (pv 1) pe_int (fun _ _ => rfl)) pa_nil)))) (pw_or1 (pt_cmpR (r := rIn K true) op_notIn_seq (pe_ix (r := rIxL K) ix_list (pv 1) pe_int (fun _ _ => rfl)) (pe_tup (pa_cons pe_str (pa_cons pe_str pa_nil))) rfl))))) (pss_one (ps_ret pe_str)) pss_nil)
      (pss_cons (ps_set (i := 2) sc.nd rfl (Or.inl rfl) (pe_callC C_first_due hr1 rfl (pa_cons (pe_cmp (pc_din (hu_of hr) (pe_ix (r := rIxL K) ix_list (pv 1) pe_int (fun _ _ => rfl)) (pe_fldK (K := K) rfl (pv 0) rfl))) (pa_cons pe_bl (pa_cons (pe_cmpR op_ge (pe_callB (r := rLenD) call_lenDK (by rfl) B.len_ (by decide +kernel) (pa_cons (pe_fldK (K := K) rfl (pv 0) rfl) pa_nil)) pe_int (nomark _)) pa_nil)))))
      (pss_cons (ps_if (pt_cmpR op_eq (pv 2) pe_str (nomark _)) (pss_one (ps_dput (hu_of hr) (pe_fldK (K := K) rfl (pv 0) rfl) (pe_ix (r := rIxL K) ix_list (pv 1) pe_int (fun _ _ => rfl)) (pe_cmpR op_eq (pe_ix (r := rIxL K) ix_list (pv 1) pe_int (fun _ _ => rfl)) pe_str (nomark _)) rfl)) pss_nil)
      (pss_one (ps_ret (pv 2)))))), fun G as post D hl sm hp hq hx => ?_⟩) (fun _ _ _ _ _ _ us hl => match us, hl with | [_, _], _ => rfl)
  obtain ⟨a, t, ws, rfl, ha, hw, hz, rfl⟩ := hp
  have ok : Cok (CH cl a t a.S G H) := CH.ok
  have hh : ∀ G1 H1, CH cl a t a.S G H G1 H1 → HallAt cl a t G1 H1 := CH.hall
  refine fun σ sl => (?_ : Run _ (CH cl a t a.S G H) _ D) G σ H ⟨Stp.refl sm, ha⟩ sl
  have rt : ∀ f, featureRow t ws = (f, t) → Rt D (CH cl a t a.S G H) (.str f) := fun f e v G1 H1 k r => hq v G1 H1 _ ⟨by rw [e]; exact k, by rw [e]⟩ r
  by_cases h2 : ws.length = 2
  · obtain ⟨n, s', rfl⟩ := len2 h2
    have h0 : atI (tx [n, s']) 0 = some (.str n) := rfl
    have h1 : atI (tx [n, s']) 1 = some (.str s') := rfl
    have e0 : featureRow t [n, s'] = if isName n && isOn s' then fin t (firstDue (hasS t.featuresK n) false (decide (10 ≤ t.features.length))) { t with features := t.features ++ [(n, decide (s' = "on"))] } else ("row", t) := rfl
    cases hb : isName n && isOn s' with
    | false =>
      rw [hb, if_neg Bool.false_ne_true] at e0
      refine run_when (b := true) ok (EvT.is (by walk_at "ev") ?_) (fun _ => run_ret ok (ev_str ok) rfl (rt _ e0)) (fun e => by cases e)
      unfold isOn at hb
      cases h1 : isName n <;> simp_all [tx]
    | true =>
      rw [hb, if_pos rfl] at e0
      obtain ⟨hb1, hb2⟩ := (Bool.and_eq_true _ _).mp hb
      refine run_when (b := false) ok (EvT.is (by walk_at "ev") ?_) (fun e => by cases e) (fun _ => ?_)
      · unfold isOn at hb2
        rw [hb1, hb2]; rfl
      generalize hf : firstDue (hasS t.featuresK n) false (decide (10 ≤ t.features.length)) = f at e0
      refine run_set (d := .str f) ok (EvD.is (by walk_at "ev") (by rw [← hf, dec_le 10, Told.featuresK, List.length_map])) ?_
      refine run_seq (run_if ok (by walk_at "ev") (fun e => ?_) (fun e => ?_))
      · have e1 : f = "" := of_decide_eq_true e
        subst e1
        obtain ⟨g1, g2, g3⟩ := firstDue_nil.mp hf
        refine run_dputK ok (by walk_at "ev") (by walk_at "ev") (d := .bl (decide (s' = "on"))) (by walk_at "ev") (hall_f hh) (by simp only [Told.size, Told.marksK, Told.pointsK, Told.lettersK, Told.classesK, Told.featuresK, Told.rulesD, tx, List.length_map] at *; show _ < 16000000; omega) g1 ?_
        intro G1 σ1 H1 k1 s1 H2 kd st
        exact (run_ret CH.ok (ev_var CH.ok rfl) rfl (fun v G3 H3 k3 r3 => hq v G3 H3 _ ⟨by rw [e0]; exact k3, by rw [e0]; rfl⟩ r3) : Run _ (CH cl a { t with features := t.features ++ [(n, decide (s' = "on"))] } a.S G H) _ D) G1 σ1 H2 ⟨k1.1.trans (st.mono fun b hb => hb ▸ by simp [HA.S, HA.list]), k1.2.set_features st (by first | exact kd | simpa [Told.marksK, Told.pointsK, Told.lettersK, Told.classesK, Told.featuresK, Told.rulesD, tx] using kd)⟩ s1
      · have e1 : f ≠ "" := of_decide_eq_false e
        unfold fin at e0
        rw [if_neg e1] at e0
        exact run_ret ok (ev_var ok rfl) rfl (rt _ e0)
  · have e2 : featureRow t ws = (("row" : Str), t) := by
      unfold featureRow; split
      · exact absurd rfl h2
      · rfl
    refine run_when (b := true) ok (et_orT (EvT.is (by walk_at "ev") (by simp; omega))) (fun _ => run_ret ok (ev_str ok) rfl (rt _ e2)) (fun e => by cases e)
end
end Kx

namespace Kx
open PySem L2
def ruleRow (t : Told) : List Str → Str × Told
  | n :: f :: rest => if isName n && isName f then (match rulePartsOf rest with
    | some (a, b, c, d) => fin t (firstDue (decide (n ∈ t.rules.map (·.1))) ((!hasS t.featuresK f || d.any fun x => !hasS t.shapesK x) || (a ++ b ++ c).any (itemLacks t)) (decide (30 ≤ t.rules.length))) { t with rules := t.rules ++ [(n, f, (a, b, c, d))] }
    | none => ("row", t)) else ("row", t)
  | _ => ("row", t)
/-- a row by its first word -/
def hallRow (t : Told) (h : Str) (ws : List Str) : Str × Told :=
  if h = "shape" then shapeRow t ws else if h = "mark" then markRow t ws else if h = "point" then pointRow t ws else if h = "letter" then letterRow t ws
  else if h = "gap" then gapRow t ws else if h = "class" then classRow t ws else if h = "feature" then featureRow t ws else if h = "rule" then ruleRow t ws else ("row", t)
section
variable {C C' : Hp → Hp → Prop} {ds : List (Option Dt)} {K : PySem.W.Frag} {tl : TA} {u : TS} {D : Ends} {as : List Dt} {d : Dt} {n : Nat} {pre : Hp → Hp → List Dt → (Hp → Hp → Dt → Prop) → Prop} {E : XK}
theorem run_retX (ok : Cok C) (ha : EvA tl C ds as) (hn : as.length = n) (hp : ∀ G H, C G H → ∃ post, pre G H as post ∧ ∀ v G' H' r, post G' H' r → Rep G' v r → D.rt v H') : Run (tRet (tCall (SpX n pre) [] E tl)) C ds D := fun G σ H k s =>
  ha G σ H k s _ fun vs G1 H1 p1 r1 => by
    obtain ⟨post, h1, h2⟩ := hp G1 H1 (ok.stp k p1)
    exact ⟨G1, as, post, p1.gh, by rw [List.append_nil]; exact r1, hn, h1, fun v G' H' r po re => h2 v G' H' r po re⟩
theorem run_setX {i : Nat} (ok : Cok C) (ha : EvA tl C ds as) (hn : as.length = n) (hp : ∀ G H, C G H → ∃ post, pre G H as post ∧ ∀ G' H' r, post G' H' r → Same G G' ∧ C' G' H' ∧ r = d) (q : Run u C' (ds.set i (some d)) D) : Run (tSeq (tAsg (tCall (SpX n pre) [] E tl) (gName i)) u) C ds D := fun G σ H k s =>
  ha G σ H k s _ fun vs G1 H1 p1 r1 => by
    obtain ⟨post, h1, h2⟩ := hp G1 H1 (ok.stp k p1)
    exact ⟨G1, as, post, p1.gh, by rw [List.append_nil]; exact r1, hn, h1, fun v G' H' r po re => by
      obtain ⟨h3, h4, rfl⟩ := h2 G' H' r po
      exact q G' _ H' h4 (((s.mono p1.gg).mono h3).set re i)⟩
end
theorem run_nx {C : Hp → Hp → Prop} {ds : List (Option Dt)} {t : TS} {D : Ends} (h : Run t C ds D) : Run tNext C ds { D with nx := t D } := h
theorem item_ne {x : Str} (h : isItem x = true) : tl x ≠ [] := fun e => by
  unfold isItem at h
  rw [e] at h
  have hx : x = "" := ext_tl e
  subst hx
  revert h; decide +kernel
section
variable {P : Program} {w : World} {K : PySem.W.Frag} {mg : Str → Option Value} {base : Heap} {cl : Addr}
local macro_rules | `(tactic| walk_at "ev") => `(tactic| with_reducible first
  | (show EvD _ _ _ _; first
    | exact ev_var (by assumption) rfl
    | exact ev_int (by assumption)
    | exact ev_str (by assumption)
    | exact ev_non (by assumption)
    | exact ev_bl (by assumption)
    | (refine' ev_call (by assumption) ?_ ?_ ?_ <;> (try walk_at "ev"))
    | (refine' ev_op (by assumption) ?_ ?_ ?_ <;> (try walk_at "ev"))
    | (refine' ev_un (by assumption) ?_ rfl <;> (try walk_at "ev"))
    | (refine' ev_andV (by assumption) ?_ (fun _ => ?_) <;> (try walk_at "ev"))
    | (refine' ev_orV (by assumption) ?_ (fun _ => ?_) <;> (try walk_at "ev"))
    | (refine' ev_notV (by assumption) ?_ <;> (try walk_at "ev"))
    | (refine' ev_chain (by assumption) ?_ ?_ ?_ ?_ ?_ <;> (try walk_at "ev"))
    | (refine' ev_cb (by assumption) ?_ ?_ <;> (try walk_at "ev"))
    | (refine' ev_bm (by assumption) ?_ ?_ ?_ <;> (try walk_at "ev"))
    | (refine' ev_m1 (by assumption) ?_ ?_ ?_ <;> (try walk_at "ev"))
    | (refine' ev_sliceS (by assumption) ?_ ?_ ?_ <;> (try walk_at "ev"))
    | (refine' ev_slice (by assumption) ?_ ?_ ?_ <;> (try walk_at "ev"))
    | (refine' ev_tup (by assumption) ?_ ?_ <;> (try walk_at "ev"))
    | (refine' ev_lst (by assumption) ?_ ?_ <;> (try walk_at "ev"))
    | exact ev_h_shapes (by assumption) (by assumption) (by assumption) (ev_var (by assumption) rfl)
    | exact ev_h_marks (by assumption) (by assumption) (by assumption) (ev_var (by assumption) rfl)
    | exact ev_h_points (by assumption) (by assumption) (by assumption) (ev_var (by assumption) rfl)
    | exact ev_h_letters (by assumption) (by assumption) (by assumption) (ev_var (by assumption) rfl)
    | exact ev_h_gaps (by assumption) (by assumption) (by assumption) (ev_var (by assumption) rfl)
    | exact ev_h_classes (by assumption) (by assumption) (by assumption) (ev_var (by assumption) rfl)
    | exact ev_h_features (by assumption) (by assumption) (by assumption) (ev_var (by assumption) rfl)
    | exact ev_h_rules (by assumption) (by assumption) (by assumption) (ev_var (by assumption) rfl)
    | (refine' ev_dinK (by assumption) ?_ ?_ ?_ <;> (try walk_at "ev"))
    | (refine' ev_dniK (by assumption) ?_ ?_ ?_ <;> (try walk_at "ev"))
    | (refine' ev_dinT (by assumption) ?_ ?_ ?_ <;> (try walk_at "ev")))
  | (show EvA _ _ _ _; first
    | exact ea_nil (by assumption)
    | (refine' ea_cons (by assumption) ?_ ?_ <;> (try walk_at "ev")))
  | (show RV _ _ _ _ _; first
    | exact rv_int (by assumption)
    | exact rv_cmp (by assumption)
    | exact rv_eq (by assumption) rfl
    | exact rv_ne (by assumption) rfl
    | exact rv_isN (by assumption) rfl
    | exact rv_notN (by assumption) rfl
    | exact rv_inT (by assumption) (.inl rfl)
    | exact rv_inT (by assumption) (.inr rfl)
    | exact rv_niT (by assumption) (.inl rfl)
    | exact rv_niT (by assumption) (.inr rfl)
    | exact rv_inS (by assumption)
    | exact rv_niS (by assumption)
    | exact rv_ixS (by assumption) (by assumption)
    | exact rv_ixL (by assumption) (by assumption)
    | exact rv_ixT (by assumption) (by assumption)
    | exact rv_ixT (by assumption) rfl
    | exact rv_ixL (by assumption) rfl
    | (refine' rv_inM (by assumption) ?_ <;> (try walk_at "ev"))
    | (refine' rv_niM (by assumption) ?_ <;> (try walk_at "ev"))
    | (refine' rv_inX (by assumption) ?_ (.inl rfl) <;> (try walk_at "ev"))
    | (refine' rv_inX (by assumption) ?_ (.inr rfl) <;> (try walk_at "ev"))
    | (refine' rv_niX (by assumption) ?_ (.inl rfl) <;> (try walk_at "ev"))
    | (refine' rv_niX (by assumption) ?_ (.inr rfl) <;> (try walk_at "ev"))
    | exact rv_in (neg := false) (by assumption) rfl rfl (.inr rfl)
    | exact rv_in (neg := true) (by assumption) rfl rfl (.inr rfl)
    | exact rv_intC (g := fun i j => i % j) (by assumption) (by decide)
    | exact rv_intC (g := fun i j => i / j) (by assumption) (cdiv_ok (by decide)))
  | (show EvT _ _ _ _; first
    | exact et_yes (by assumption)
    | (refine' et_and (by assumption) ?_ (fun _ => ?_) <;> (try walk_at "ev"))
    | (refine' et_or (by assumption) ?_ (fun _ => ?_) <;> (try walk_at "ev"))
    | (refine' et_not ?_ <;> (try walk_at "ev"))
    | (refine' et_test ?_ <;> (try walk_at "ev"))
    | (refine' et_B ?_ <;> (try walk_at "ev")))
  | (show RC _ _ _ _; first
    | exact rc_lenL (by assumption)
    | exact rc_lenT (by assumption)
    | exact rc_lenS (by assumption)
    | exact rc_all (by assumption)
    | exact rc_intB (by assumption)
    | exact rc_strS (by assumption)
    | exact rc_listOf (by assumption) (.inl rfl)
    | exact rc_listOf (by assumption) (.inr rfl)
    | exact rc_tupOf (by assumption)
    | (refine' rc_lenD (by assumption) ?_ <;> (try walk_at "ev"))
    | (refine' rc_lenM (by assumption) ?_ <;> (try walk_at "ev")))
  | (show RM _ _ _ _ _; first
    | exact rm_strip' (by assumption))
  | (show EvO _ _ _ _; first
    | exact eo_none (by assumption)
    | (refine' eo_some ?_ <;> (try walk_at "ev")))
  | (show List.length _ ≤ Lim; with_unfolding_all exact Nat.le_of_ble_eq_true rfl)
  | (show List.length _ = _; with_unfolding_all rfl)
  | exact (fun _ _ _ => ⟨_, rfl, rfl⟩)
  | exact (fun _ _ _ => ⟨_, _, rfl, rfl⟩)
  | exact (fun _ _ _ => ⟨_, _, _, rfl, rfl⟩)
  | exact (fun _ _ _ => ⟨_, rfl, by assumption, rfl⟩)
  | exact hall_s (by assumption)
  | exact hall_m (by assumption)
  | exact hall_p (by assumption)
  | exact hall_l (by assumption)
  | exact hall_g (by assumption)
  | exact hall_c (by assumption)
  | exact hall_f (by assumption)
  | exact hall_r (by assumption)
  | exact TxL.of _
  | exact TxL.nil
  | (refine' TxL.cons ?_ <;> (try walk_at "ev")))


abbrev s_rule_row : Stmt := top 32
abbrev N_rule_row : List Str := ["hall", "words", "parts", "lacks", "item", "twice", "fault", "rule", "part"]
abbrev P_rule_row : List Str := ["hall", "words"]
theorem sc_rule_row : FnScope N_rule_row P_rule_row (defScope s_rule_row) := ⟨rfl, rfl, rfl, by decide +kernel, rfl, by decide +kernel, by decide +kernel⟩

theorem cal_rule_row (B : Blt mg) (HK : HallK K cl) (D : Dfn K mg "rule_row" s_rule_row) (C_all_names : Cal P w K mg base "all_names" 2 P_all_names spAllNames) (C_rule_parts : Cal P w K mg base "rule_parts" 3 P_rule_parts spRuleParts) (C_lacking : Cal P w K mg base "lacking" 1 P_lacking spLacking) (C_item_lacks : Cal P w K mg base "item_lacks" 1 P_item_lacks (spItemLacks cl)) (C_first_due : Cal P w K mg base "first_due" 1 P_first_due spFirstDue) :
    Cal P w K mg base "rule_row" 4 P_rule_row (SpRow cl ruleRow) := by
  have sc := sc_rule_row
  replace C_all_names := C_all_names.mono (k := 3) (by decide)
  replace C_lacking := C_lacking.mono (k := 3) (by decide)
  replace C_item_lacks := C_item_lacks.mono (k := 3) (by decide)
  replace C_first_due := C_first_due.mono (k := 3) (by decide)
  refine cal_of D (fun f fd F => fnokX F sc fun cdv A outer s H E hr => have hr1 := hr; ⟨_, (pss_cons (ps_if (PW.pt (pw_or (pt_cmpR op_lt (pe_callB (r := rLen K) call_lenK (by rfl) B.len_ (by decide +kernel) (pa_cons (pv 1) pa_nil)) pe_int (nomark _)) (pw_or1 (pt_not (pt_val (pe_callC C_all_names hr1 rfl (pa_cons (pe_slice (r := rSlL K) sl_list (pv 1) po_none (po_some pe_int)) pa_nil))))))) (pss_one (ps_ret pe_str)) pss_nil)
      (pss_cons (ps_set (i := 2) sc.nd rfl (Or.inl rfl) (pe_callC C_rule_parts hr1 rfl (pa_cons (pe_slice (r := rSlL K) sl_list (pv 1) (po_some pe_int) po_none) pa_nil)))
      (pss_cons (ps_if (pt_cmpR op_isN1 (pv 2) pe_non (nomark _)) (pss_one (ps_ret pe_str)) pss_nil)
      (pss_cons (ps_set (i := 3) sc.nd rfl (Or.inl rfl) (pe_or (pe_cmp (pc_dnotin (hu_of hr) (pe_ix (r := rIxL K) ix_list (pv 1) pe_int (fun _ _ => rfl)) (pe_fldK (K := K) rfl (pv 0) rfl))) (pe_one (pe_callC C_lacking hr1 rfl (pa_cons (pe_ix (r := rIxL K) ix_list (pv 2) pe_int (fun _ _ => rfl)) (pa_cons (pe_fldK (K := K) rfl (pv 0) rfl) pa_nil))))))
      (pss_cons (ps_for PassesOwn.never rfl (pi_list (pe_op op_cat (pe_op op_cat (pe_ix (r := rIxL K) ix_list (pv 2) pe_int (fun _ _ => rfl)) (pe_ix (r := rIxL K) ix_list (pv 2) pe_int (fun _ _ => rfl))) (pe_ix (r := rIxL K) ix_list (pv 2) pe_int (fun _ _ => rfl)))) (pg_name (i := 4) sc.nd rfl (Or.inl rfl)) (pss_one (ps_set (i := 3) sc.nd rfl (Or.inl rfl) (pe_or (pv 3) (pe_one (pe_callC C_item_lacks hr1 rfl (pa_cons (pv 0) (pa_cons (pv 4) pa_nil))))))))
      (pss_cons (ps_set (i := 5) sc.nd rfl (Or.inl rfl) (pe_cmpR (r := rIn K false) op_in_seq (pe_ix (r := rIxL K) ix_list (pv 1) pe_int (fun _ _ => rfl)) (pe_lc (own := [("rule", 7)]) (by rfl) sc.nd (pi_list (pe_fldK (K := K) rfl (pv 0) rfl)) (blkOk_by (N := N_rule_row) (sc := defScope s_rule_row) (by decide +kernel)) (fun _ _ _ _ _ => (pg_name (i := 7) sc.nd rfl (Or.inl rfl))) (fun _ _ _ _ _ => pts_nil) (fun _ _ _ _ _ => (pe_ix (r := rIxT K) ix_tup (pv 7) pe_int (fun _ _ => rfl)))) rfl))
      (pss_cons (ps_set (i := 6) sc.nd rfl (Or.inl rfl) (pe_callC C_first_due hr1 rfl (pa_cons (pv 5) (pa_cons (pv 3) (pa_cons (pe_cmpR op_ge (pe_callB (r := rLen K) call_lenK (by rfl) B.len_ (by decide +kernel) (pa_cons (pe_fldK (K := K) rfl (pv 0) rfl) pa_nil)) pe_int (nomark _)) pa_nil)))))
      (pss_cons (ps_if (pt_cmpR op_eq (pv 6) pe_str (nomark _)) (pss_one (ps_expr (pe_bm PySem.F.plainAttrs_list PySem.F.slot_list_append PySem.F.type_list_append mt_append (pe_fldK (K := K) rfl (pv 0) rfl) (pa_cons (pe_op (r := rCatT K) op_catT (pe_tup (pa_cons (pe_ix (r := rIxL K) ix_list (pv 1) pe_int (fun _ _ => rfl)) (pa_cons (pe_ix (r := rIxL K) ix_list (pv 1) pe_int (fun _ _ => rfl)) pa_nil))) (pe_callTy (r := rTupOf K) call_tupOf (by rfl) B.tuple_ (by decide +kernel) (pa_cons (pe_lc (own := [("part", 8)]) (by rfl) sc.nd (pi_list (pv 2)) (blkOk_by (N := N_rule_row) (sc := defScope s_rule_row) (by decide +kernel)) (fun _ _ _ _ _ => (pg_name (i := 8) sc.nd rfl (Or.inl rfl))) (fun _ _ _ _ _ => pts_nil) (fun _ _ _ _ _ => (pe_callTy (r := rTupOf K) call_tupOf (by rfl) B.tuple_ (by decide +kernel) (pa_cons (pv 8) pa_nil)))) pa_nil))) pa_nil)))) pss_nil)
      (pss_one (ps_ret (pv 6))))))))))), fun G as post D hl sm hp hq hx => ?_⟩) (fun _ _ _ _ _ _ us hl => match us, hl with | [_, _], _ => rfl)
  obtain ⟨a', t, ws, rfl, ha, hw, hz, rfl⟩ := hp
  have ok : Cok (CH cl a' t a'.S G H) := CH.ok
  have hh : ∀ G1 H1, CH cl a' t a'.S G H G1 H1 → HallAt cl a' t G1 H1 := CH.hall
  refine fun σ sl => (?_ : Run _ (CH cl a' t a'.S G H) _ D) G σ H ⟨Stp.refl sm, ha⟩ sl
  have rt : ∀ f, ruleRow t ws = (f, t) → Rt D (CH cl a' t a'.S G H) (.str f) := fun f e v G1 H1 k r => hq v G1 H1 _ ⟨by rw [e]; exact k, by rw [e]⟩ r
  match ws, hw, rt, hq, sl with
  | [], hw, rt, hq, sl => exact run_when (b := true) ok (et_orT (EvT.is (by walk_at "ev") (by decide))) (fun _ => run_ret ok (ev_str ok) rfl (rt _ rfl)) (fun e => by cases e)
  | [_], hw, rt, hq, sl => exact run_when (b := true) ok (et_orT (EvT.is (by walk_at "ev") (by rfl))) (fun _ => run_ret ok (ev_str ok) rfl (rt _ rfl)) (fun e => by cases e)
  | n :: f' :: rest, hw, rt, hq, sl =>
    have h0 : atI (tx (n :: f' :: rest)) 0 = some (.str n) := at_nat (k := 0) rfl
    have h1 : atI (tx (n :: f' :: rest)) 1 = some (.str f') := at_nat (k := 1) rfl
    have hfl : rest.length ≤ 1000001 := by simp only [List.length_cons] at hw; omega
    have l1 : decide ((((tx (n :: f' :: rest)).length : Nat) : Int) < 2) = false := by
      refine decide_eq_false ?_; simp only [List.length_map, List.length_cons]; omega
    have an : EvD (tCall spAllNames [] E0 (tCons (tSl (rSlL K) (tVar 1) tNoPart (tPart (tC (.int 2)))) tNil)) (CH cl a' t a'.S G H) (slots0 [.obj a'.x, .lst (tx (n :: f' :: rest))] (N_rule_row.length - P_rule_row.length)) (.bl ([n, f'].all isName)) :=
      ev_call ok (ea_cons ok (ev_upto 2 ok (by walk_at "ev")) (ea_nil ok)) rfl (fun _ _ _ => ⟨[n, f'], rfl, Nat.le_of_ble_eq_true rfl, rfl⟩)
    have an2 : [n, f'].all isName = (isName n && isName f') := by simp
    have e0 : ruleRow t (n :: f' :: rest) = if isName n && isName f' then (match rulePartsOf rest with
      | some (a, b, c, d) => fin t (firstDue (decide (n ∈ t.rules.map (·.1))) ((!hasS t.featuresK f' || d.any fun x => !hasS t.shapesK x) || (a ++ b ++ c).any (itemLacks t)) (decide (30 ≤ t.rules.length))) { t with rules := t.rules ++ [(n, f', (a, b, c, d))] }
      | none => (("row" : Str), t)) else (("row" : Str), t) := rfl
    cases hb : isName n && isName f' with
    | false =>
      rw [hb, if_neg Bool.false_ne_true] at e0
      exact run_when (b := true) ok (EvT.is (et_or ok (by walk_at "ev") (fun _ => et_not (et_B an))) (by rw [l1, an2, hb]; rfl)) (fun _ => run_ret ok (ev_str ok) rfl (rt _ e0)) (fun e => by cases e)
    | true =>
    rw [hb, if_pos rfl] at e0
    refine run_when (b := false) ok (EvT.is (et_or ok (by walk_at "ev") (fun _ => et_not (et_B an))) (by rw [l1, an2, hb]; rfl)) (fun e => by cases e) (fun _ => ?_)
    refine run_set (d := partsD (rulePartsOf rest)) ok (ev_call ok (ea_cons ok (ev_drop 2 ok (by walk_at "ev")) (ea_nil ok)) rfl (fun _ _ _ => ⟨rest, rfl, hfl, rfl⟩)) ?_
    cases hrp : rulePartsOf rest with
    | none =>
      rw [hrp] at e0
      exact run_when (b := true) ok (EvT.is (et_test (ev_op ok (ev_var ok rfl) (ev_non ok) (rv_isN ok rfl))) rfl) (fun _ => run_ret ok (ev_str ok) rfl (rt _ e0)) (fun e => by cases e)
    | some q =>
    obtain ⟨a, b, c, d⟩ := q
    rw [hrp] at e0
    have h4 : ok4 a b c d = true := by
      unfold rulePartsOf at hrp
      split at hrp
      · split at hrp
        · rename_i h; cases hrp; exact h
        · cases hrp
      · cases hrp
    have h4b := h4
    unfold ok4 at h4
    simp only [Bool.and_eq_true, decide_eq_true_eq] at h4
    have hdl : d.length ≤ 1000001 := by omega
    replace e0 : ruleRow t (n :: f' :: rest) = fin t (firstDue (decide (n ∈ t.rules.map (·.1))) ((!hasS t.featuresK f' || d.any fun x => !hasS t.shapesK x) || (a ++ b ++ c).any (itemLacks t)) (decide (30 ≤ t.rules.length))) { t with rules := t.rules ++ [(n, f', (a, b, c, d))] } := e0
    rw [show partsD (some (a, b, c, d)) = .lst [Dt.lst (tx a), .lst (tx b), .lst (tx c), .lst (tx d)] from rfl]
    have ha0 : atI [Dt.lst (tx a), .lst (tx b), .lst (tx c), .lst (tx d)] 0 = some (.lst (tx a)) := rfl
    have hb0 : atI [Dt.lst (tx a), .lst (tx b), .lst (tx c), .lst (tx d)] 1 = some (.lst (tx b)) := rfl
    have hc0 : atI [Dt.lst (tx a), .lst (tx b), .lst (tx c), .lst (tx d)] 2 = some (.lst (tx c)) := rfl
    have hd0 : atI [Dt.lst (tx a), .lst (tx b), .lst (tx c), .lst (tx d)] 3 = some (.lst (tx d)) := rfl
    refine run_when (b := false) ok (EvT.is (by walk_at "ev") rfl) (fun e => by cases e) (fun _ => ?_)
    refine run_set (d := .bl (!hasS t.featuresK f' || d.any fun x => !hasS t.shapesK x)) ok (ev_orV ok (by walk_at "ev") (fun _ => ev_lacking ok (ea_cons ok (by walk_at "ev") (ea_cons ok (by walk_at "ev") (ea_nil ok))) (hall_s hh))) ?_
    refine run_seq (run_for (S := No) (a ++ b ++ c) Dt.str (fun y => [(4, .str y)]) (fun _ => CH cl a' t a'.S G H) (fun i => [some (.obj a'.x), some (.lst (tx (n :: f' :: rest))), some (.lst [Dt.lst (tx a), .lst (tx b), .lst (tx c), .lst (tx d)]), some (.bl ((!hasS t.featuresK f' || d.any fun x => !hasS t.shapesK x) || ((a ++ b ++ c).take i).any (itemLacks t))), none, none, none, none, none]) ok (fun _ => ok)
      (ei_list (EvD.is (ev_op ok (ev_op ok (by walk_at "ev") (by walk_at "ev") (EvN_ev2 ok (rn_cat ok (by simp only [List.length_map]; show _ ≤ 16000000; omega)))) (by walk_at "ev") (EvN_ev2 ok (rn_cat ok (by simp only [List.length_map, List.length_append]; show _ ≤ 16000000; omega)))) (show _ = Dt.lst (tx (a ++ b ++ c)) by simp [tx])))
      (fun _ _ => tg_name) (fun _ _ k => k) (by rw [List.take_zero, List.any_nil, Bool.or_false]; exact Less.refl _) (fun i y hy Ga Ha ca => ?_) ?_)
    · have hm : y ∈ a ++ b ++ c := List.mem_of_getElem? hy
      have hne : tl y ≠ [] := item_ne (List.all_eq_true.mp h4.2 y hm)
      have ok2 : Cok (In (CH cl a' t a'.S G H) No Ga Ha) := In.ok ok
      refine run_asg ok2 (ev_orV ok2 (ev_var ok2 rfl) (fun _ => ev_call ok2 (ea_cons ok2 (ev_var ok2 rfl) (ea_cons ok2 (ev_var ok2 rfl) (ea_nil ok2))) rfl (fun G1 H1 k1 => ⟨a', t, y, rfl, k1.1.2, hne, rfl⟩))) ?_
      refine turn_end (Cf := fun _ => CH cl a' t a'.S G H) (dsf := (fun i => [some (.obj a'.x), some (.lst (tx (n :: f' :: rest))), some (.lst [Dt.lst (tx a), .lst (tx b), .lst (tx c), .lst (tx d)]), some (.bl ((!hasS t.featuresK f' || d.any fun x => !hasS t.shapesK x) || ((a ++ b ++ c).take i).any (itemLacks t))), none, none, none, none, none])) (S := No) (Ga := Ga) (Ha := Ha) (i := i) (fun _ _ k => k.1) ?_ rfl
      show Less _ [_, _, _, some (.bl (_ || ((a ++ b ++ c).take (i + 1)).any (itemLacks t))), none, none, none, none, none]
      rw [take_get hy, List.any_append, List.any_cons, List.any_nil, Bool.or_false, ← Bool.or_assoc]
      exact .keep (.keep (.keep (.keep (.gone (Less.refl _)))))
    rw [List.take_length]
    refine run_nx ?_
    refine run_set (d := .bl (decide (n ∈ t.rules.map (·.1)))) ok (ev_op ok (by walk_at "ev") (EvD.is (EvN.ev ok (en_map t.rules ruleD (fun r => [(7, ruleD r)]) (fun r => .str r.1) ok (ei_mu ok (by walk_at "ev") (hall_r hh) (fun z => z)) (fun _ _ => tg_name) (fun _ _ i hi => by simpa using hi)
      (fun r hr => by
        obtain ⟨r1, r2, r3, r4, r5, r6⟩ := r
        exact ev_op ok (ev_var ok rfl) (by walk_at "ev") (rv_ixT ok rfl)) (by have := hz; simp only [Told.size] at this; show _ ≤ 16000000; omega))) (show _ = Dt.lst (tx (t.rules.map (·.1))) by rw [tx, List.map_map]; rfl)) (rv_inT ok (.inl rfl))) ?_
    generalize hf : firstDue (decide (n ∈ t.rules.map (·.1))) ((!hasS t.featuresK f' || d.any fun x => !hasS t.shapesK x) || (a ++ b ++ c).any (itemLacks t)) (decide (30 ≤ t.rules.length)) = f at e0
    refine run_set (d := .str f) ok (EvD.is (by walk_at "ev") (by rw [← hf, dec_le 30, Told.rulesD, List.length_map])) ?_
    refine run_seq (run_if ok (by walk_at "ev") (fun e => ?_) (fun e => ?_))
    · have e1 : f = "" := of_decide_eq_true e
      subst e1
      obtain ⟨g1, g2, g3⟩ := firstDue_nil.mp hf
      refine run_append ok (by walk_at "ev") (d := ruleD (n, f', (a, b, c, d))) (EvD.is (ev_op ok (by walk_at "ev") (ev_cb ok (ea_cons ok (EvN.ev ok (en_map1 [a, b, c, d] (fun y => Dt.lst (tx y)) (fun y => Dt.tup (tx y)) ok (ev_var ok rfl) (fun y hy => by walk_at "ev") (Nat.le_of_ble_eq_true rfl))) (ea_nil ok)) (rc_tupOf ok)) (rv_catT ok (by simp) (by simp) (Nat.le_of_ble_eq_true rfl))) rfl) (hall_r hh) (by simp only [Told.size, Told.marksK, Told.pointsK, Told.lettersK, Told.classesK, Told.featuresK, Told.rulesD, tx, List.length_map] at *; show _ < 16000000; omega) ?_
      intro G1 σ1 H1 k1 s1 H2 kd st
      exact (run_ret CH.ok (ev_var CH.ok rfl) rfl (fun v G3 H3 k3 r3 => hq v G3 H3 _ ⟨by rw [e0]; exact k3, by rw [e0]; rfl⟩ r3) : Run _ (CH cl a' { t with rules := t.rules ++ [(n, f', (a, b, c, d))] } a'.S G H) _ D) G1 σ1 H2 ⟨k1.1.trans (st.mono fun b hb => hb ▸ by simp [HA.S, HA.list]), k1.2.set_rules st (by first | exact kd | simpa [Told.marksK, Told.pointsK, Told.lettersK, Told.classesK, Told.featuresK, Told.rulesD, tx] using kd)⟩ s1
    · have e1 : f ≠ "" := of_decide_eq_false e
      unfold fin at e0
      rw [if_neg e1] at e0
      exact run_ret ok (ev_var ok rfl) rfl (rt _ e0)

abbrev s_hall_row : Stmt := top 33
abbrev N_hall_row : List Str := ["hall", "head", "words"]
abbrev P_hall_row : List Str := ["hall", "head", "words"]
theorem sc_hall_row : FnScope N_hall_row P_hall_row (defScope s_hall_row) := ⟨rfl, rfl, rfl, by decide +kernel, rfl, by decide +kernel, by decide +kernel⟩

def preHall (cl : Addr) : Hp → Hp → List Dt → (Hp → Hp → Dt → Prop) → Prop := fun G H as post => ∃ a t h ws, as = [.obj a.x, .str h, .lst (tx ws)] ∧ HallAt cl a t G H ∧ ws.length ≤ 1000000 ∧ t.size < 1000000 ∧
  post = fun G' H' r => CH cl a (hallRow t h ws).2 a.S G H G' H' ∧ r = .str (hallRow t h ws).1
theorem cal_hall_row (B : Blt mg) (D : Dfn K mg "hall_row" s_hall_row) (C_shape_row : Cal P w K mg base "shape_row" 2 P_shape_row (SpRow cl shapeRow)) (C_mark_row : Cal P w K mg base "mark_row" 4 P_mark_row (SpRow cl markRow)) (C_point_row : Cal P w K mg base "point_row" 4 P_point_row (SpRow cl pointRow)) (C_letter_row : Cal P w K mg base "letter_row" 3 P_letter_row (SpRow cl letterRow)) (C_gap_row : Cal P w K mg base "gap_row" 2 P_gap_row (SpRow cl gapRow)) (C_class_row : Cal P w K mg base "class_row" 3 P_class_row (SpRow cl classRow)) (C_feature_row : Cal P w K mg base "feature_row" 2 P_feature_row (SpRow cl featureRow)) (C_rule_row : Cal P w K mg base "rule_row" 4 P_rule_row (SpRow cl ruleRow)) :
    Cal P w K mg base "hall_row" 5 P_hall_row (SpX 3 (preHall cl)) := by
  have sc := sc_hall_row
  replace C_shape_row := C_shape_row.mono (k := 4) (by decide)
  replace C_letter_row := C_letter_row.mono (k := 4) (by decide)
  replace C_gap_row := C_gap_row.mono (k := 4) (by decide)
  replace C_class_row := C_class_row.mono (k := 4) (by decide)
  replace C_feature_row := C_feature_row.mono (k := 4) (by decide)
  refine cal_of D (fun f fd F => fnokX F sc fun cdv A outer s H E hr => have hr1 := hr; ⟨_, (pss_cons (ps_if (pt_cmpR op_eq (pv 1) pe_str (nomark _)) (pss_one (ps_ret (pe_callC C_shape_row hr1 rfl (pa_cons (pv 0) (pa_cons (pv 2) pa_nil))))) pss_nil)
      (pss_cons (ps_if (pt_cmpR op_eq (pv 1) pe_str (nomark _)) (pss_one (ps_ret (pe_callC C_mark_row hr1 rfl (pa_cons (pv 0) (pa_cons (pv 2) pa_nil))))) pss_nil)
      (pss_cons (ps_if (pt_cmpR op_eq (pv 1) pe_str (nomark _)) (pss_one (ps_ret (pe_callC C_point_row hr1 rfl (pa_cons (pv 0) (pa_cons (pv 2) pa_nil))))) pss_nil)
      (pss_cons (ps_if (pt_cmpR op_eq (pv 1) pe_str (nomark _)) (pss_one (ps_ret (pe_callC C_letter_row hr1 rfl (pa_cons (pv 0) (pa_cons (pv 2) pa_nil))))) pss_nil)
      (pss_cons (ps_if (pt_cmpR op_eq (pv 1) pe_str (nomark _)) (pss_one (ps_ret (pe_callC C_gap_row hr1 rfl (pa_cons (pv 0) (pa_cons (pv 2) pa_nil))))) pss_nil)
      (pss_cons (ps_if (pt_cmpR op_eq (pv 1) pe_str (nomark _)) (pss_one (ps_ret (pe_callC C_class_row hr1 rfl (pa_cons (pv 0) (pa_cons (pv 2) pa_nil))))) pss_nil)
      (pss_cons (ps_if (pt_cmpR op_eq (pv 1) pe_str (nomark _)) (pss_one (ps_ret (pe_callC C_feature_row hr1 rfl (pa_cons (pv 0) (pa_cons (pv 2) pa_nil))))) pss_nil)
      (pss_cons (ps_if (pt_cmpR op_eq (pv 1) pe_str (nomark _)) (pss_one (ps_ret (pe_callC C_rule_row hr1 rfl (pa_cons (pv 0) (pa_cons (pv 2) pa_nil))))) pss_nil)
      (pss_one (ps_ret pe_str)))))))))), fun G as post D hl sm hp hq hx => ?_⟩) (fun _ _ _ _ _ _ us hl => match us, hl with | [_, _, _], _ => rfl)
  obtain ⟨a, t, h, ws, rfl, ha, hw, hz, rfl⟩ := hp
  have ok : Cok (CH cl a t a.S G H) := CH.ok
  refine fun σ sl => (?_ : Run _ (CH cl a t a.S G H) _ D) G σ H ⟨Stp.refl sm, ha⟩ sl
  have go : ∀ (m : Told → List Str → Str × Told), hallRow t h ws = m t ws → ∀ G1 H1, CH cl a t a.S G H G1 H1 → ∃ post, preRow cl m G1 H1 [.obj a.x, .lst (tx ws)] post ∧ ∀ v G' H' r, post G' H' r → Rep G' v r → D.rt v H' := fun m e G1 H1 k =>
    ⟨_, ⟨a, t, ws, rfl, k.2, hw, hz, rfl⟩, fun v G' H' r po re => hq v G' H' r (by rw [e]; exact ⟨⟨k.1.trans po.1.1, po.1.2⟩, po.2⟩) re⟩
  refine run_when ok (b := decide (h = "shape")) (by walk_at "ev") (fun e => run_retX ok (by walk_at "ev") rfl (go shapeRow (by have e0 := of_decide_eq_true e; unfold hallRow; simp only [if_pos e0, ↓reduceIte]))) (fun e => ?_)
  have n0 := of_decide_eq_false e
  refine run_when ok (b := decide (h = "mark")) (by walk_at "ev") (fun e => run_retX ok (by walk_at "ev") rfl (go markRow (by have e1 := of_decide_eq_true e; unfold hallRow; simp only [if_neg n0, if_pos e1, ↓reduceIte]))) (fun e => ?_)
  have n1 := of_decide_eq_false e
  refine run_when ok (b := decide (h = "point")) (by walk_at "ev") (fun e => run_retX ok (by walk_at "ev") rfl (go pointRow (by have e2 := of_decide_eq_true e; unfold hallRow; simp only [if_neg n0, if_neg n1, if_pos e2, ↓reduceIte]))) (fun e => ?_)
  have n2 := of_decide_eq_false e
  refine run_when ok (b := decide (h = "letter")) (by walk_at "ev") (fun e => run_retX ok (by walk_at "ev") rfl (go letterRow (by have e3 := of_decide_eq_true e; unfold hallRow; simp only [if_neg n0, if_neg n1, if_neg n2, if_pos e3, ↓reduceIte]))) (fun e => ?_)
  have n3 := of_decide_eq_false e
  refine run_when ok (b := decide (h = "gap")) (by walk_at "ev") (fun e => run_retX ok (by walk_at "ev") rfl (go gapRow (by have e4 := of_decide_eq_true e; unfold hallRow; simp only [if_neg n0, if_neg n1, if_neg n2, if_neg n3, if_pos e4, ↓reduceIte]))) (fun e => ?_)
  have n4 := of_decide_eq_false e
  refine run_when ok (b := decide (h = "class")) (by walk_at "ev") (fun e => run_retX ok (by walk_at "ev") rfl (go classRow (by have e5 := of_decide_eq_true e; unfold hallRow; simp only [if_neg n0, if_neg n1, if_neg n2, if_neg n3, if_neg n4, if_pos e5, ↓reduceIte]))) (fun e => ?_)
  have n5 := of_decide_eq_false e
  refine run_when ok (b := decide (h = "feature")) (by walk_at "ev") (fun e => run_retX ok (by walk_at "ev") rfl (go featureRow (by have e6 := of_decide_eq_true e; unfold hallRow; simp only [if_neg n0, if_neg n1, if_neg n2, if_neg n3, if_neg n4, if_neg n5, if_pos e6, ↓reduceIte]))) (fun e => ?_)
  have n6 := of_decide_eq_false e
  refine run_when ok (b := decide (h = "rule")) (by walk_at "ev") (fun e => run_retX ok (by walk_at "ev") rfl (go ruleRow (by have e7 := of_decide_eq_true e; unfold hallRow; simp only [if_neg n0, if_neg n1, if_neg n2, if_neg n3, if_neg n4, if_neg n5, if_neg n6, if_pos e7, ↓reduceIte]))) (fun e => ?_)
  have n7 := of_decide_eq_false e
  have e : hallRow t h ws = (("row" : Str), t) := by unfold hallRow; simp only [if_neg n0, if_neg n1, if_neg n2, if_neg n3, if_neg n4, if_neg n5, if_neg n6, if_neg n7]
  exact run_ret ok (ev_str ok) rfl (fun v G1 H1 k r => hq v G1 H1 _ ⟨by rw [e]; exact k, by rw [e]⟩ r)
end
end Kx

namespace PySem
namespace W
open PySem PySem.Spec PySem.Calls PyProof.Rows
section
variable {prog : Program} {w : World} {A : Around} {E : Value → Shared → Prop} {s : Shared} {K : Frag} {x D : Addr} {ox : Obj}
theorem kx_findData {C : Addr} {od : Option Obj} {name : Str} {a g : Value} (hc : (clsIn K C).isSome = true) (ha : findIn K (.ref C) name = some (some a)) (hg : specialIn K a "__get__" = some (some g)) (ht : takesIn K a = some true) :
    findObj K C od name = some (.bind g a) := by
  obtain ⟨cd, hcd⟩ := Option.isSome_iff_exists.mp hc
  unfold findObj; rw [hcd, Option.bind_some, ha, Option.bind_some]; simp [hg, ht]
/-- what the class's written part tells -/
structure KxExc (K : Frag) (D : Addr) : Prop where
  ga : findIn K (.ref D) "__getattribute__" = some (some (.builtin "BaseException.__getattribute__"))
  gt : findIn K (.ref D) "__getattr__" = some none
  su : subIn K (.ref D) (.type "BaseException") = some true
  dc : hasDictIn K D = true
  cl : findIn K (.ref D) "__class__" = some (some (.builtin "object.__class__"))
  cg : specialIn K (.builtin "object.__class__") "__get__" = some (some (.builtin "getset_descriptor.__get__"))
  tk : takesIn K (.builtin "object.__class__") = some true
  ob : mroIn K D (.type "object") = some true
theorem kx_class {od : Option Obj} {Q : Option Value → Shared → Prop} (T : KxExc K D) (X : K.In s.heap) (I : InstAt s.heap x ox D od) (h : Q (some (.ref D)) { s with toks := s.toks + 1 }) : wpAny (model prog w) A (getAttr? (.ref x) "__class__") Q E s := by
  have hf : findObj K D od "__class__" = some (.bind (.builtin "getset_descriptor.__get__") (.builtin "object.__class__")) := kx_findData (by obtain ⟨cd, hc, _⟩ := any_some T.dc; rw [hc]; rfl) T.cl T.cg T.tk
  obtain ⟨hp, gs, dr, tk, os⟩ := s
  have T0 := I.type (M := model prog w)
  have T1 := looks_findIn (M := model prog w) X T.ga
  have T2 := looks_findIn (M := model prog w) X T.gt
  have T3 := looks_find (M := model prog w) X I hf
  have isB : Looks (model prog w) hp (isInstance (.ref x) (.type "BaseException")) true := T0.andThen (looks_subIn X T.su)
  have neq : (Value.builtin "BaseException.__getattribute__" == Value.builtin "object.__getattribute__") = false := by decide +kernel
  have both : (onTheHeap (Value.ref D) && Value.builtin "BaseException.__getattribute__" == Value.builtin "object.__getattribute__") = false := by rw [neq, Bool.and_false]
  unfold getAttr? getAttrBy? getAttrBy
  refine wpAny_bind (wpAny_mkText (wpAny_bind (wpAny_attempt (wpAny_holding (wpAny_bind (T0.at (wpAny_bind (T1.at ?_))))))))
  show wpAny _ _ (if (onTheHeap (Value.ref D) && Value.builtin "BaseException.__getattribute__" == Value.builtin "object.__getattribute__") = true then _ else _) _ _ _
  rw [both, if_neg Bool.false_ne_true]; unfold getAttrByItsOwn hookBefore
  refine wpAny_bind ?_
  rw [if_pos (show onTheHeap (Value.ref D) = true from rfl)]; refine T2.at ?_
  refine wpAny_bind (wpAny_attempt (wpAny_holding ?_)); unfold callGetattribute
  rw [show (false && onTheHeap (Value.builtin "BaseException.__getattribute__")) = false from rfl, if_neg Bool.false_ne_true]; unfold boundAndCalled
  rw [PySem.F.excAttr_ValueError.ga.bind (.ref x)]; refine wpAny_bind (wpAny_pure ?_)
  show wpAny _ _ (call (.builtin "BaseException.__getattribute__") [.ref x, .str "__class__" tk]) _ _ _
  refine wpAny_call (codeAny_call_builtin PySem.F.excAttr_ValueError.ga.plain PySem.F.entry_bexc_ga ?_)
  refine @check_slot (model prog w) _ _ ⟨hp, gs, dr, tk + 1, os⟩ "BaseException.__getattribute__" "BaseException" "__getattribute__" (.ref x) [.str "__class__" tk] [] _ (by decide +kernel) (by decide +kernel) isB (PySem.F.args_bexc_ga (.ref x) (.str "__class__" tk)) ?_
  unfold Builtin.«object.__getattribute__»
  refine wpAny_bind (wpAny_of_eq (a := ((Value.ref x : Value), [Value.str "__class__" tk])) (by first | rfl | (simp only [slotArgs]; rfl)) ?_)
  refine wpAny_bind (wpAny_pure (wpAny_bind (T0.at (wpAny_bind (T3.at ?_)))))
  show wpAny _ _ (holding [Value.builtin "object.__class__"] (call (.builtin "getset_descriptor.__get__") [.builtin "object.__class__", .ref x, .ref D]) >>= ret) _ _ _
  refine wpAny_bind (wpAny_holding (wpAny_call (class_get (s := ⟨hp, gs, dr, tk + 1, os⟩) (ox := ox) (od := od) X I T.ob ?_)))
  refine wpAny_pure ?_
  show wpAny _ _ (handedOut (.ref D)) _ _ _
  rw [handedOut_of (v := .ref D) rfl]
  first
    | exact wpAny_pure (wpAny_pure h)
    | exact wpAny_pure h
    | exact wpAny_pure (wpAny_bind (wpAny_pure (wpAny_pure h)))
theorem kx_kitx {od : Option Obj} (T : KxExc K D) : KitX K (.ref x) (.ref D) (fun h => InstAt h x ox D od) where
  ty := fun _ _ _ I => I.type
  it := fun _ _ X _ => by
    obtain ⟨cd, hcd, _⟩ := any_some T.dc
    unfold clsIn at hcd; split at hcd
    · rename_i ho; intro _ _ _ _ k q
      unfold isType loadHead
      exact wpAny_bind (wpAny_loadPart (k _ _ (X _ _ ho)) (wpAny_pure q))
    · cases hcd
  ne := fun h tp dd its n sl X htp => by
    obtain ⟨cd, hcd, _⟩ := any_some T.dc
    refine Bool.eq_false_iff.mpr fun q => ?_
    obtain rfl : D = tp := Value.ref.inj (beq_iff_eq.mp q)
    unfold clsIn at hcd; split at hcd
    · rename_i ho; cases (X _ _ ho).symm.trans htp
    · cases hcd
  ca := fun X I k => kx_class T X I k
end
end W
end PySem
namespace Kx
open PySem L2
section
variable {X : Cx} {x : Str} {B : Addr} {e : Expr} {es : List Expr} {ta : TA} {p1 p2 pos : Pos}
/-- HallError.__init__(self, ..): the built-in's own -/
theorem pe_xinit {pl : Sem Bool} {mc : Value} (hg : Gl X x) (hm : X.mg x = some (.ref B)) (hd : (x == ("__debug__" : Str)) = false) (rd : PySem.W.readsIn X.K B mc = true) (ga : PySem.W.specialIn X.K (.ref B) "__getattribute__" = some (some (.builtin "type.__getattribute__")))
    (vV : PySem.W.findCls X.K (.ref B) mc "__init__" = some (.val (.builtin "ValueError.__init__"))) (ha : PA X (e :: es) ta)
    (hc : eval (.Call (.Attribute (.Name x p1) "__init__" p2) (e :: es) [] pos) X.env = (do
      let ov ← eval (.Name x p1) X.env
      standAt p2.atName
      let (f, first) ← holding [ov] (getMethod ov "__init__" pl)
      callWith pos f first (backTo pos (starEach (e :: es) X.env)) (backToKw pos (keywordEach [] X.env))) := by rfl)
    (he : starEach (e :: es) X.env = (false, eval e X.env) :: starEach es X.env := by rfl) (hpl : (backTo pos (starEach es X.env)).any (·.1) = false := by rfl) :
    PE X (.Call (.Attribute (.Name x p1) "__init__" p2) (e :: es) [] pos) (tVeI X.K ta) := by
  refine ⟨fun pins s σ H Q I h => PySem.W.methodCall_KW (ld_glob I hg hm ?_ hd) hc⟩
  refine PySem.W.method_cls I.kIn ga (PySem.W.cls_value I.kIn rd vV (by decide +kernel) ?_)
  show wpAny _ _ (callWith pos (Value.builtin "ValueError.__init__") [] (backTo pos (starEach (e :: es) X.env)) []) _ _ _
  refine PyProof.Rows.callWith_method1 (thn (ha.run pos pins _ σ H _ (I.tok _) h) fun us s1 ⟨vs, H1, I1, r1, a, C, ws, ev, hl, T, ea, q⟩ => ?_) he hpl
  subst ev
  cases r1 with
  | @cons _ u0 _ ur ra rw' =>
    obtain rfl : u0 = Value.ref a := ra
    have hlen : ur.length ≤ sizeLine := by rw [← Paired.length rw', sizeLine_eq]; omega
    exact oinit_ok T I1 ea hlen fun s' J => ⟨.non, H1, J, rfl, q⟩
end

/-! ## A caught error that is kept -/
/-- at a: an exception of the class cls, its dict d -/
def xk (a : Addr) (cls : Value) (d : Option Addr) : HO := .ext fun h => ∃ oe vs, h.get? a = some oe ∧ oe.cls = cls ∧ oe.dict = d ∧ oe.data = .fields vs
theorem xk_ok {P : Program} {w : World} {H : Hp} {h : Heap} {a : Addr} {cls : Value} {d : Option Addr} {oe : Obj} {vs : Array Value} (he : h.get? a = some oe) (hz : Zc cls d oe) (hd : oe.data = .fields vs) : ObjOk P w H h a (xk a cls d) :=
  ⟨⟨oe, vs, he, hz.1, hz.2, hd⟩, ⟨_, he⟩, fun h1 h2 z k => by
    obtain ⟨o, v, z1, z2⟩ := z
    exact ⟨o, v, k _ z1, z2⟩⟩
theorem xk_at {P : Program} {w : World} {H : Hp} {h : Heap} {a : Addr} {cls : Value} {d : Option Addr} (hok : HOk P w H h) (he : H a = some (xk a cls d)) : ∃ oe vs, h.get? a = some oe ∧ oe.cls = cls ∧ oe.dict = d ∧ oe.data = .fields vs := by
  have x : ObjOk P w H h a (.ext fun h => ∃ oe vs, h.get? a = some oe ∧ oe.cls = cls ∧ oe.dict = d ∧ oe.data = .fields vs) := hok a _ he
  exact x.1
theorem track {X : Cx} {pins : List (Addr × Obj)} {σ : St} {H : Hp} {s : Shared} {a : Addr} {oe : Obj} {vs : Array Value} {cls : Value} {d : Option Addr} (I : Inv X ((a, oe) :: pins) σ H s) (n0 : X.s_0.heap.get? a = none) (np : ∀ p ∈ X.pn ++ pins, p.1 ≠ a)
    (hz : Zc cls d oe) (hd : oe.data = .fields vs) : Inv X pins σ (upd H a (xk a cls d)) s := by
  obtain ⟨e, n, nL, nF, nc⟩ := I.pin (a, oe) (List.mem_append_right _ List.mem_cons_self)
  have n0' : ∀ b o, X.s_0.heap.get? b = some o → b ≠ a := fun b o q z => by rw [z, n0] at q; cases q
  refine ⟨I.ok, I.os, I.bare, ⟨I.base.keep, I.base.slot, fun b o q h1 h2 => by rw [upd_ne (n0' b o q)]; exact I.base.free b o q h1 h2, I.base.there, fun b xs q => ?_, fun b o u q => ?_, fun b ps q => ?_⟩, I.loc, I.cell, ?_, fun y c q => ?_, fun p hp => ?_, fun b o q => ?_, I.len⟩
  · have z := I.base.tups b xs q
    rw [upd_ne (ne_of_none z n)]; exact z
  · have z := I.base.frzs b o u q
    rw [upd_ne (ne_of_none z n)]; exact z
  · obtain ⟨m, z⟩ := I.base.tbls b ps q
    exact ⟨m, by rw [upd_ne (ne_of_none z n)]; exact z⟩
  · rw [upd_ne (Ne.symm nL)]; exact I.free
  · have hca : c ≠ a := by
      rintro rfl
      obtain ⟨v, o, z1, z2⟩ := I.cell y c q
      rw [e] at z1
      cases z1
      exact nc v z2
    rw [upd_ne hca]; exact I.freeC y c q
  · obtain ⟨h1, h2, h3⟩ := I.pin p (by
      rcases List.mem_append.mp hp with z | z
      · exact List.mem_append_left _ z
      · exact List.mem_append_right _ (List.mem_cons_of_mem _ z))
    exact ⟨h1, by rw [upd_ne (np p hp)]; exact h2, h3⟩
  · by_cases hb : b = a
    · subst hb
      rw [upd_same] at q
      cases q
      exact xk_ok e hz hd
    · rw [upd_ne hb] at q
      exact (I.hok b o q).stay (fun _ _ _ z => z) (fun c hc => by rw [upd_ne (ne_of_none hc n)]; exact hc) fun c xs hc => by rw [upd_ne (ne_of_none hc n)]; exact hc
/-- what the clause wishes of an exception of the body: slot i is its name's; behind the suite the exception stands at a -/
def wKeep (K : PySem.W.Frag) (c : Value) (i : Nat) (ts : Addr → Value → Option Addr → TS) (D : Ends) : WX := fun cls d σ H =>
  PySem.W.exmOne K cls c = some true ∧ ∀ a, H a = none → ts a cls d { nx := fun σ' H' => D.nx (σ'.set i none) (upd H' a (xk a cls d)), rt := fun _ _ => False, bk := fun _ _ => False, ct := fun _ _ => False } (σ.set i (some (.ref a))) H
section
variable {X : Cx} {x n : Str} {c : Value} {i : Nat} {body suite : List Stmt} {b₀ : Stmt} {np pos pos' : Pos} {tb : WX → TS} {ts : Addr → Value → Option Addr → TS}
theorem ps_try_keep (hs : X.stack = X.env :: X.outer) (hf : X.env.frame = some X.env.locals) (hN : X.N.Nodup) (hi : X.N[i]? = some n) (hln : X.env.kindOf n = some .local) (hc : Names X x c)
    (hb : ∀ (W : WX) (pn : List (Addr × Obj)) (xe : Value → Shared → Prop), Takes (X.tr pn xe) W → PassesOwn (model X.prog X.w) X.A X.env xe → PSs (X.tr pn xe) body (tb W))
    (hsu : ∀ (a : Addr) (oe : Obj) (cls : Value) (d : Option Addr) (pn : List (Addr × Obj)), Zc cls d oe → (∃ vs, oe.data = .fields vs) → PSs (X.suite a ((a, oe) :: pn)) (b₀ :: suite) (ts a cls d)) (hex : X.ex = []) :
    PS X (.Try body [.ExceptHandler (some (.Name x np)) (some n) (b₀ :: suite) pos'] [] [] pos) (fun D σ H => tb (wKeep X.K c i ts D) D σ H) := by
  refine ⟨fun pins s σ H D I h => ?_⟩
  have ok := I.ok
  have hfr : X.A.frames = some (X.env :: X.outer) := by rw [ok.frames, hs]
  have hloc : Loc X.env.scope n := .inl hln
  refine wpAny_Try_except ?_
  refine wpAny_mono ((hb (wKeep X.K c i ts D) (X.pn ++ pins) (fun e s₁ => wpAny (model X.prog X.w) X.A (noteFrame e X.env) (fun _ s₂ => wpAny (model X.prog X.w) X.A (setFlight e none) (fun _ s₃ =>
    wpAny (model X.prog X.w) X.A (handleBy e X.env [.ExceptHandler (some (.Name x np)) (some n) (b₀ :: suite) pos']) (SP X pins D) X.xe s₃) X.xe s₂) X.xe s₁) (fun u s' xx => ?_) PassesOwn.looking).run [] s σ H D (I.toTry _) h) (fun f s1 hsp => ?_) (fun e s1 he => he)
  · obtain ⟨a, B, sI, pins', σ', H', cls, d, rfl, J', nb, up, sky, na, os, ag, hb1, hyes⟩ := xx
    have J : Inv X pins σ' H' sI := J'.ofTry ok
    have sky' : Sky B (X.env :: X.outer) a (Zc cls d) X.env.locals s'.heap := by rw [← hs]; exact sky
    show wpAny (model X.prog X.w) X.A (noteFrame (.ref a) X.env) _ _ _
    refine Sky.land Zc.steady hfr hf sky' fun h3 fl3 up3 => ?_
    have J3 : Inv X pins σ' H' { s' with heap := h3 } := J.landed nb fl3.1 (up.trans up3) os ag
    obtain ⟨oe3, vs3, he3, hz3, hd3⟩ := fl3.there
    have notFr : ∀ {h : Heap} {o : Obj} {vs : Array Value}, h.FunFrames B (X.env :: X.outer) → h.get? a = some o → o.data = .fields vs → a ∉ frs (X.env :: X.outer) := fun {h o vs} ff e dd hm => by
      obtain ⟨_, o', e', hnf⟩ := ff.mem hm
      rw [e] at e'; cases e'
      exact hnf _ dd
    have nfr := notFr fl3.2.2.1 he3 hd3
    have nL : a ≠ X.env.locals := fun z => nfr (List.mem_filterMap.mpr ⟨X.env, List.mem_cons_self, by rw [hf, z]⟩)
    have nF : a ∉ X.fs := fun hm => by
      obtain ⟨e, he, q⟩ := List.mem_filterMap.mp hm
      exact nfr (List.mem_filterMap.mpr ⟨e, List.mem_cons_of_mem _ he, q⟩)
    have inB : ∀ b o, sI.heap.get? b = some o → b ∉ X.env.locals :: X.fs → b ≠ a := fun b o q hb z => by
      have := nb b o q fun hm => hb (J.stkSub b hm)
      rw [z, fl3.2.1] at this; cases this
    have n0 : X.s_0.heap.get? a = none := by
      cases q : X.s_0.heap.get? a with
      | none => rfl
      | some o =>
        obtain ⟨o', q'⟩ := J.base.there a o q (by rw [hex]; exact fun z => nomatch z)
        exact absurd rfl (inB a o' q' fun z => by
          rcases List.mem_cons.mp z with z | z
          · exact nL z
          · exact nF z)
    have npn : ∀ p ∈ X.pn ++ pins, p.1 ≠ a := fun p hp => by
      obtain ⟨h1, _, h3, h4, _⟩ := J.pin p hp
      exact inB p.1 p.2 h1 fun z => by
        rcases List.mem_cons.mp z with z | z
        · exact h3 z
        · exact h4 z
    have S3 := J3.suite he3 hd3 na nL nF
    refine wpAny_handleBy_cons (codeAny_handlers_test ?_) (by intro q; cases q)
    have LT : PySem.W.Looks (model X.prog X.w) h3 (typeOf (.ref a)) cls := fun A Q E s k q => wpAny_typeOf_ref (k _ _ he3) (by rw [hz3.1]; exact q)
    have LM := PySem.W.exm_one (M := model X.prog X.w) (J3.kIn) LT hb1
    have test : ∀ {Q : Value → Shared → Prop} {E : Value → Shared → Prop}, Q c { s' with heap := h3 } → wpAny (model X.prog X.w) (X.A.mark (some (.ref a))) (eval (.Name x np) X.env) Q E { s' with heap := h3 } := fun {Q E} q => by
      obtain ⟨hg, hdbg, hm | ⟨hm, hv, hnn⟩⟩ := hc
      · exact ld_glob (X := X.suite a ((a, oe3) :: (X.pn ++ pins))) S3 hg hm q hdbg
      · exact ld_blt (X := X.suite a ((a, oe3) :: (X.pn ++ pins))) S3 hg hm hv q hnn hdbg
    refine test (LM.here ?_)
    refine codeAny_handlers_suite_as ?_
    refine HandSPX.lands_againZ fl3 fun h4 fl4 up4 => ?_
    have J4 : Inv X pins σ' H' { s' with heap := h4 } := J.landed nb fl4.1 ((up.trans up3).trans up4) os ag
    obtain ⟨oe4, vs4, he4, hz4, hd4⟩ := fl4.there
    have S4 := J4.suite he4 hd4 na nL nF
    refine store_ok (X := X.suite a ((a, oe4) :: (X.pn ++ pins))) (v := .ref a) S4 hN hi hloc rfl (fun s5 S5 => ?_) (.inr hln)
    refine wpAny_mono ((hsu a oe4 cls d (X.pn ++ pins) hz4 ⟨_, hd4⟩).run [] s5 _ H' _ S5 (hyes a na)) (fun f s6 hsp => ?_) (fun _ _ z => False.elim z)
    cases f with
    | next =>
      obtain ⟨σ6, H6, S6, q6⟩ := hsp
      have J6 : Inv X ((a, oe4) :: pins) σ6 H6 s6 := ⟨ok, S6.os, S6.bare, S6.base, S6.loc, S6.cell, S6.free, S6.freeC, fun p hp => S6.pin p (by
        rw [List.append_nil]
        rcases List.mem_append.mp hp with z | z
        · exact List.mem_cons_of_mem _ (List.mem_append_left _ z)
        · rcases List.mem_cons.mp z with z | z
          · rw [z]; exact List.mem_cons_self
          · exact List.mem_cons_of_mem _ (List.mem_append_right _ z)), S6.hok, S6.len⟩
      exact gone_ok J6 hN hi hln fun s7 J7 => ⟨_, _, track J7 n0 npn hz4 hd4, q6⟩
    | brk => obtain ⟨_, _, _, q6⟩ := hsp; exact q6.elim
    | cont => obtain ⟨_, _, _, q6⟩ := hsp; exact q6.elim
    | ret u => obtain ⟨_, _, _, _, _, q6⟩ := hsp; exact q6.elim
  · cases f with
    | next => obtain ⟨σ', H', J', q⟩ := hsp; exact wpAny_execs_nil ⟨σ', H', J'.ofTry ok, q⟩
    | brk => obtain ⟨σ', H', J', q⟩ := hsp; exact ⟨σ', H', J'.ofTry ok, q⟩
    | cont => obtain ⟨σ', H', J', q⟩ := hsp; exact ⟨σ', H', J'.ofTry ok, q⟩
    | ret u => obtain ⟨v, σ', H', J', r, q⟩ := hsp; exact ⟨v, σ', H', J'.ofTry ok, r, q⟩
end
/-! ### isinstance and the fields of a kept error -/
theorem xk_inst {X : Cx} {pins : List (Addr × Obj)} {σ : St} {H : Hp} {s : Shared} {a C d : Addr} {fs : List (Str × V)} (I : Inv X pins σ H s) (ea : H a = some (xk a (.ref C) (some d))) (ed : H d = some (.xd fs)) :
    ∃ (oe od : Obj) (mA : Str → Option Value), PySem.W.InstAt s.heap a oe C (some od) ∧ (∀ f, RelO (fs.lookup f) (mA f)) ∧ ∀ name, PySem.W.lookIn name od = some (mA name) := by
  obtain ⟨oe, vs, h1, h2, h3, h4⟩ := xk_at I.hok ea
  obtain ⟨mA, hns, hr⟩ := (show ObjOk X.prog X.w H s.heap d (.xd fs) from I.hok d _ ed)
  obtain ⟨od, ho, hl⟩ := lookIn_ns hns
  exact ⟨oe, od, mA, ⟨h1, h2, by unfold PySem.W.notCls; rw [h4] <;> rfl, by rw [h3]; exact ho⟩, hr, hl⟩
/-- isinstance(e, c) -/
def rIsK (K : PySem.W.Frag) : List V → Hp → VK → Prop := fun xs H Q => ∃ (a C d : Addr) (fs : List (Str × V)) (c : V) (u : Value) (b : Bool), xs = [.ref a, c] ∧ H a = some (xk a (.ref C) (some d)) ∧ H d = some (.xd fs) ∧ PySem.W.KxExc K C ∧ ClsV c u ∧ PySem.W.kitOne K (.ref C) u = some b ∧ Q (.bl b) H
theorem call_isK {X : Cx} : CallR X (.builtin "isinstance") (rIsK X.K) := by
  intro pins s σ H xs us Q I r h
  obtain ⟨a, C, d, fs, c, u, b, rfl, ea, ed, T, k, e, q⟩ := h
  obtain ⟨u1, u2, rfl, r1, r2⟩ := vals2 r
  have e2 := k.eq r2
  subst e2
  cases (show u1 = Value.ref a from r1)
  obtain ⟨oe, od, mA, J, _⟩ := xk_inst I ea ed
  exact PySem.W.kia_one (PySem.W.kx_kitx T) I.kIn J e (fun z => nomatch z) fun tk => ⟨.bl b, H, I.tok tk, rfl, q⟩
def rIsKT (K : PySem.W.Frag) : List V → Hp → VK → Prop := fun xs H Q => ∃ (a C d : Addr) (fs : List (Str × V)) (tp : Addr) (cs : List V) (us : List Value) (b : Bool), xs = [.ref a, .ref tp] ∧ H a = some (xk a (.ref C) (some d)) ∧ H d = some (.xd fs) ∧ PySem.W.KxExc K C ∧
  H tp = some (.tup cs) ∧ Paired ClsV cs us ∧ PySem.W.kitAny K (.ref C) us = some b ∧ Q (.bl b) H
theorem call_isKT {X : Cx} : CallR X (.builtin "isinstance") (rIsKT X.K) := by
  intro pins s σ H xs us Q I r h
  obtain ⟨a, C, d, fs, tp, cs, ws, b, rfl, ea, ed, T, hT, k, e, q⟩ := h
  obtain ⟨u1, u2, rfl, r1, r2⟩ := vals2 r
  cases (show u2 = Value.ref tp from r2)
  cases (show u1 = Value.ref a from r1)
  obtain ⟨oe, od, mA, J, _⟩ := xk_inst I ea ed
  obtain ⟨_, its, rv, o, h1, h2, n, h3⟩ := (show ObjOk X.prog X.w H s.heap tp (.tup cs) from I.hok tp _ hT)
  have e3 := ClsV.all k rv
  subst e3
  obtain ⟨oc, od', dt, sl⟩ := o
  simp only at h2 h3
  subst h2 h3
  exact PySem.W.kia_tup (PySem.W.kx_kitx T) I.kIn J h1 e (fun z => nomatch z) fun tk => ⟨.bl b, H, I.tok tk, rfl, q⟩
/-- e.f -/
def tXk (K : PySem.W.Frag) (f : Str) (te : TE) : TE := fun σ H Q => te σ H fun x H1 => ∃ (a C d : Addr) (fs : List (Str × V)) (v : V), x = .ref a ∧ H1 a = some (xk a (.ref C) (some d)) ∧ H1 d = some (.xd fs) ∧ PySem.W.KxExc K C ∧ PySem.W.findIn K (.ref C) f = some none ∧ fs.lookup f = some v ∧ Q v H1
theorem pe_xk {X : Cx} {e : Expr} {te : TE} {pos : Pos} {n : Str} {K : PySem.W.Frag} (hK : X.K = K) (he : PE X e te) (hb : attributeBase e n X.env (eval e X.env) = eval e X.env := by rfl) : PE X (.Attribute e n pos) (tXk K n te) := by
  subst hK
  refine ⟨fun pins s σ H Q I h => attr_of hb (thn (he.run pins s σ H _ I h) fun u s1 hh => ?_)⟩
  obtain ⟨x, H1, I1, rx, a, C, d, fs, v, ex, ea, ed, T, hno, l, q⟩ := hh
  subst ex
  obtain rfl : u = Value.ref a := rx
  obtain ⟨oe, od, mA, J, hr, hl⟩ := xk_inst I1 ea ed
  obtain ⟨u, hu, ru⟩ := RelO.some_of (v := v) (o := mA n) (by rw [← l]; exact hr n)
  exact HandSPX.exc_get I1.kIn J T.ga T.gt T.su (PySem.W.findObj_own T.dc hno rfl (by rw [hl, hu])) (handed_of ru) ⟨v, H1, I1.tok _, ru, q⟩
end Kx

namespace Kx
open PySem L2
/-! ## Hall() -/
/-- built up so far: the instance at x with fs, the containers l new; all else as it was -/
structure Built (H H' : Hp) (x dx cl : Addr) (fs : List (Str × V)) (l : List (Addr × HO)) : Prop where
  ins : H' x = some (.ins cl dx fs)
  at_ : ∀ p ∈ l, H' p.1 = some p.2 ∧ H p.1 = none ∧ p.1 ≠ x
  nd : (l.map (·.1)).Nodup
  oth : ∀ b, b ≠ x → b ∉ l.map (·.1) → H' b = H b
theorem Built.step {H H' : Hp} {x dx cl p : Addr} {fs fs' : List (Str × V)} {l : List (Addr × HO)} {o : HO} (B : Built H H' x dx cl fs l) (hp : H' p = none) : Built H (upd (upd H' p o) x (.ins cl dx fs')) x dx cl fs' (l ++ [(p, o)]) := by
  have px : p ≠ x := fun z => by rw [z, B.ins] at hp; cases hp
  have pl : p ∉ l.map (·.1) := fun z => by
    obtain ⟨q, hq, e⟩ := List.mem_map.mp z
    have := (B.at_ q hq).1
    rw [e, hp] at this; cases this
  refine ⟨upd_same, fun q hq => ?_, ?_, fun b h1 h2 => ?_⟩
  · rcases List.mem_append.mp hq with hq | hq
    · obtain ⟨h1, h2, h3⟩ := B.at_ q hq
      have qp : q.1 ≠ p := fun z => pl (List.mem_map.mpr ⟨q, hq, z⟩)
      exact ⟨by rw [upd_ne h3, upd_ne qp]; exact h1, h2, h3⟩
    · rw [List.mem_singleton.mp hq]
      exact ⟨by show upd _ _ _ p = _; rw [upd_ne px, upd_same], by rw [← B.oth p px pl]; exact hp, px⟩
  · rw [List.map_append, List.nodup_append]
    refine ⟨B.nd, by simp, fun a ha b hb => ?_⟩
    have : b = p := by simpa using hb
    subst this
    exact fun z => pl (z ▸ ha)
  · rw [List.map_append] at h2
    have h3 : b ∉ l.map (·.1) := fun z => h2 (List.mem_append_left _ z)
    have h4 : b ≠ p := fun z => h2 (List.mem_append_right _ (by simp [z]))
    rw [upd_ne h1, upd_ne h4]; exact B.oth b h1 h3
def HA.new (a : HA) : List (Addr × HO) := [(a.ds, .dK []), (a.dm, .dK []), (a.dp, .dT []), (a.dl, .dK []), (a.dg, .lst []), (a.dc, .dK []), (a.df, .dK []), (a.dr, .lst [])]
def spHallInit (K : PySem.W.Frag) (cl : Addr) : Sp := fun vs H Q _ => ∃ x dx, vs = [.ref x] ∧ H x = some (.ins cl dx []) ∧ ∀ (a : HA) H', a.x = x → a.dx = dx → Built H H' x dx cl a.fs a.new → Q .non H'
section
variable {P : Program} {w : World} {K : PySem.W.Frag} {mg : Str → Option Value} {base : Heap} {cl : Addr}
abbrev s_Hall_init : Stmt := inClass (top 16) 0
abbrev N_Hall_init : List Str := ["self"]
theorem sc_Hall_init : FnScope N_Hall_init N_Hall_init (defScope s_Hall_init) := ⟨rfl, rfl, rfl, by decide +kernel, rfl, by decide +kernel, by decide +kernel⟩
theorem fld_step {ta tv : TE} {f : Str} {u : TS} {D : Ends} {σ : St} {H0 H : Hp} {x dx : Addr} {fs : List (Str × V)} {l : List (Addr × HO)} {o : HO} (HK : Cls K cl) (hn : NoAttr K cl f) (hx : ∀ (H : Hp) (Q : VK), Q (.ref x) H → ta σ H Q) (B : Built H0 H x dx cl fs l) (hl : fs.length < 1000)
    (hv : ∀ Q : VK, (∀ p, H p = none → Q (.ref p) (upd H p o)) → tv σ H Q)
    (q : ∀ p, H p = none → Built H0 (upd (upd H p o) x (.ins cl dx (putF f (.ref p) fs))) x dx cl (putF f (.ref p) fs) (l ++ [(p, o)]) → u D σ (upd (upd H p o) x (.ins cl dx (putF f (.ref p) fs)))) : tSeq (sFld K ta tv f) u D σ H :=
  hv _ fun p hp => hx _ _ ⟨x, cl, dx, fs, rfl, by rw [upd_ne (fun z => by rw [← z, B.ins] at hp; cases hp)]; exact B.ins, HK, hn, hl, q p hp (B.step hp)⟩
theorem fld_last {ta tv : TE} {f : Str} {D : Ends} {σ : St} {H0 H : Hp} {x dx : Addr} {fs : List (Str × V)} {l : List (Addr × HO)} {o : HO} (HK : Cls K cl) (hn : NoAttr K cl f) (hx : ∀ (H : Hp) (Q : VK), Q (.ref x) H → ta σ H Q) (B : Built H0 H x dx cl fs l) (hl : fs.length < 1000)
    (hv : ∀ Q : VK, (∀ p, H p = none → Q (.ref p) (upd H p o)) → tv σ H Q)
    (q : ∀ p, H p = none → Built H0 (upd (upd H p o) x (.ins cl dx (putF f (.ref p) fs))) x dx cl (putF f (.ref p) fs) (l ++ [(p, o)]) → D.nx σ (upd (upd H p o) x (.ins cl dx (putF f (.ref p) fs)))) : sFld K ta tv f D σ H :=
  hv _ fun p hp => hx _ _ ⟨x, cl, dx, fs, rfl, by rw [upd_ne (fun z => by rw [← z, B.ins] at hp; cases hp)]; exact B.ins, HK, hn, hl, q p hp (B.step hp)⟩
theorem ok_Hall_init {f : Addr} {fd : FuncData} (F : Fun K "__init__" "Hall.__init__" s_Hall_init f fd) (HK : HallK K cl) : FnOk P w K mg base CX0 1 f fd N_Hall_init (spHallInit K cl) := by
  have sc := sc_Hall_init
  refine F.ok sc (fun vs H Q E h => ?_) (fun cdv A outer s H vs Q E hr h => ⟨_, pss_cons (ps_fld (pv 0) pe_dnewK rfl) (pss_cons (ps_fld (pv 0) pe_dnewK rfl) (pss_cons (ps_fld (pv 0) pe_dnewT rfl) (pss_cons (ps_fld (pv 0) pe_dnewK rfl) (pss_cons (ps_fld (pv 0) (pe_lst pa_nil) rfl)
    (pss_cons (ps_fld (pv 0) pe_dnewK rfl) (pss_cons (ps_fld (pv 0) pe_dnewK rfl) (pss_one (ps_fld (pv 0) (pe_lst pa_nil) rfl)))))))), ?_⟩)
  · obtain ⟨x, dx, rfl, _⟩ := h; rfl
  · obtain ⟨x, dx, rfl, hx, q⟩ := h
    have vx : ∀ (H : Hp) (Q : VK), Q (.ref x) H → tVar 0 (start N_Hall_init [.ref x]) H Q := fun H Q z => ⟨_, rfl, z⟩
    have nk : ∀ (H : Hp) (Q : VK), (∀ p, H p = none → Q (.ref p) (upd H p (.dK []))) → tDNewK (start N_Hall_init [.ref x]) H Q := fun H Q z => z
    have nt : ∀ (H : Hp) (Q : VK), (∀ p, H p = none → Q (.ref p) (upd H p (.dT []))) → tDNewT (start N_Hall_init [.ref x]) H Q := fun H Q z => z
    have nl : ∀ (H : Hp) (Q : VK), (∀ p, H p = none → Q (.ref p) (upd H p (.lst []))) → tLst tNil (start N_Hall_init [.ref x]) H Q := fun H Q z => ⟨Nat.zero_le _, z⟩
    have B0 : Built H H x dx cl [] [] := ⟨hx, fun _ z => (by cases z), List.nodup_nil, fun _ _ _ => rfl⟩
    refine fld_step HK.c HK.shapes vx B0 (by decide) (nk _) fun p1 h1 B1 => ?_
    refine fld_step HK.c HK.marks vx B1 (by show 1 < 1000; decide) (nk _) fun p2 h2 B2 => ?_
    refine fld_step HK.c HK.points vx B2 (by show 2 < 1000; decide) (nt _) fun p3 h3 B3 => ?_
    refine fld_step HK.c HK.letters vx B3 (by show 3 < 1000; decide) (nk _) fun p4 h4 B4 => ?_
    refine fld_step HK.c HK.gaps vx B4 (by show 4 < 1000; decide) (nl _) fun p5 h5 B5 => ?_
    refine fld_step HK.c HK.classes vx B5 (by show 5 < 1000; decide) (nk _) fun p6 h6 B6 => ?_
    refine fld_step HK.c HK.features vx B6 (by show 6 < 1000; decide) (nk _) fun p7 h7 B7 => ?_
    refine fld_last HK.c HK.rules vx B7 (by show 7 < 1000; decide) (nl _) fun p8 h8 B8 => ?_
    exact q ⟨x, dx, p1, p2, p3, p4, p5, p6, p7, p8⟩ _ rfl rfl B8
/-! ## BadHall(place, word) -/
structure BadK (K : PySem.W.Frag) (mg : Str → Option Value) (cE cB fB : Addr) : Prop where
  gE : mg "HallError" = some (.ref cE)
  gB : mg "BadHall" = some (.ref cB)
  rd : PySem.W.readsIn K cE (.type "type") = true
  ga : PySem.W.specialIn K (.ref cE) "__getattribute__" = some (some (.builtin "type.__getattribute__"))
  vV : PySem.W.findCls K (.ref cE) (.type "type") "__init__" = some (.val (.builtin "ValueError.__init__"))
  ox : OexC K cB
  nP : PySem.W.findIn K (.ref cB) "place" = some none
  nW : PySem.W.findIn K (.ref cB) "word" = some none
  iB : PySem.W.findIn K (.ref cB) "__init__" = some (some (.ref fB))
  tB : PySem.W.typeIn K (.ref fB) = some (.type "function")
  kx : PySem.W.KxExc K cB
  exm : PySem.W.exmOne K (.ref cB) (.ref cE) = some true
abbrev s_Bad_init : Stmt := inClass (top 2) 0
abbrev N_Bad_init : List Str := ["self", "place", "word"]
theorem sc_Bad_init : FnScope N_Bad_init N_Bad_init (defScope s_Bad_init) := ⟨rfl, rfl, rfl, by decide +kernel, rfl, by decide +kernel, by decide +kernel⟩
def spBadInit (cB : Addr) : Sp := fun vs H Q _ => ∃ a p wd, vs = [.ref a, p, wd] ∧ H a = some (exo a cB none) ∧ ∀ d, H d = none → d ≠ a → Q .non (upd (upd (upd H d (exd d [("place", p)])) a (exo a cB (some d))) d (exd d [("word", wd), ("place", p)]))
variable {cE cB fB : Addr}
theorem ok_Bad_init {f : Addr} {fd : FuncData} (F : Fun K "__init__" "BadHall.__init__" s_Bad_init f fd) (T : BadK K mg cE cB fB) : FnOk P w K mg base CX0 1 f fd N_Bad_init (spBadInit cB) := by
  have sc := sc_Bad_init
  refine F.ok sc (fun vs H Q E h => ?_) (fun cdv A outer s H vs Q E hr h => ⟨_, pss_cons (ps_expr (pe_xinit rfl T.gE (by decide) T.rd T.ga T.vV (pa_cons (pv 0) (pa_cons pe_str pa_nil)))) (pss_cons (ps_ost (pv 0) (pv 1)) (pss_one (ps_ost (pv 0) (pv 2)))), ?_⟩)
  · obtain ⟨_, _, _, rfl, _⟩ := h; rfl
  · obtain ⟨a, p, wd, rfl, ha, q⟩ := h
    refine ⟨_, rfl, a, cB, _, rfl, by show 1 ≤ 1000; decide, T.ox, ha, ?_⟩
    refine ⟨_, rfl, _, rfl, a, cB, rfl, T.ox, T.nP, .inl ⟨ha, fun d hd ne => ?_⟩⟩
    refine ⟨_, rfl, _, rfl, a, cB, rfl, T.ox, T.nW, .inr ⟨d, _, upd_same, by rw [upd_ne ne, upd_same], by show 1 ≤ 900; decide, q d hd ne⟩⟩
/-- raise BadHall(place, word) -/
theorem run_bad {C : Hp → Hp → Prop} {ds : List (Option Dt)} {tl : TA} {D : Ends} {W : St → XK} {dp dw : Dt} (ok : Cok C) (ha : EvA tl C ds [dp, dw])
    (q : ∀ G σ H p wd, C G H → Slots G σ ds → Rep G p dp → Rep G wd dw → ∀ d, H d = none → W σ (.ref cB) (some d) (upd H d (.xd [("word", wd), ("place", p)]))) : Run (fun _ σ H => tMkO cB (spBadInit cB) [] tl σ H fun cls d H' => W σ cls d H') C ds D := fun G σ H k s =>
  ha G σ H k s _ fun vs G1 H1 p1 r1 => by
    cases r1 with
    | @cons p _ _ _ rp r1 =>
      cases r1 with
      | @cons wd _ _ _ rw r1 =>
        cases r1
        refine ⟨by show 2 ≤ 1000; decide, fun a hna => ⟨a, p, wd, rfl, upd_same, fun d hd ne => ⟨rfl, d, _, by rw [upd_ne (Ne.symm ne), upd_same], upd_same, ?_, ?_⟩⟩⟩
        · rw [upd_ne ne] at hd; exact hd
        · rw [upd_ne ne] at hd
          have e : upd (del (upd (upd (upd (upd H1 a (exo a cB none)) d (exd d [("place", p)])) a (exo a cB (some d))) d (exd d [("word", wd), ("place", p)])) a) d (.xd [("word", wd), ("place", p)]) = upd H1 d (.xd [("word", wd), ("place", p)]) := by
            funext b
            by_cases h1 : b = d
            · rw [h1, upd_same, upd_same]
            · rw [upd_ne h1, upd_ne h1]
              by_cases h2 : b = a
              · rw [h2, del_same, hna]
              · rw [del_ne h2, upd_ne h1, upd_ne h2, upd_ne h1, upd_ne h2]
          rw [e]
          exact q G1 σ H1 p wd (ok.stp k p1) (s.mono p1.gg) rp rw d hd
/-- hall = Hall() -/
theorem run_hall {C : Hp → Hp → Prop} {ds : List (Option Dt)} {u : TS} {D : Ends} {i : Nat} {Z : HA → Prop} (ok : Cok C) (hZ : ∀ G H a, C G H → (∀ p ∈ a.list, H p = none) → Z a) (q : ∀ a : HA, Z a → Run u (fun G H => C G H ∧ HallAt cl a {} G H) (ds.set i (some (.obj a.x))) D) : Run (tSeq (tAsg (tMake cl (spHallInit K cl) [] E0 tNil) (gName i)) u) C ds D := fun G σ H k s x dx nx ndx ne => by
  refine ⟨x, dx, rfl, upd_same, fun a H' e1 e2 B => ⟨rfl, ?_⟩⟩
  subst e1 e2
  have sub := ok.sub k
  have hb : ∀ b, b ≠ a.x → b ≠ a.dx → upd (upd H a.dx (.own a.x)) a.x (.ins cl a.dx []) b = H b := fun b h1 h2 => by rw [upd_ne h1, upd_ne h2]
  have nw : ∀ p ∈ a.new, H' p.1 = some p.2 ∧ H p.1 = none ∧ p.1 ≠ a.x := fun p hp => by
    obtain ⟨h1, h2, h3⟩ := B.at_ p hp
    have h4 : p.1 ≠ a.dx := fun z => by rw [z, upd_ne ne, upd_same] at h2; cases h2
    rw [hb _ h3 h4] at h2
    exact ⟨h1, h2, h3⟩
  have keep : ∀ b o, H b = some o → H' b = some o := fun b o e => by
    have h1 : b ≠ a.x := fun z => by rw [z, nx] at e; cases e
    have h2 : b ≠ a.dx := fun z => by rw [z, ndx] at e; cases e
    have h3 : b ∉ a.new.map (·.1) := fun z => by
      obtain ⟨p, hp, e'⟩ := List.mem_map.mp z
      have := (nw p hp).2.1
      rw [e', e] at this; cases this
    rw [B.oth b h1 h3, hb b h1 h2]; exact e
  have gx : G a.x = none := sub.free nx
  have st : Pu G H (upd G a.x (.ins cl a.dx a.fs)) H' := by
    refine ⟨fun b o e => ?_, fun b o e => ?_, fun b o _ e => keep b o e, fun b e => ?_, fun b o e g => ?_⟩
    · rw [upd_ne (ne_of_none e gx)]; exact e
    · by_cases h : b = a.x
      · rw [h, upd_same] at e
        cases e
        rw [h]; exact B.ins
      · rw [upd_ne h] at e; exact keep b o (sub b o e)
    · cases z : H b with
      | none => rfl
      | some o => rw [keep b o z] at e; cases e
    · exact .inl (by rw [upd_ne (ne_of_none e nx)]; exact g)
  have ng : ∀ p ∈ a.new, upd G a.x (.ins cl a.dx a.fs) p.1 = none := fun p hp => by
    rw [upd_ne (nw p hp).2.2]; exact sub.free (nw p hp).2.1
  have mem : ∀ i (h : i < 8), a.new[i]'h ∈ a.new := fun i h => List.getElem_mem h
  have ha : HallAt cl a {} (upd G a.x (.ins cl a.dx a.fs)) H' := ⟨upd_same, B.nd,
    ⟨ng _ (mem 0 (by decide)), [], (nw _ (mem 0 (by decide))).1, .nil⟩, ⟨ng _ (mem 1 (by decide)), [], (nw _ (mem 1 (by decide))).1, .nil⟩, ⟨ng _ (mem 2 (by decide)), [], (nw _ (mem 2 (by decide))).1, .nil⟩, ⟨ng _ (mem 3 (by decide)), [], (nw _ (mem 3 (by decide))).1, .nil⟩,
    ⟨ng _ (mem 4 (by decide)), [], (nw _ (mem 4 (by decide))).1, .nil⟩, ⟨ng _ (mem 5 (by decide)), [], (nw _ (mem 5 (by decide))).1, .nil⟩, ⟨ng _ (mem 6 (by decide)), [], (nw _ (mem 6 (by decide))).1, .nil⟩, ⟨ng _ (mem 7 (by decide)), [], (nw _ (mem 7 (by decide))).1, .nil⟩⟩
  exact q a (hZ G H a k fun p hp => by
    have key : ∃ o, (p, o) ∈ a.new := by
      simp only [HA.list, List.mem_cons, List.not_mem_nil, or_false] at hp
      rcases hp with rfl | rfl | rfl | rfl | rfl | rfl | rfl | rfl
      · exact ⟨_, mem 0 (by decide)⟩
      · exact ⟨_, mem 1 (by decide)⟩
      · exact ⟨_, mem 2 (by decide)⟩
      · exact ⟨_, mem 3 (by decide)⟩
      · exact ⟨_, mem 4 (by decide)⟩
      · exact ⟨_, mem 5 (by decide)⟩
      · exact ⟨_, mem 6 (by decide)⟩
      · exact ⟨_, mem 7 (by decide)⟩
    obtain ⟨o, ho⟩ := key
    exact (nw _ ho).2.1) _ _ H' ⟨ok.stp k st, ha⟩ ((s.mono st.gg).set (.obj a.x) i)
end
end Kx

namespace Kx
open PySem L2
/-! ## What rows come to -/
/-- one row, over what is told: the fault's word (none: the empty text), what is told then -/
def rowStep (t : Told) (r : Str) : Str × Told := match wordsOf r with
  | [] => ("", t)
  | h :: ws => hallRow t h ws
def toldBy : Told → List Str → Told
  | t, [] => t
  | t, r :: rs => toldBy (rowStep t r).2 rs
/-- the faulty rows: places, words -/
def faultsBy : Told → Nat → List Str → List (Nat × Str)
  | _, _, [] => []
  | t, k, r :: rs => if (rowStep t r).1 = "" then faultsBy (rowStep t r).2 (k + 1) rs else (k, (rowStep t r).1) :: faultsBy (rowStep t r).2 (k + 1) rs
theorem fin_size {t t' : Told} {f : Str} (h : t'.size ≤ t.size + 1) : (fin t f t').2.size ≤ t.size + 1 := by
  unfold fin; split
  · exact h
  · exact Nat.le_succ _
theorem fin_bad {t t' : Told} {f : Str} (h : (fin t f t').1 ≠ "") : (fin t f t').2 = t := by
  unfold fin at h ⊢; split
  · rename_i e; rw [if_pos e] at h; exact absurd rfl h
  · rfl
/-- each row's: at most one more, and nothing where there is a fault -/
def Tame (m : Told → List Str → Str × Told) : Prop := ∀ t ws, (m t ws).2.size ≤ t.size + 1 ∧ ((m t ws).1 ≠ "" → (m t ws).2 = t)
theorem size_shapes {t : Told} {xs} (h : xs.length ≤ t.shapes.length + 1) : Told.size { t with shapes := xs } ≤ t.size + 1 := by unfold Told.size; dsimp only; omega
theorem size_marks {t : Told} {xs} (h : xs.length ≤ t.marks.length + 1) : Told.size { t with marks := xs } ≤ t.size + 1 := by unfold Told.size; dsimp only; omega
theorem size_points {t : Told} {xs} (h : xs.length ≤ t.points.length + 1) : Told.size { t with points := xs } ≤ t.size + 1 := by unfold Told.size; dsimp only; omega
theorem size_letters {t : Told} {xs} (h : xs.length ≤ t.letters.length + 1) : Told.size { t with letters := xs } ≤ t.size + 1 := by unfold Told.size; dsimp only; omega
theorem size_gaps {t : Told} {xs} (h : xs.length ≤ t.gaps.length + 1) : Told.size { t with gaps := xs } ≤ t.size + 1 := by unfold Told.size; dsimp only; omega
theorem size_classes {t : Told} {xs} (h : xs.length ≤ t.classes.length + 1) : Told.size { t with classes := xs } ≤ t.size + 1 := by unfold Told.size; dsimp only; omega
theorem size_features {t : Told} {xs} (h : xs.length ≤ t.features.length + 1) : Told.size { t with features := xs } ≤ t.size + 1 := by unfold Told.size; dsimp only; omega
theorem size_rules {t : Told} {xs} (h : xs.length ≤ t.rules.length + 1) : Told.size { t with rules := xs } ≤ t.size + 1 := by unfold Told.size; dsimp only; omega
theorem app1 {α : Type} (l : List α) (x : α) : (l ++ [x]).length ≤ l.length + 1 := by rw [List.length_append]; exact Nat.le_refl _
def TameAt (t : Told) (r : Str × Told) : Prop := r.2.size ≤ t.size + 1 ∧ (r.1 ≠ "" → r.2 = t)
theorem ta_row {t : Told} : TameAt t ("row", t) := ⟨Nat.le_succ _, fun _ => rfl⟩
theorem ta_fin {t t' : Told} {f : Str} (h : t'.size ≤ t.size + 1) : TameAt t (fin t f t') := ⟨fin_size h, fin_bad⟩
theorem ta_if {t : Told} {c : Bool} {a b : Str × Told} (ha : TameAt t a) (hb : TameAt t b) : TameAt t (if c = true then a else b) := by
  cases c
  · exact hb
  · exact ha
theorem tame_shape : Tame shapeRow := fun t ws => match ws with
  | [n, x] => ta_if (ta_fin (size_shapes (app1 _ _))) ta_row
  | [] => ta_row
  | [_] => ta_row
  | _ :: _ :: _ :: _ => ta_row
theorem tame_mark : Tame markRow := fun t ws => match ws with
  | [n, s, a, b, c, d] => ta_if (ta_fin (size_marks (app1 _ _))) ta_row
  | [] => ta_row
  | [_] => ta_row
  | [_, _] => ta_row
  | [_, _, _] => ta_row
  | [_, _, _, _] => ta_row
  | [_, _, _, _, _] => ta_row
  | _ :: _ :: _ :: _ :: _ :: _ :: _ :: _ => ta_row
theorem tame_point : Tame pointRow := fun t ws => match ws with
  | [n, s, a, b] => ta_if (ta_fin (size_points (app1 _ _))) ta_row
  | [] => ta_row
  | [_] => ta_row
  | [_, _] => ta_row
  | [_, _, _] => ta_row
  | _ :: _ :: _ :: _ :: _ :: _ => ta_row
theorem tame_letter : Tame letterRow := fun t ws => match ws with
  | n :: j :: w :: fs => ta_if (ta_fin (size_letters (app1 _ _))) ta_row
  | [] => ta_row
  | [_] => ta_row
  | [_, _] => ta_row
theorem tame_gap : Tame gapRow := fun t ws => match ws with
  | [n] => ta_if (ta_fin (size_gaps (app1 _ _))) ta_row
  | [] => ta_row
  | _ :: _ :: _ => ta_row
theorem tame_class : Tame classRow := fun t ws => match ws with
  | n :: fs => ta_if (ta_fin (size_classes (app1 _ _))) ta_row
  | [] => ta_row
theorem tame_feature : Tame featureRow := fun t ws => match ws with
  | [n, s] => ta_if (ta_fin (size_features (app1 _ _))) ta_row
  | [] => ta_row
  | [_] => ta_row
  | _ :: _ :: _ :: _ => ta_row
theorem tame_rule : Tame ruleRow := fun t ws => match ws with
  | n :: f :: rest => ta_if (by
      cases rulePartsOf rest with
      | none => exact ta_row
      | some q => obtain ⟨a, b, c, d⟩ := q; exact ta_fin (size_rules (app1 _ _))) ta_row
  | [] => ta_row
  | [_] => ta_row
theorem tame_hall (h : Str) : Tame (fun t ws => hallRow t h ws) := fun t ws => by
  unfold hallRow
  repeat' split
  · exact tame_shape t ws
  · exact tame_mark t ws
  · exact tame_point t ws
  · exact tame_letter t ws
  · exact tame_gap t ws
  · exact tame_class t ws
  · exact tame_feature t ws
  · exact tame_rule t ws
  · exact ⟨Nat.le_succ _, fun _ => rfl⟩
theorem step_size (t : Told) (r : Str) : (rowStep t r).2.size ≤ t.size + 1 := by
  unfold rowStep; split
  · exact Nat.le_succ _
  · exact (tame_hall _ t _).1
theorem step_bad {t : Told} {r : Str} (h : (rowStep t r).1 ≠ "") : (rowStep t r).2 = t := by
  unfold rowStep at h ⊢; split at h
  · exact absurd rfl h
  · exact (tame_hall _ t _).2 h
theorem toldBy_app : ∀ (xs ys : List Str) (t : Told), toldBy t (xs ++ ys) = toldBy (toldBy t xs) ys
  | [], _, _ => rfl
  | x :: xs, ys, t => toldBy_app xs ys (rowStep t x).2
theorem toldBy_size : ∀ (xs : List Str) (t : Told), (toldBy t xs).size ≤ t.size + xs.length
  | [], _ => Nat.le_refl _
  | x :: xs, t => by
    have h1 := toldBy_size xs (rowStep t x).2
    have h2 := step_size t x
    show (toldBy (rowStep t x).2 xs).size ≤ _
    rw [List.length_cons]; omega
theorem faultsBy_app : ∀ (xs ys : List Str) (t : Told) (k : Nat), faultsBy t k (xs ++ ys) = faultsBy t k xs ++ faultsBy (toldBy t xs) (k + xs.length) ys
  | [], _, _, _ => rfl
  | x :: xs, ys, t, k => by
    show (if (rowStep t x).1 = "" then faultsBy (rowStep t x).2 (k + 1) (xs ++ ys) else (k, (rowStep t x).1) :: faultsBy (rowStep t x).2 (k + 1) (xs ++ ys)) = _
    rw [faultsBy_app xs ys, show k + 1 + xs.length = k + (x :: xs).length by rw [List.length_cons]; omega]
    show _ = (if (rowStep t x).1 = "" then faultsBy (rowStep t x).2 (k + 1) xs else (k, (rowStep t x).1) :: faultsBy (rowStep t x).2 (k + 1) xs) ++ _
    split <;> rfl
end Kx

namespace Kx
open PySem L2
theorem take_cons_drop {α : Type} : ∀ {l : List α} {k : Nat} {r : α}, l[k]? = some r → l = l.take k ++ r :: l.drop (k + 1)
  | [], _, _, h => by simp at h
  | a :: l, 0, r, h => by
    have e : a = r := Option.some.inj h
    subst e; rfl
  | a :: l, k + 1, r, h => by
    have ih := take_cons_drop (l := l) (k := k) h
    show a :: l = a :: (l.take k ++ r :: l.drop (k + 1))
    rw [← ih]
theorem idx_at : ∀ (ws : List Str) (k i : Nat) (p : Nat × Str), (idx k ws)[i]? = some p → p.1 = k + i ∧ ws[i]? = some p.2
  | [], _, _, _, h => by simp [idx] at h
  | w :: r, k, 0, p, h => by
    have e : (k, w) = p := Option.some.inj h
    subst e; exact ⟨rfl, rfl⟩
  | w :: r, k, i + 1, p, h => by
    obtain ⟨h1, h2⟩ := idx_at r (k + 1) i p h
    exact ⟨by omega, h2⟩
theorem idx_take : ∀ (ws : List Str) (k i : Nat), (idx k ws).take i = idx k (ws.take i)
  | [], _, 0 => rfl
  | [], _, _ + 1 => rfl
  | _ :: _, _, 0 => rfl
  | w :: r, k, i + 1 => by show (k, w) :: (idx (k + 1) r).take i = (k, w) :: idx (k + 1) (r.take i); rw [idx_take r]
theorem stp_absorb {S : Addr → Prop} {G H G1 H1 G2 H2 : Hp} (a : Pu G H G1 H1) (b : Stp S G1 H1 G2 H2) (n : ∀ p, S p → H p = none) : Pu G H G2 H2 :=
  ⟨a.gg.trans b.gg, b.gh, fun c o _ e => b.hh c o (fun z => by rw [n c z] at e; cases e) (a.hh c o (fun z => z) e), fun c e => a.th c (b.th c e), fun c o e g => by
    obtain ⟨u, hu⟩ := a.lives e
    rcases a.ap c o e g with g | ⟨xs, g⟩
    · exact b.ap c u hu g
    · exact .inr ⟨xs, b.gg _ _ g⟩⟩
section
variable {P : Program} {w : World} {K : PySem.W.Frag} {mg : Str → Option Value} {base : Heap} {cl cE cB fB fH : Addr}
local macro_rules | `(tactic| walk_at "ev") => `(tactic| with_reducible first
  | (show EvD _ _ _ _; first
    | exact ev_var (by assumption) rfl
    | exact ev_int (by assumption)
    | exact ev_str (by assumption)
    | exact ev_non (by assumption)
    | exact ev_bl (by assumption)
    | (refine' ev_call (by assumption) ?_ ?_ ?_ <;> (try walk_at "ev"))
    | (refine' ev_op (by assumption) ?_ ?_ ?_ <;> (try walk_at "ev"))
    | (refine' ev_un (by assumption) ?_ rfl <;> (try walk_at "ev"))
    | (refine' ev_andV (by assumption) ?_ (fun _ => ?_) <;> (try walk_at "ev"))
    | (refine' ev_orV (by assumption) ?_ (fun _ => ?_) <;> (try walk_at "ev"))
    | (refine' ev_notV (by assumption) ?_ <;> (try walk_at "ev"))
    | (refine' ev_chain (by assumption) ?_ ?_ ?_ ?_ ?_ <;> (try walk_at "ev"))
    | (refine' ev_cb (by assumption) ?_ ?_ <;> (try walk_at "ev"))
    | (refine' ev_bm (by assumption) ?_ ?_ ?_ <;> (try walk_at "ev"))
    | (refine' ev_m1 (by assumption) ?_ ?_ ?_ <;> (try walk_at "ev"))
    | (refine' ev_sliceS (by assumption) ?_ ?_ ?_ <;> (try walk_at "ev"))
    | (refine' ev_slice (by assumption) ?_ ?_ ?_ <;> (try walk_at "ev"))
    | (refine' ev_tup (by assumption) ?_ ?_ <;> (try walk_at "ev"))
    | (refine' ev_lst (by assumption) ?_ ?_ <;> (try walk_at "ev"))
    | exact ev_h_shapes (by assumption) (by assumption) (by assumption) (ev_var (by assumption) rfl)
    | exact ev_h_marks (by assumption) (by assumption) (by assumption) (ev_var (by assumption) rfl)
    | exact ev_h_points (by assumption) (by assumption) (by assumption) (ev_var (by assumption) rfl)
    | exact ev_h_letters (by assumption) (by assumption) (by assumption) (ev_var (by assumption) rfl)
    | exact ev_h_gaps (by assumption) (by assumption) (by assumption) (ev_var (by assumption) rfl)
    | exact ev_h_classes (by assumption) (by assumption) (by assumption) (ev_var (by assumption) rfl)
    | exact ev_h_features (by assumption) (by assumption) (by assumption) (ev_var (by assumption) rfl)
    | exact ev_h_rules (by assumption) (by assumption) (by assumption) (ev_var (by assumption) rfl)
    | (refine' ev_dinK (by assumption) ?_ ?_ ?_ <;> (try walk_at "ev"))
    | (refine' ev_dniK (by assumption) ?_ ?_ ?_ <;> (try walk_at "ev"))
    | (refine' ev_dinT (by assumption) ?_ ?_ ?_ <;> (try walk_at "ev")))
  | (show EvA _ _ _ _; first
    | exact ea_nil (by assumption)
    | (refine' ea_cons (by assumption) ?_ ?_ <;> (try walk_at "ev")))
  | (show RV _ _ _ _ _; first
    | exact rv_int (by assumption)
    | exact rv_cmp (by assumption)
    | exact rv_eq (by assumption) rfl
    | exact rv_ne (by assumption) rfl
    | exact rv_isN (by assumption) rfl
    | exact rv_notN (by assumption) rfl
    | exact rv_inT (by assumption) (.inl rfl)
    | exact rv_inT (by assumption) (.inr rfl)
    | exact rv_niT (by assumption) (.inl rfl)
    | exact rv_niT (by assumption) (.inr rfl)
    | exact rv_inS (by assumption)
    | exact rv_niS (by assumption)
    | exact rv_ixS (by assumption) (by assumption)
    | exact rv_ixL (by assumption) (by assumption)
    | exact rv_ixT (by assumption) (by assumption)
    | exact rv_ixT (by assumption) rfl
    | exact rv_ixL (by assumption) rfl
    | (refine' rv_inM (by assumption) ?_ <;> (try walk_at "ev"))
    | (refine' rv_niM (by assumption) ?_ <;> (try walk_at "ev"))
    | (refine' rv_inX (by assumption) ?_ (.inl rfl) <;> (try walk_at "ev"))
    | (refine' rv_inX (by assumption) ?_ (.inr rfl) <;> (try walk_at "ev"))
    | (refine' rv_niX (by assumption) ?_ (.inl rfl) <;> (try walk_at "ev"))
    | (refine' rv_niX (by assumption) ?_ (.inr rfl) <;> (try walk_at "ev"))
    | exact rv_in (neg := false) (by assumption) rfl rfl (.inr rfl)
    | exact rv_in (neg := true) (by assumption) rfl rfl (.inr rfl)
    | exact rv_intC (g := fun i j => i % j) (by assumption) (by decide)
    | exact rv_intC (g := fun i j => i / j) (by assumption) (cdiv_ok (by decide)))
  | (show EvT _ _ _ _; first
    | exact et_yes (by assumption)
    | (refine' et_and (by assumption) ?_ (fun _ => ?_) <;> (try walk_at "ev"))
    | (refine' et_or (by assumption) ?_ (fun _ => ?_) <;> (try walk_at "ev"))
    | (refine' et_not ?_ <;> (try walk_at "ev"))
    | (refine' et_test ?_ <;> (try walk_at "ev"))
    | (refine' et_B ?_ <;> (try walk_at "ev")))
  | (show RC _ _ _ _; first
    | exact rc_lenL (by assumption)
    | exact rc_lenT (by assumption)
    | exact rc_lenS (by assumption)
    | exact rc_all (by assumption)
    | exact rc_intB (by assumption)
    | exact rc_strS (by assumption)
    | exact rc_listOf (by assumption) (.inl rfl)
    | exact rc_listOf (by assumption) (.inr rfl)
    | exact rc_tupOf (by assumption)
    | (refine' rc_lenD (by assumption) ?_ <;> (try walk_at "ev"))
    | (refine' rc_lenM (by assumption) ?_ <;> (try walk_at "ev")))
  | (show RM _ _ _ _ _; first
    | exact rm_strip' (by assumption))
  | (show EvO _ _ _ _; first
    | exact eo_none (by assumption)
    | (refine' eo_some ?_ <;> (try walk_at "ev")))
  | (show List.length _ ≤ Lim; with_unfolding_all exact Nat.le_of_ble_eq_true rfl)
  | (show List.length _ = _; with_unfolding_all rfl)
  | exact (fun _ _ _ => ⟨_, rfl, rfl⟩)
  | exact (fun _ _ _ => ⟨_, _, rfl, rfl⟩)
  | exact (fun _ _ _ => ⟨_, _, _, rfl, rfl⟩)
  | exact (fun _ _ _ => ⟨_, rfl, by assumption, rfl⟩)
  | exact hall_s (by assumption)
  | exact hall_m (by assumption)
  | exact hall_p (by assumption)
  | exact hall_l (by assumption)
  | exact hall_g (by assumption)
  | exact hall_c (by assumption)
  | exact hall_f (by assumption)
  | exact hall_r (by assumption)
  | exact TxL.of _
  | exact TxL.nil
  | (refine' TxL.cons ?_ <;> (try walk_at "ev")))


abbrev s_read_hall : Stmt := top 34
abbrev N_read_hall : List Str := ["text", "hall", "place", "row", "words", "fault"]
abbrev P_read_hall : List Str := ["text"]
theorem sc_read_hall : FnScope N_read_hall P_read_hall (defScope s_read_hall) := ⟨rfl, rfl, rfl, by decide +kernel, rfl, by decide +kernel, by decide +kernel⟩

/-- read_hall: a hall that tells all, or the first fault raised -/
def spReadHall (cl cB : Addr) : Sp := fun vs H Q E => ∃ G x, Same G H ∧ vs = [.str x] ∧ x.length ≤ 500000 ∧
  (∀ (a : HA) G' H', faultsBy {} 0 (Txt.split x (Str.ofString "\n")) = [] → Pu G H G' H' → HallAt cl a (toldBy {} (Txt.split x (Str.ofString "\n"))) G' H' → Q (.ref a.x) H') ∧
  ∀ k f rest, faultsBy {} 0 (Txt.split x (Str.ofString "\n")) = (k, f) :: rest → ∀ d G' H', Pu G H G' H' → G' d = none → H' d = some (.xd [("word", .str f), ("place", .int (k : Nat))]) → E (.ref cB) (some d) H'
theorem fnokE {x q : Str} {st : Stmt} {f : Addr} {fd : FuncData} {N ps : List Str} {k : Nat} {sp : Sp} (F : Fun K x q st f fd) (S : FnScope N ps (defScope st)) (hl : ∀ vs H Q E, sp vs H Q E → vs.length = ps.length)
    (h : ∀ (cdv : Value) (A : Around) (outer : List Env) (s : Shared) (H : Hp) (E : XK), Room k (A.deeper (PyProof.Rows.envOfC q (defScope st) s.heap.objs.size f cdv)) → ∃ t, PSs (cxOf (L2.CX P w) P w K mg base N q (defScope st) f cdv A outer s H E) (defBody st) t ∧
      ∀ (vs : List V) (Q : VK), sp vs H Q E → t { nx := fun _ H' => Q .non H', rt := Q } (start N vs) H) : FnOk P w K mg base (L2.CX P w) (k + 1) f fd ps sp :=
  F.okX S hl fun cdv A outer s H vs Q E hr hsp => by
    obtain ⟨t, d, hb⟩ := h cdv A outer s H E hr
    exact ⟨t, d, hb vs Q hsp⟩
theorem ok_read_hall (B : Blt mg) (HK : HallK K cl) (T : BadK K mg cE cB fB) (M : Mk K cl fH) (gH : mg "Hall" = some (.ref cl)) {fdH fdB : FuncData} (FH : Fun K "__init__" "Hall.__init__" s_Hall_init fH fdH) (FB : Fun K "__init__" "BadHall.__init__" s_Bad_init fB fdB)
    (bH : Binds K fdH N_Hall_init []) (bB : Binds K fdB N_Bad_init []) (C_words_of : Cal P w K mg base "words_of" 1 P_words_of spWordsOf) (C_hall_row : Cal P w K mg base "hall_row" 5 P_hall_row (SpX 3 (preHall cl)))
    {f : Addr} {fd : FuncData} (F : Fun K "read_hall" "read_hall" s_read_hall f fd) : FnOk P w K mg base (L2.CX P w) 6 f fd P_read_hall (spReadHall cl cB) := by
  have sc := sc_read_hall
  replace C_words_of := C_words_of.mono (k := 5) (by decide)
  have GH := ok_Hall_init (P := P) (w := w) (mg := mg) (base := base) FH HK
  have GB := ok_Bad_init (P := P) (w := w) (base := base) FB T
  refine fnokE F sc (fun vs H Q E h => by obtain ⟨_, _, _, rfl, _⟩ := h; rfl) fun cdv A outer s H E hr => have hr1 := hr; have hr2 : Room 2 _ := hr.mono (by decide); ⟨_, (pss_cons (ps_set (i := 1) sc.nd rfl (Or.inl rfl) (pe_make0 M GH hr2 rfl gH bH .nil pass0))
      (pss_cons (ps_for (passes_of rfl) rfl (pi_enum (by rfl) B.enumerate_ (pa_cons (pe_m1 (r := rSplit) PySem.F.slot_str_split PySem.F.type_str_split mt_split (pv 0) pe_str) pa_nil)) (pg_tupK (K := K) (n := 2) rfl rfl (pgs_cons (pg_name (i := 2) sc.nd rfl (Or.inl rfl)) (pgs_cons (pg_name (i := 3) sc.nd rfl (Or.inl rfl)) pgs_nil))) (pss_cons (ps_set (i := 4) sc.nd rfl (Or.inl rfl) (pe_callC C_words_of hr1 rfl (pa_cons (pv 3) pa_nil)))
      (pss_one (ps_if (pt_cmpR op_gt (pe_callB (r := rLen K) call_lenK (by rfl) B.len_ (by decide +kernel) (pa_cons (pv 4) pa_nil)) pe_int (nomark _)) (pss_cons (ps_set (i := 5) sc.nd rfl (Or.inl rfl) (pe_callC C_hall_row hr1 rfl (pa_cons (pv 1) (pa_cons (pe_ix (r := rIxL K) ix_list (pv 4) pe_int (fun _ _ => rfl)) (pa_cons (pe_slice (r := rSlL K) sl_list (pv 4) (po_some pe_int) po_none) pa_nil)))))
      (pss_one (ps_if (pt_cmpR op_ne (pv 5) pe_str (nomark _)) (pss_one (ps_raise rfl (takes_of rfl rfl rfl rfl) (pmk_oex T.ox T.iB T.tB GB hr2 bB .nil pass0 rfl T.gB (pa_cons (pv 2) (pa_cons (pv 5) pa_nil))))) pss_nil))) pss_nil))))
      (pss_one (ps_ret (pv 1))))), fun vs Q hsp => ?_⟩
  obtain ⟨G, x, sm, rfl, hx, hgood, hbad⟩ := hsp
  have ok : Cok (Bs No G H) := Bs.ok
  have sl : Slots G (start N_read_hall [.str x]) (slots0 [.str x] 5) := Slots.args (.cons (.str x (Nat.le_trans hx (by decide))) .nil) 5
  refine (?_ : Run _ (Bs No G H) _ _) G _ H (Stp.refl sm) sl
  refine run_hall (Z := fun a => ∀ p ∈ a.list, H p = none) ok (fun G1 H1 a k hp p hm => k.th p (hp p hm)) fun a ha => ?_
  generalize hrs : Txt.split x (Str.ofString "\n") = rows at hgood hbad
  have hcnt : rows.length ≤ 500001 := by
    have := (split_pieces (x := x) (y := Str.ofString "\n") (by decide +kernel) (by decide +kernel)).2
    rw [hrs] at this; omega
  have hrl : ∀ r ∈ rows, r.length ≤ 500000 := fun r hr => by
    have := (split_pieces (x := x) (y := Str.ofString "\n") (by decide +kernel) (by decide +kernel)).1 r (by rw [hrs]; exact hr)
    omega
  have ok1 : Cok (fun G1 H1 => Bs No G H G1 H1 ∧ HallAt cl a {} G1 H1) := ⟨fun c => c.2.ins |> fun _ => ok.sub c.1, fun c p => ⟨ok.stp c.1 p, c.2.stp p fun _ _ z => z⟩⟩
  let Cf : Nat → Hp → Hp → Prop := fun i G1 H1 => Bs No G H G1 H1 ∧ HallAt cl a (toldBy {} (rows.take i)) G1 H1 ∧ faultsBy {} 0 (rows.take i) = []
  have okf : ∀ i, Cok (Cf i) := fun i => ⟨fun c => ok.sub c.1, fun c p => ⟨ok.stp c.1 p, c.2.1.stp p fun _ _ z => z, c.2.2⟩⟩
  have hS : ∀ p, a.S p → H p = none := fun p hp => ha p hp
  refine run_seq (run_for (S := a.S) (idx 0 rows) (fun p => Dt.tup [.int (p.1 : Nat), .str p.2]) (fun p => [(2, .int (p.1 : Nat)), (3, .str p.2)]) Cf (fun _ => [some (.str x), some (.obj a.x), none, none, none, none]) ok1 okf
    (by
      rw [← enum_idx]
      exact ei_enum (ea_cons ok1 (EvD.is (ev_m1 ok1 (ev_var ok1 rfl) (ev_str ok1) (rm_split ok1 (by decide +kernel) (by rw [hrs]; exact fun z hz => Nat.le_trans (hrl z hz) (by decide)))) (by rw [hrs])) (ea_nil ok1)))
    (fun _ _ => tg_tup (tgs_cons tg_name (tgs_cons tg_name tgs_nil)) rfl) (fun G1 H1 k => ⟨k.1, k.2, rfl⟩) (Less.refl _) (fun i y hy Ga Ha ca => ?_) ?_)
  · obtain ⟨k, r⟩ := y
    obtain ⟨hk, hr⟩ := idx_at rows 0 i (k, r) hy
    rw [Nat.zero_add] at hk
    replace hk : k = i := hk
    replace hr : rows[i]? = some r := hr
    subst hk
    have hrm : r ∈ rows := List.mem_of_getElem? hr
    have hlr := hrl r hrm
    have ok2 : Cok (In (Cf k) a.S Ga Ha) := In.ok (okf k)
    have htk : rows.take (k + 1) = rows.take k ++ [r] := take_get hr
    have hki : k < rows.length := (List.getElem?_eq_some_iff.mp hr).1
    have hsz : (toldBy {} (rows.take k)).size < 1000000 := by
      have := toldBy_size (rows.take k) {}
      rw [List.length_take] at this
      have e0 : (({} : Told)).size = 0 := rfl
      omega
    have hsp : rows = rows.take k ++ r :: rows.drop (k + 1) := take_cons_drop hr
    refine run_set ok2 (d := .lst (tx (wordsOf r))) (ev_call ok2 (ea_cons ok2 (ev_var ok2 rfl) (ea_nil ok2)) rfl (fun _ _ _ => ⟨r, rfl, by omega, rfl⟩)) ?_
    cases hw : wordsOf r with
    | nil =>
      have hst : rowStep (toldBy {} (rows.take k)) r = (("" : Str), toldBy {} (rows.take k)) := by unfold rowStep; rw [hw]
      refine run_if (b := false) ok2 (EvT.is (by walk_at "ev") (by simp)) (fun e => by cases e) (fun _ G1 σ1 H1 k1 s1 => ?_)
      refine ⟨G1, k1.2, ⟨k1.1.1, ?_, ?_⟩, s1.less (.keep (.keep (.gone (.gone (.gone (.keep .nil))))))⟩
      · rw [htk, toldBy_app]
        show HallAt cl a (rowStep (toldBy {} (rows.take k)) r).2 _ _
        rw [hst]; exact k1.1.2.1
      · rw [htk, faultsBy_app, k1.1.2.2]
        show (if (rowStep (toldBy {} (rows.take k)) r).1 = "" then _ else _) = _
        rw [hst]; rfl
    | cons h ws =>
      have hst : rowStep (toldBy {} (rows.take k)) r = hallRow (toldBy {} (rows.take k)) h ws := by unfold rowStep; rw [hw]
      have hwl : (h :: ws).length ≤ 500001 := by
        have := wordsOf_count r
        rw [hw] at this; omega
      have h0 : atI (tx (h :: ws)) 0 = some (.str h) := at_nat (k := 0) rfl
      refine run_if (b := true) ok2 (EvT.is (by walk_at "ev") (by simp)) (fun _ => ?_) (fun e => by cases e)
      refine run_setX (C' := fun G1 H1 => Stp a.S Ga Ha G1 H1 ∧ Bs No G H G1 H1 ∧ HallAt cl a (rowStep (toldBy {} (rows.take k)) r).2 G1 H1) (d := .str (rowStep (toldBy {} (rows.take k)) r).1) ok2
        (ea_cons ok2 (ev_var ok2 rfl) (ea_cons ok2 (by walk_at "ev") (ea_cons ok2 (ev_drop 1 ok2 (ev_var ok2 rfl)) (ea_nil ok2)))) rfl
        (fun G1 H1 k1 => ⟨_, ⟨a, _, h, ws, rfl, k1.1.2.1, by simp only [List.length_cons] at hwl; omega, hsz, rfl⟩, fun G2 H2 d2 po => ⟨po.1.1.gg, ⟨k1.2.trans po.1.1, stp_absorb k1.1.1 po.1.1 hS, by rw [hst]; exact po.1.2⟩, by rw [hst]; exact po.2⟩⟩) ?_
      have ok3 : Cok (fun G1 H1 => Stp a.S Ga Ha G1 H1 ∧ Bs No G H G1 H1 ∧ HallAt cl a (rowStep (toldBy {} (rows.take k)) r).2 G1 H1) := ⟨fun c => c.1.gh, fun c p => ⟨c.1.trans (Stp.of p), ok.stp c.2.1 p, c.2.2.stp p fun _ _ z => z⟩⟩
      refine run_if ok3 (by walk_at "ev") (fun e => ?_) (fun e G1 σ1 H1 k1 s1 => ?_)
      · have e1 : (rowStep (toldBy {} (rows.take k)) r).1 ≠ "" := by simpa using e
        refine run_bad ok3 (ea_cons ok3 (ev_var ok3 rfl) (ea_cons ok3 (ev_var ok3 rfl) (ea_nil ok3))) fun G1 σ1 H1 p wd k1 s1 rp rw d hd => ?_
        cases rp; cases rw
        have hf : faultsBy {} 0 rows = (k, (rowStep (toldBy {} (rows.take k)) r).1) :: faultsBy (rowStep (toldBy {} (rows.take k)) r).2 (k + 1) (rows.drop (k + 1)) := by
          have hlen : (rows.take k).length = k := by rw [List.length_take]; omega
          have h2 : faultsBy {} 0 (rows.take k ++ r :: rows.drop (k + 1)) = _ := faultsBy_app _ _ _ _
          rw [← hsp, ca.2.2, hlen, Nat.zero_add, List.nil_append] at h2
          rw [h2]
          show (if (rowStep (toldBy {} (rows.take k)) r).1 = "" then _ else _) = _
          rw [if_neg e1]
        exact hbad _ _ _ hf d G1 _ (k1.2.1.trans (Pu.newM k1.1.gh hd)) (k1.1.gh.free hd) upd_same
      · have e1 : (rowStep (toldBy {} (rows.take k)) r).1 = "" := by simpa using e
        refine ⟨G1, k1.1, ⟨k1.2.1, ?_, ?_⟩, s1.less (.keep (.keep (.gone (.gone (.gone (.gone .nil))))))⟩
        · rw [htk, toldBy_app]; exact k1.2.2
        · rw [htk, faultsBy_app, ca.2.2]
          show (if (rowStep (toldBy {} (rows.take k)) r).1 = "" then _ else _) = _
          rw [if_pos e1]; rfl
  · have e : (idx 0 rows).length = rows.length := idx_len rows 0
    refine run_nx (run_ret (okf _) (ev_var (okf _) rfl) rfl (fun v G1 H1 k1 r1 => ?_))
    cases r1
    have k2 := k1.2
    rw [e, List.take_length] at k2
    exact hgood a G1 H1 k2.2 k1.1 k2.1
end
end Kx

namespace Kx
open PySem L2
/-! ## in a tuple of lists -/
def rInX (K : PySem.W.Frag) : R2 := fun x y H Q => ∃ d ds, Dp K H x d ∧ Dp K H y (.tuple ds) ∧ SeqAt.shaped d = true ∧ SeqAt.shaped (.tuple ds) = true ∧ d.depth ≤ 60 ∧ Q (.bl (ds.any fun z => PyData.eqv z d)) H
theorem op_inX {X : Cx} (hu : X.A.units + 64 < cLine) : OpR X (compareOp .In) (rInX X.K) := by
  intro pins s σ H x y v u Q I rx ry h
  obtain ⟨d, ds, hd, he, sd, se, dd, q⟩ := h
  obtain ⟨as, r1⟩ := Dp.reads I d x v hd rx
  obtain ⟨bs, r2⟩ := Dp.reads I (.tuple ds) y u he ry
  exact SeqAt.in_tuple_reads r2 r1 (SeqAt.canLay_of_shaped se) (SeqAt.canLay_of_shaped sd) (Nat.lt_of_le_of_lt (Nat.add_le_add_left (Nat.le_trans (Nat.min_le_right _ _) dd) _) (by omega)) ⟨.bl _, H, I, rfl, q⟩
/-! ## The law's own predicates -/
theorem numV_zero {r : Str} (h : isNum r = true) : decide (numV r ≠ 0) = !decide (r = "0") := by
  unfold isNum at h
  simp only [Bool.and_eq_true, Bool.or_eq_true, decide_eq_true_eq] at h
  obtain ⟨⟨⟨h1, h5⟩, hd⟩, h0⟩ := h
  by_cases e : r = "0"
  · subst e; decide +kernel
  · rw [decide_eq_false e]
    refine decide_eq_true ?_
    have h0' := h0.resolve_right e
    have al := digs_all hd
    cases hr : tl r with
    | nil => rw [len_tl, hr] at h1; cases h1
    | cons c l =>
      rw [hr] at h0' al
      have hc := al c List.mem_cons_self
      have hne : c ≠ 48 := fun z => h0' (by rw [z]; rfl)
      have c1 : 1 ≤ c - 48 := by omega
      have ge : ∀ (l : List Nat) (a : Nat), a ≤ l.foldl (fun acc c => acc * 10 + (c - 48)) a := fun l => by
        induction l with
        | nil => exact fun a => Nat.le_refl _
        | cons d l ih => exact fun a => Nat.le_trans (by omega) (ih (a * 10 + (d - 48)))
      have h2 := ge l (0 * 10 + (c - 48))
      unfold numV
      rw [hr]
      have h3 : 1 ≤ NumText.digitsVal (c :: l) := Nat.le_trans (by omega) h2
      omega
theorem isSigned_int {w : Str} (h : isSigned w = true) : intText? w = some (sgnV w) ∧ w.length ≤ 6 := by
  unfold isSigned at h
  unfold sgnV
  cases hn : isNeg w with
  | false =>
    rw [hn, if_neg Bool.false_ne_true] at h
    obtain ⟨h1, h2⟩ := isNum_int h
    exact ⟨by rw [h1, if_neg Bool.false_ne_true], by omega⟩
  | true =>
    rw [hn, if_pos rfl, Bool.and_eq_true] at h
    obtain ⟨h1, h2⟩ := isNum_int h.1
    have hd : tl (rest1 w) = (tl w).drop 1 := tl_cutR w 1
    have hn2 : (tl w).take 1 = [45] := of_decide_eq_true hn
    have hr := h.1
    unfold isNum at hr
    simp only [Bool.and_eq_true, decide_eq_true_eq] at hr
    have al := digs_all hr.1.2
    cases hx0 : tl w with
    | nil => rw [hx0] at hn2; cases hn2
    | cons c r =>
      rw [hx0] at hn2 hd
      have hc : c = 45 := by simpa using hn2
      subst hc
      have hd' : tl (rest1 w) = r := hd
      rw [hd'] at al
      have hl : w.length ≤ 6 := by rw [len_tl, hd'] at h2; rw [len_tl, hx0, List.length_cons]; omega
      refine ⟨?_, hl⟩
      rw [if_pos rfl, intText_neg hx0 al (fun e => ?_) (by omega)]
      · unfold numV; rw [hd']
      · have h3 := hr.1.1.1
        rw [len_tl, hd', e] at h3
        cases h3
section
variable {P : Program} {w : World} {K : PySem.W.Frag} {mg : Str → Option Value} {base : Heap}
local macro_rules | `(tactic| walk_at "ev") => `(tactic| with_reducible first
  | (show EvD _ _ _ _; first
    | exact ev_var (by assumption) rfl
    | exact ev_int (by assumption)
    | exact ev_str (by assumption)
    | exact ev_non (by assumption)
    | exact ev_bl (by assumption)
    | (refine' ev_call (by assumption) ?_ ?_ ?_ <;> (try walk_at "ev"))
    | (refine' ev_op (by assumption) ?_ ?_ ?_ <;> (try walk_at "ev"))
    | (refine' ev_un (by assumption) ?_ rfl <;> (try walk_at "ev"))
    | (refine' ev_andV (by assumption) ?_ (fun _ => ?_) <;> (try walk_at "ev"))
    | (refine' ev_orV (by assumption) ?_ (fun _ => ?_) <;> (try walk_at "ev"))
    | (refine' ev_notV (by assumption) ?_ <;> (try walk_at "ev"))
    | (refine' ev_chain (by assumption) ?_ ?_ ?_ ?_ ?_ <;> (try walk_at "ev"))
    | (refine' ev_cb (by assumption) ?_ ?_ <;> (try walk_at "ev"))
    | (refine' ev_bm (by assumption) ?_ ?_ ?_ <;> (try walk_at "ev"))
    | (refine' ev_m1 (by assumption) ?_ ?_ ?_ <;> (try walk_at "ev"))
    | (refine' ev_sliceS (by assumption) ?_ ?_ ?_ <;> (try walk_at "ev"))
    | (refine' ev_slice (by assumption) ?_ ?_ ?_ <;> (try walk_at "ev"))
    | (refine' ev_tup (by assumption) ?_ ?_ <;> (try walk_at "ev"))
    | (refine' ev_lst (by assumption) ?_ ?_ <;> (try walk_at "ev"))
    | exact ev_h_shapes (by assumption) (by assumption) (by assumption) (ev_var (by assumption) rfl)
    | exact ev_h_marks (by assumption) (by assumption) (by assumption) (ev_var (by assumption) rfl)
    | exact ev_h_points (by assumption) (by assumption) (by assumption) (ev_var (by assumption) rfl)
    | exact ev_h_letters (by assumption) (by assumption) (by assumption) (ev_var (by assumption) rfl)
    | exact ev_h_gaps (by assumption) (by assumption) (by assumption) (ev_var (by assumption) rfl)
    | exact ev_h_classes (by assumption) (by assumption) (by assumption) (ev_var (by assumption) rfl)
    | exact ev_h_features (by assumption) (by assumption) (by assumption) (ev_var (by assumption) rfl)
    | exact ev_h_rules (by assumption) (by assumption) (by assumption) (ev_var (by assumption) rfl)
    | (refine' ev_dinK (by assumption) ?_ ?_ ?_ <;> (try walk_at "ev"))
    | (refine' ev_dniK (by assumption) ?_ ?_ ?_ <;> (try walk_at "ev"))
    | (refine' ev_dinT (by assumption) ?_ ?_ ?_ <;> (try walk_at "ev")))
  | (show EvA _ _ _ _; first
    | exact ea_nil (by assumption)
    | (refine' ea_cons (by assumption) ?_ ?_ <;> (try walk_at "ev")))
  | (show RV _ _ _ _ _; first
    | exact rv_int (by assumption)
    | exact rv_cmp (by assumption)
    | exact rv_eq (by assumption) rfl
    | exact rv_ne (by assumption) rfl
    | exact rv_isN (by assumption) rfl
    | exact rv_notN (by assumption) rfl
    | exact rv_inT (by assumption) (.inl rfl)
    | exact rv_inT (by assumption) (.inr rfl)
    | exact rv_niT (by assumption) (.inl rfl)
    | exact rv_niT (by assumption) (.inr rfl)
    | exact rv_inS (by assumption)
    | exact rv_niS (by assumption)
    | exact rv_ixS (by assumption) (by assumption)
    | exact rv_ixL (by assumption) (by assumption)
    | exact rv_ixT (by assumption) (by assumption)
    | exact rv_ixT (by assumption) rfl
    | exact rv_ixL (by assumption) rfl
    | (refine' rv_inM (by assumption) ?_ <;> (try walk_at "ev"))
    | (refine' rv_niM (by assumption) ?_ <;> (try walk_at "ev"))
    | (refine' rv_inX (by assumption) ?_ (.inl rfl) <;> (try walk_at "ev"))
    | (refine' rv_inX (by assumption) ?_ (.inr rfl) <;> (try walk_at "ev"))
    | (refine' rv_niX (by assumption) ?_ (.inl rfl) <;> (try walk_at "ev"))
    | (refine' rv_niX (by assumption) ?_ (.inr rfl) <;> (try walk_at "ev"))
    | exact rv_in (neg := false) (by assumption) rfl rfl (.inr rfl)
    | exact rv_in (neg := true) (by assumption) rfl rfl (.inr rfl)
    | exact rv_intC (g := fun i j => i % j) (by assumption) (by decide)
    | exact rv_intC (g := fun i j => i / j) (by assumption) (cdiv_ok (by decide)))
  | (show EvT _ _ _ _; first
    | exact et_yes (by assumption)
    | (refine' et_and (by assumption) ?_ (fun _ => ?_) <;> (try walk_at "ev"))
    | (refine' et_or (by assumption) ?_ (fun _ => ?_) <;> (try walk_at "ev"))
    | (refine' et_not ?_ <;> (try walk_at "ev"))
    | (refine' et_test ?_ <;> (try walk_at "ev"))
    | (refine' et_B ?_ <;> (try walk_at "ev")))
  | (show RC _ _ _ _; first
    | exact rc_lenL (by assumption)
    | exact rc_lenT (by assumption)
    | exact rc_lenS (by assumption)
    | exact rc_all (by assumption)
    | exact rc_intB (by assumption)
    | exact rc_strS (by assumption)
    | exact rc_listOf (by assumption) (.inl rfl)
    | exact rc_listOf (by assumption) (.inr rfl)
    | exact rc_tupOf (by assumption)
    | (refine' rc_lenD (by assumption) ?_ <;> (try walk_at "ev"))
    | (refine' rc_lenM (by assumption) ?_ <;> (try walk_at "ev")))
  | (show RM _ _ _ _ _; first
    | exact rm_strip' (by assumption))
  | (show EvO _ _ _ _; first
    | exact eo_none (by assumption)
    | (refine' eo_some ?_ <;> (try walk_at "ev")))
  | (show List.length _ ≤ Lim; with_unfolding_all exact Nat.le_of_ble_eq_true rfl)
  | (show List.length _ = _; with_unfolding_all rfl)
  | exact (fun _ _ _ => ⟨_, rfl, rfl⟩)
  | exact (fun _ _ _ => ⟨_, _, rfl, rfl⟩)
  | exact (fun _ _ _ => ⟨_, _, _, rfl, rfl⟩)
  | exact (fun _ _ _ => ⟨_, rfl, by assumption, rfl⟩)
  | exact hall_s (by assumption)
  | exact hall_m (by assumption)
  | exact hall_p (by assumption)
  | exact hall_l (by assumption)
  | exact hall_g (by assumption)
  | exact hall_c (by assumption)
  | exact hall_f (by assumption)
  | exact hall_r (by assumption)
  | exact TxL.of _
  | exact TxL.nil
  | (refine' TxL.cons ?_ <;> (try walk_at "ev")))


abbrev s_law_is_name : Stmt := top 53
abbrev N_law_is_name : List Str := ["_law_word_here", "_law_sign"]
abbrev P_law_is_name : List Str := ["_law_word_here"]
theorem sc_law_is_name : FnScope N_law_is_name P_law_is_name (defScope s_law_is_name) := ⟨rfl, rfl, rfl, by decide +kernel, rfl, by decide +kernel, by decide +kernel⟩

theorem cal_law_is_name (B : Blt mg) (D : Dfn K mg "_law_is_name" s_law_is_name) : Cal P w K mg base "_law_is_name" 1 P_law_is_name spIsName := by
  have sc := sc_law_is_name
  refine cal_of D (fun f fd F => fnok F sc fun cdv A outer s H E hr => ⟨_, (pss_cons (ps_for PassesOwn.never rfl (pi_str (pv 0)) (pg_name (i := 1) sc.nd rfl (Or.inl rfl)) (pss_one (ps_if (pt_cmpR op_notInS (pv 1) pe_str rfl) (pss_one (ps_ret pe_bl)) pss_nil)))
      (pss_one (ps_ret (pe_chain op_lt op_lt pe_int (pe_callB (r := rLen K) call_lenK (by rfl) B.len_ (by decide +kernel) (pa_cons (pv 0) pa_nil)) pe_int)))), fun G as r D hl sm hp hq hx => ?_⟩) (fun _ _ _ _ _ _ us hl => match us, hl with | [_], _ => rfl)
  obtain ⟨x, rfl, rfl⟩ := hp
  have ok : Cok (Bs No G H) := Bs.ok
  refine run_find_seq (tl x) (fun c => Dt.str ⟨#[c]⟩) (fun c => [(1, .str ⟨#[c]⟩)]) [some (.str x), none] (fun c => !decide (c ∈ tl SIG)) ok (ei_str (by walk_at "ev")) (fun _ _ => tg_name) (Less.refl _) (fun y hy => .keep (.gone .nil)) (fun y hy => by walk_at "ev") (fun y hy e D' hD' => ?_) (fun hn => ?_)
  · refine run_ret ok (ev_bl ok) ?_ (hq.of hD')
    have hy2 : ¬ y ∈ tl SIG := by simpa using e
    have h2 : ((tl x).all fun c => decide (c ∈ tl SIG)) = false := List.all_eq_false.mpr ⟨y, hy, by simpa using hy2⟩
    unfold isName; rw [h2, Bool.and_false]
  · refine run_ret ok (by walk_at "ev") ?_ hq
    have h2 : ((tl x).all fun c => decide (c ∈ tl SIG)) = true := List.all_eq_true.mpr fun c hc => by simpa using hn c hc
    unfold isName; rw [h2, Bool.and_true]
    congr 1
    congr 1
    · refine decide_eq_decide.mpr ?_; omega
    · refine decide_eq_decide.mpr ?_; omega

abbrev s_law_is_number : Stmt := top 54
abbrev N_law_is_number : List Str := ["_law_word_here", "_law_sign"]
abbrev P_law_is_number : List Str := ["_law_word_here"]
theorem sc_law_is_number : FnScope N_law_is_number P_law_is_number (defScope s_law_is_number) := ⟨rfl, rfl, rfl, by decide +kernel, rfl, by decide +kernel, by decide +kernel⟩

abbrev spIsNum : Sp := SpF 1 fun _ _ as r => ∃ x, as = [.str x] ∧ r = .bl (isNum x)
theorem cal_law_is_number (B : Blt mg) (D : Dfn K mg "_law_is_number" s_law_is_number) : Cal P w K mg base "_law_is_number" 1 P_law_is_number spIsNum := by
  have sc := sc_law_is_number
  refine cal_of D (fun f fd F => fnok F sc fun cdv A outer s H E hr => ⟨_, (pss_cons (ps_for PassesOwn.never rfl (pi_str (pv 0)) (pg_name (i := 1) sc.nd rfl (Or.inl rfl)) (pss_one (ps_if (pt_cmpR op_notInS (pv 1) pe_str rfl) (pss_one (ps_ret pe_bl)) pss_nil)))
      (pss_one (ps_ret (pe_and (pe_chain op_lt op_lt pe_int (pe_callB (r := rLen K) call_lenK (by rfl) B.len_ (by decide +kernel) (pa_cons (pv 0) pa_nil)) pe_int) (pe_one (pe_or (pe_cmpR op_ne (pe_ix ix_str (pv 0) pe_int (fun _ _ => rfl)) pe_str (nomark _)) (pe_one (pe_cmpR op_eq (pv 0) pe_str (nomark _))))))))), fun G as r D hl sm hp hq hx => ?_⟩) (fun _ _ _ _ _ _ us hl => match us, hl with | [_], _ => rfl)
  obtain ⟨x, rfl, rfl⟩ := hp
  have ok : Cok (Bs No G H) := Bs.ok
  refine run_find_seq (tl x) (fun c => Dt.str ⟨#[c]⟩) (fun c => [(1, .str ⟨#[c]⟩)]) [some (.str x), none] (fun c => !decide (c ∈ tl FIG)) ok (ei_str (by walk_at "ev")) (fun _ _ => tg_name) (Less.refl _) (fun y hy => .keep (.gone .nil)) (fun y hy => by walk_at "ev") (fun y hy e D' hD' => ?_) (fun hn => ?_)
  · refine run_ret ok (ev_bl ok) ?_ (hq.of hD')
    have hy2 : ¬ y ∈ tl FIG := by simpa using e
    have h2 : digs x = false := List.all_eq_false.mpr ⟨y, hy, by simpa using hy2⟩
    unfold isNum; rw [h2, Bool.and_false, Bool.false_and]
  · have h2 : digs x = true := List.all_eq_true.mpr fun c hc => by simpa using hn c hc
    have l1 : (decide ((0 : Int) < ((x.length : Nat) : Int)) && decide (((x.length : Nat) : Int) < 6)) = (decide (1 ≤ x.length) && decide (x.length ≤ 5)) := by
      congr 1
      · refine decide_eq_decide.mpr ?_; omega
      · refine decide_eq_decide.mpr ?_; omega
    cases hx0 : tl x with
    | nil =>
      have hlen : x.length = 0 := by rw [len_tl, hx0]; rfl
      have l2 : (decide ((0 : Int) < ((x.length : Nat) : Int)) && decide (((x.length : Nat) : Int) < 6)) = false := by rw [hlen]; rfl
      refine run_ret (d := .bl false) ok (EvD.is (ev_andV (p := false) (q := false) ok (EvD.is (by walk_at "ev") (by rw [l2])) (fun e => by cases e)) rfl) ?_ hq
      unfold isNum; rw [hlen]; rfl
    | cons c rest =>
      have h0 : atI x.cps.toList (0 : Int) = some c := at0 hx0
      refine run_ret ok (by walk_at "ev") ?_ hq
      unfold isNum
      rw [l1, h2, Bool.and_true, hx0]
      congr 2
      congr 1
      show (!decide ((⟨#[c]⟩ : Str) = "0")) = decide (some c ≠ some 48)
      rw [← decide_not]
      refine decide_eq_decide.mpr ?_
      rw [← tl_inj]
      show ¬ [c] = [48] ↔ _
      simp

abbrev s_law_is_signed : Stmt := top 55
abbrev N_law_is_signed : List Str := ["_law_word_here"]
abbrev P_law_is_signed : List Str := ["_law_word_here"]
theorem sc_law_is_signed : FnScope N_law_is_signed P_law_is_signed (defScope s_law_is_signed) := ⟨rfl, rfl, rfl, by decide +kernel, rfl, by decide +kernel, by decide +kernel⟩

abbrev spIsSigned : Sp := SpF 1 fun _ _ as r => ∃ x, as = [.str x] ∧ r = .bl (isSigned x)
theorem cal_law_is_signed (B : Blt mg) (D : Dfn K mg "_law_is_signed" s_law_is_signed) (C_law_is_number : Cal P w K mg base "_law_is_number" 1 P_law_is_number spIsNum) : Cal P w K mg base "_law_is_signed" 2 P_law_is_signed spIsSigned := by
  have sc := sc_law_is_signed
  refine cal_of D (fun f fd F => fnok F sc fun cdv A outer s H E hr => have hr1 := hr; ⟨_, (pss_cons (ps_if (pt_cmpR op_eq (pe_slice (r := rSlS) sl_str (pv 0) po_none (po_some pe_int)) pe_str (nomark _)) (pss_one (ps_ret (pe_and (pe_callC C_law_is_number hr1 rfl (pa_cons (pe_slice (r := rSlS) sl_str (pv 0) (po_some pe_int) po_none) pa_nil)) (pe_one (pe_cmpR op_ne (pv 0) pe_str (nomark _)))))) pss_nil)
      (pss_one (ps_ret (pe_callC C_law_is_number hr1 rfl (pa_cons (pv 0) pa_nil))))), fun G as r D hl sm hp hq hx => ?_⟩) (fun _ _ _ _ _ _ us hl => match us, hl with | [_], _ => rfl)
  obtain ⟨x, rfl, rfl⟩ := hp
  have ok : Cok (Bs No G H) := Bs.ok
  have eN : decide (cutS x none (some 1) = "-") = isNeg x := head1_eq x 45 "-" (by decide +kernel)
  refine run_when ok (by walk_at "ev") (fun e => ?_) (fun e => ?_) <;> rw [eN] at e
  · refine run_ret ok (by walk_at "ev") ?_ hq
    unfold isSigned; rw [e, if_pos rfl]
    cases hn : isNum (rest1 x) with
    | false => unfold rest1 at hn; rw [hn, Bool.false_and, Bool.false_and]
    | true =>
      rw [numV_zero hn]
      unfold rest1 at hn ⊢; rw [hn, Bool.true_and, Bool.true_and, ← decide_not, ← decide_not]
      congr 1
      refine decide_eq_decide.mpr (not_congr ?_)
      have hd : tl (cutS x (some 1) none) = (tl x).drop 1 := tl_cutR x 1
      have hn2 : (tl x).take 1 = [45] := of_decide_eq_true e
      rw [← tl_inj, ← tl_inj, hd]
      show _ ↔ (tl x).drop 1 = [48]
      rw [show tl "-0" = [45, 48] by decide +kernel]
      cases hx0 : tl x with
      | nil => rw [hx0] at hn2; cases hn2
      | cons c r =>
        rw [hx0] at hn2
        have hc : c = 45 := by simpa using hn2
        subst hc
        simp
  · refine run_ret ok (by walk_at "ev") ?_ hq
    unfold isSigned; rw [e, if_neg Bool.false_ne_true]
end
end Kx

namespace Kx
open PySem L2
/-! ## What stood may be taken to stay for good, relative to an entry at which it was not there -/
def sealL (L : List Addr) (G H : Hp) : Hp := fun b => if b ∈ L then H b else G b
section
variable {L : List Addr} {G0 H0 G H : Hp} {p : Addr}
theorem seal_same (h : Same G H) : Same G (sealL L G H) := fun b o e => by
  unfold sealL; split
  · exact h b o e
  · exact e
theorem seal_gh (h : Same G H) : Same (sealL L G H) H := fun b o e => by
  unfold sealL at e; split at e
  · exact e
  · exact h b o e
theorem seal_stp {S : Addr → Prop} (st : Stp S G0 H0 G H) (n : ∀ b ∈ L, H0 b = none) : Stp S G0 H0 (sealL L G H) H :=
  ⟨st.gg.trans (seal_same st.gh), seal_gh st.gh, st.hh, st.th, fun b o e g => by
    unfold sealL; split
    · rename_i hb; rw [n b hb] at e; cases e
    · exact st.ap b o e g⟩
theorem seal_mu {xs : List Dt} (m : Mu p xs G H) (h : Same G H) (hp : p ∈ L) : Rep (sealL L G H) (.ref p) (.lst xs) := by
  obtain ⟨_, vs, e, r⟩ := m
  exact .lst (show sealL L G H p = _ by unfold sealL; rw [if_pos hp]; exact e) (r.mono (seal_same h))
end
theorem run_ex {ι : Type} {C : ι → Hp → Hp → Prop} {ds : List (Option Dt)} {t : TS} {D : Ends} (h : ∀ q, Run t (C q) ds D) : Run t (fun G H => ∃ q, C q G H) ds D := fun G σ H ⟨q, k⟩ s => h q G σ H k s
theorem run_fact {P : Prop} {C : Hp → Hp → Prop} {ds : List (Option Dt)} {t : TS} {D : Ends} (h : ∀ G H, C G H → P) (q : P → Run t C ds D) : Run t C ds D := fun G σ H k s => q (h G H k) G σ H k s
theorem run_morph {C C' : Hp → Hp → Prop} {ds ds' : List (Option Dt)} {t : TS} {D : Ends} (m : ∀ G σ H, C G H → Slots G σ ds → ∃ G', C' G' H ∧ Slots G' σ ds') (h : Run t C' ds' D) : Run t C ds D := fun G σ H k s => by
  obtain ⟨G', k', s'⟩ := m G σ H k s
  exact h G' σ H k' s'
theorem Slots.recast {G : Hp} {v : V} {d' : Dt} (h : Rep G v d') : ∀ {σ : St} {ds : List (Option Dt)} (i : Nat), Slots G σ ds → σ[i]? = some (some v) → Slots G σ (ds.set i (some d'))
  | _, _, _, .nil, e => by simp at e
  | _, _, 0, .any r, e => by
    have e' := Option.some.inj (show some _ = some (some v) from e)
    subst e'; exact .val h r
  | _, _, 0, .val _ r, e => by
    have e' := Option.some.inj (show some _ = some (some v) from e)
    cases e'; exact .val h r
  | _, _, i + 1, .any r, e => .any (Slots.recast h i r e)
  | _, _, i + 1, .val q r, e => .val q (Slots.recast h i r e)
/-! ## a list of lists that change -/
structure LL (pl : Addr) (qs : List Addr) (ss : List (List Str)) (G H : Hp) : Prop where
  out : Mu pl (qs.map Dt.obj) G H
  len : qs.length = ss.length
  inn : ∀ (i : Nat) q s, qs[i]? = some q → ss[i]? = some s → Mu q (tx s) G H
  nd : qs.Nodup
  np : pl ∉ qs
theorem LL.stp {pl : Addr} {qs : List Addr} {ss : List (List Str)} {G H G' H' : Hp} (l : LL pl qs ss G H) (st : Pu G H G' H') : LL pl qs ss G' H' :=
  ⟨l.out.stp st, l.len, fun i q s h1 h2 => (l.inn i q s h1 h2).stp st, l.nd, l.np⟩
/-- the text of the marks -/
def catS (l : List Str) : Str := ⟨((l.map tl).flatten).toArray⟩
theorem tl_catS (l : List Str) : tl (catS l) = (l.map tl).flatten := by simp [catS, tl]
theorem catS_snoc (l : List Str) (w : Str) : catS (l ++ [w]) = catS l ++ w := ext_tl (by rw [tl_app, tl_catS, tl_catS]; simp)
theorem marks_snoc (ws : List Str) (w : Str) : marks (ws ++ [w]) = if isMark w then marks ws ++ [w] else marks ws := by
  unfold marks
  rw [List.filter_append, List.filter_cons]
  split <;> simp
theorem segs_snoc (w : Str) : ∀ (ws : List Str) (A : List (List Str)) (l : List Str), segs ws = A ++ [l] → segs (ws ++ [w]) = if isMark w then A ++ [l] ++ [[]] else A ++ [l ++ [w]]
  | [], A, l, h => by
    have hA : A = [] ∧ l = [] := by
      cases A with
      | nil => exact ⟨rfl, (List.cons.inj h).1.symm⟩
      | cons a A => have := (List.cons.inj h).2; cases A <;> cases this
    obtain ⟨rfl, rfl⟩ := hA
    show segs [w] = _
    rw [segs]; cases isMark w <;> rfl
  | v :: ws, A, l, h => by
    show segs (v :: (ws ++ [w])) = _
    rw [segs] at h ⊢
    cases hv : isMark v with
    | true =>
      rw [hv, if_pos rfl] at h
      rw [if_pos rfl]
      cases A with
      | nil => exact absurd (List.cons.inj h).2 (segs_ne ws)
      | cons a A =>
        obtain ⟨rfl, h2⟩ := List.cons.inj h
        rw [segs_snoc w ws A l h2]
        cases isMark w <;> rfl
    | false =>
      rw [hv, if_neg Bool.false_ne_true] at h
      rw [if_neg Bool.false_ne_true]
      cases hs : segs ws with
      | nil => exact absurd hs (segs_ne ws)
      | cons p ps =>
        rw [hs] at h
        replace h : (v :: p) :: ps = A ++ [l] := h
        cases A with
        | nil =>
          obtain ⟨rfl, rfl⟩ := List.cons.inj h
          rw [segs_snoc w ws [] p hs]
          cases isMark w <;> rfl
        | cons a A =>
          obtain ⟨rfl, h2⟩ := List.cons.inj h
          subst h2
          rw [segs_snoc w ws (p :: A) l hs]
          cases isMark w <;> rfl
theorem mark_tl {w : Str} (h : isMark w = true) : (w = "/" ∧ tl w = [47]) ∨ (w = ">" ∧ tl w = [62]) := by
  have m : w ∈ (["/", ">"] : List Str) := of_decide_eq_true h
  simp only [List.mem_cons, List.not_mem_nil, or_false] at m
  rcases m with rfl | rfl
  · exact .inl ⟨rfl, by decide +kernel⟩
  · exact .inr ⟨rfl, by decide +kernel⟩
theorem catS_len : ∀ {l : List Str}, (∀ w ∈ l, isMark w = true) → (catS l).length = l.length := fun {l} h => by
  rw [len_tl, tl_catS]
  induction l with
  | nil => rfl
  | cons w l ih =>
    have h1 : (tl w).length = 1 := by rcases mark_tl (h w List.mem_cons_self) with ⟨_, e⟩ | ⟨_, e⟩ <;> rw [e] <;> rfl
    rw [List.map_cons, List.flatten_cons, List.length_append, ih fun z hz => h z (List.mem_cons_of_mem _ hz), h1, List.length_cons]; omega
theorem catS_three {l : List Str} (h : ∀ w ∈ l, isMark w = true) : catS l = "//>" ↔ l = (["/", "/", ">"] : List Str) := by
  constructor
  · intro e
    have hl : l.length = 3 := by rw [← catS_len h, e]; decide +kernel
    obtain ⟨a, b, c, rfl⟩ := len3 hl
    have e2 : tl a ++ (tl b ++ (tl c ++ [])) = [47, 47, 62] := by
      have := tl_catS [a, b, c]
      rw [e] at this
      exact this.symm.trans (by decide +kernel)
    have ha := mark_tl (h a (by simp))
    have hb := mark_tl (h b (by simp))
    have hc := mark_tl (h c (by simp))
    have ka : tl a = [47] := by
      rcases ha with ⟨_, t⟩ | ⟨_, t⟩
      · exact t
      · rw [t] at e2; exact absurd (List.cons.inj e2).1 (by decide)
    rw [ka] at e2
    have e3 : tl b ++ (tl c ++ []) = [47, 62] := (List.cons.inj e2).2
    have kb : tl b = [47] := by
      rcases hb with ⟨_, t⟩ | ⟨_, t⟩
      · exact t
      · rw [t] at e3; exact absurd (List.cons.inj e3).1 (by decide)
    rw [kb] at e3
    have kc : tl c = [62] := by rw [← List.append_nil (tl c)]; exact (List.cons.inj e3).2
    rw [ext_tl (ka.trans (show [47] = tl "/" by decide +kernel)), ext_tl (kb.trans (show [47] = tl "/" by decide +kernel)), ext_tl (kc.trans (show [62] = tl ">" by decide +kernel))]
  · rintro rfl; decide +kernel
theorem marks_all (ws : List Str) : ∀ w ∈ marks ws, isMark w = true := fun w h => (List.mem_filter.mp h).2
theorem marks_len (ws : List Str) : (marks ws).length ≤ ws.length := List.length_filter_le _ _
theorem segs_last (ws : List Str) : ∃ A l, segs ws = A ++ [l] := by
  have h := segs_ne ws
  exact ⟨(segs ws).dropLast, (segs ws).getLast h, (List.dropLast_concat_getLast h).symm⟩
theorem segs_cnt : ∀ ws : List Str, (segs ws).length = (marks ws).length + 1
  | [] => rfl
  | w :: r => by
    have ih := segs_cnt r
    unfold marks at ih ⊢
    rw [segs, List.filter_cons]
    cases hw : isMark w with
    | true => rw [if_pos rfl, if_pos rfl, List.length_cons, List.length_cons, ih]
    | false =>
      rw [if_neg Bool.false_ne_true, if_neg Bool.false_ne_true]
      cases hs : segs r with
      | nil => exact absurd hs (segs_ne r)
      | cons p ps => rw [hs] at ih; exact ih
section
variable {C : Hp → Hp → Prop} {ds : List (Option Dt)} {K : PySem.W.Frag} {ta te : TE} {tl' : TA} {u : TS} {D : Ends} {d : Dt}
theorem RV.is2 {r : R2} {a b b' c c' : Dt} (h : RV r C a b c) (e : b = b') (f : c = c') : RV r C a b' c' := e ▸ f ▸ h
theorem rv_ixM {p : Addr} {xs : List Dt} {i : Int} (ok : Cok C) (hf : ∀ G H, C G H → Mu p xs G H) (h : atI xs i = some d) : RV (rIxL K) C (.obj p) (.int i) d := fun G H v w k r1 r2 Q q => by
  cases r1; cases r2
  obtain ⟨_, vs, e, r⟩ := hf G H k
  obtain ⟨v, e2, r2⟩ := atI_rep r h
  exact ⟨_, _, i, v, rfl, rfl, SqL.of e, e2, q v G H (Pu.r ok k) r2⟩
end
theorem anyF : ∀ l : List Bool, ((l.map Dt.bl).any fun y => eqD y (.bl false)) = !l.all id
  | [] => rfl
  | b :: l => by
    rw [List.map_cons, List.any_cons, anyF l, List.all_cons]
    cases b <;> rfl
theorem flat_bl : ∀ l : List Bool, (l.map Dt.bl).all flatD = true
  | [] => rfl
  | _ :: l => flat_bl l
theorem atSign {x : Str} {c : Nat} {r : List Nat} (h : tl x = c :: r) : decide ((⟨#[c]⟩ : Str) = "@") = decide ((tl x).take 1 = [64]) := by
  refine decide_eq_decide.mpr ?_
  rw [← tl_inj, h]
  show [c] = [64] ↔ [c] = [64]
  exact Iff.rfl
theorem isItem_or (w : Str) : isItem w = (isName w || (decide ((tl w).take 1 = [64]) && isName (rest1 w))) := by
  unfold isItem
  cases h : decide ((tl w).take 1 = [64]) with
  | false => simp
  | true =>
    have h1 := of_decide_eq_true h
    have h2 : isName w = false := by
      unfold isName
      cases hx : tl w with
      | nil => rw [hx] at h1; cases h1
      | cons c r =>
        rw [hx] at h1
        have hc : c = 64 := by simpa using h1
        have h3 : ((c :: r).all fun c => decide (c ∈ tl SIG)) = false := List.all_eq_false.mpr ⟨c, List.mem_cons_self, by rw [hc]; decide +kernel⟩
        rw [h3, Bool.and_false]
    rw [h2]; simp
theorem ne_tl {w : Str} (h : w ≠ "") : tl w ≠ [] := fun e => h (ext_tl e)
theorem parts_none {ws : List Str} (h : marks ws ≠ (["/", "/", ">"] : List Str)) : rulePartsOf ws = none := by
  unfold rulePartsOf partsOf; rw [if_neg h]
theorem parts_four {ws : List Str} (h : marks ws = (["/", "/", ">"] : List Str)) : ∃ a b c d, segs ws = [a, b, c, d] ∧ rulePartsOf ws = if ok4 a b c d then some (a, b, c, d) else none := by
  have hl : (segs ws).length = 4 := by rw [segs_cnt, h]; rfl
  obtain ⟨a, b, c, d, e⟩ := len4 hl
  refine ⟨a, b, c, d, e, ?_⟩
  unfold rulePartsOf partsOf; rw [if_pos h, e]
theorem segs_mem : ∀ (ws : List Str), ∀ p ∈ segs ws, ∀ w ∈ p, w ∈ ws
  | [], p, hp, w, hw => by rw [segs, List.mem_singleton] at hp; subst hp; cases hw
  | v :: r, p, hp, w, hw => by
    rw [segs] at hp
    have ih := segs_mem r
    split at hp
    · rcases List.mem_cons.mp hp with rfl | hp
      · cases hw
      · exact List.mem_cons_of_mem _ (ih p hp w hw)
    · split at hp
      · rw [List.mem_singleton] at hp; subst hp
        exact List.mem_cons.mpr (.inl (List.mem_singleton.mp hw))
      · rename_i q qs e
        rw [e] at ih
        rcases List.mem_cons.mp hp with rfl | hp
        · rcases List.mem_cons.mp hw with rfl | hw
          · exact List.mem_cons_self
          · exact List.mem_cons_of_mem _ (ih q List.mem_cons_self w hw)
        · exact List.mem_cons_of_mem _ (ih p (List.mem_cons_of_mem _ hp) w hw)
section
variable {P : Program} {w : World} {K : PySem.W.Frag} {mg : Str → Option Value} {base : Heap}
local macro_rules | `(tactic| walk_at "ev") => `(tactic| with_reducible first
  | (show EvD _ _ _ _; first
    | exact ev_var (by assumption) rfl
    | exact ev_int (by assumption)
    | exact ev_str (by assumption)
    | exact ev_non (by assumption)
    | exact ev_bl (by assumption)
    | (refine' ev_call (by assumption) ?_ ?_ ?_ <;> (try walk_at "ev"))
    | (refine' ev_op (by assumption) ?_ ?_ ?_ <;> (try walk_at "ev"))
    | (refine' ev_un (by assumption) ?_ rfl <;> (try walk_at "ev"))
    | (refine' ev_andV (by assumption) ?_ (fun _ => ?_) <;> (try walk_at "ev"))
    | (refine' ev_orV (by assumption) ?_ (fun _ => ?_) <;> (try walk_at "ev"))
    | (refine' ev_notV (by assumption) ?_ <;> (try walk_at "ev"))
    | (refine' ev_chain (by assumption) ?_ ?_ ?_ ?_ ?_ <;> (try walk_at "ev"))
    | (refine' ev_cb (by assumption) ?_ ?_ <;> (try walk_at "ev"))
    | (refine' ev_bm (by assumption) ?_ ?_ ?_ <;> (try walk_at "ev"))
    | (refine' ev_m1 (by assumption) ?_ ?_ ?_ <;> (try walk_at "ev"))
    | (refine' ev_sliceS (by assumption) ?_ ?_ ?_ <;> (try walk_at "ev"))
    | (refine' ev_slice (by assumption) ?_ ?_ ?_ <;> (try walk_at "ev"))
    | (refine' ev_tup (by assumption) ?_ ?_ <;> (try walk_at "ev"))
    | (refine' ev_lst (by assumption) ?_ ?_ <;> (try walk_at "ev"))
    | exact ev_h_shapes (by assumption) (by assumption) (by assumption) (ev_var (by assumption) rfl)
    | exact ev_h_marks (by assumption) (by assumption) (by assumption) (ev_var (by assumption) rfl)
    | exact ev_h_points (by assumption) (by assumption) (by assumption) (ev_var (by assumption) rfl)
    | exact ev_h_letters (by assumption) (by assumption) (by assumption) (ev_var (by assumption) rfl)
    | exact ev_h_gaps (by assumption) (by assumption) (by assumption) (ev_var (by assumption) rfl)
    | exact ev_h_classes (by assumption) (by assumption) (by assumption) (ev_var (by assumption) rfl)
    | exact ev_h_features (by assumption) (by assumption) (by assumption) (ev_var (by assumption) rfl)
    | exact ev_h_rules (by assumption) (by assumption) (by assumption) (ev_var (by assumption) rfl)
    | (refine' ev_dinK (by assumption) ?_ ?_ ?_ <;> (try walk_at "ev"))
    | (refine' ev_dniK (by assumption) ?_ ?_ ?_ <;> (try walk_at "ev"))
    | (refine' ev_dinT (by assumption) ?_ ?_ ?_ <;> (try walk_at "ev")))
  | (show EvA _ _ _ _; first
    | exact ea_nil (by assumption)
    | (refine' ea_cons (by assumption) ?_ ?_ <;> (try walk_at "ev")))
  | (show RV _ _ _ _ _; first
    | exact rv_int (by assumption)
    | exact rv_cmp (by assumption)
    | exact rv_eq (by assumption) rfl
    | exact rv_ne (by assumption) rfl
    | exact rv_isN (by assumption) rfl
    | exact rv_notN (by assumption) rfl
    | exact rv_inT (by assumption) (.inl rfl)
    | exact rv_inT (by assumption) (.inr rfl)
    | exact rv_niT (by assumption) (.inl rfl)
    | exact rv_niT (by assumption) (.inr rfl)
    | exact rv_inS (by assumption)
    | exact rv_niS (by assumption)
    | exact rv_ixS (by assumption) (by assumption)
    | exact rv_ixL (by assumption) (by assumption)
    | exact rv_ixT (by assumption) (by assumption)
    | exact rv_ixT (by assumption) rfl
    | exact rv_ixL (by assumption) rfl
    | (refine' rv_inM (by assumption) ?_ <;> (try walk_at "ev"))
    | (refine' rv_niM (by assumption) ?_ <;> (try walk_at "ev"))
    | (refine' rv_inX (by assumption) ?_ (.inl rfl) <;> (try walk_at "ev"))
    | (refine' rv_inX (by assumption) ?_ (.inr rfl) <;> (try walk_at "ev"))
    | (refine' rv_niX (by assumption) ?_ (.inl rfl) <;> (try walk_at "ev"))
    | (refine' rv_niX (by assumption) ?_ (.inr rfl) <;> (try walk_at "ev"))
    | exact rv_in (neg := false) (by assumption) rfl rfl (.inr rfl)
    | exact rv_in (neg := true) (by assumption) rfl rfl (.inr rfl)
    | exact rv_intC (g := fun i j => i % j) (by assumption) (by decide)
    | exact rv_intC (g := fun i j => i / j) (by assumption) (cdiv_ok (by decide)))
  | (show EvT _ _ _ _; first
    | exact et_yes (by assumption)
    | (refine' et_and (by assumption) ?_ (fun _ => ?_) <;> (try walk_at "ev"))
    | (refine' et_or (by assumption) ?_ (fun _ => ?_) <;> (try walk_at "ev"))
    | (refine' et_not ?_ <;> (try walk_at "ev"))
    | (refine' et_test ?_ <;> (try walk_at "ev"))
    | (refine' et_B ?_ <;> (try walk_at "ev")))
  | (show RC _ _ _ _; first
    | exact rc_lenL (by assumption)
    | exact rc_lenT (by assumption)
    | exact rc_lenS (by assumption)
    | exact rc_all (by assumption)
    | exact rc_intB (by assumption)
    | exact rc_strS (by assumption)
    | exact rc_listOf (by assumption) (.inl rfl)
    | exact rc_listOf (by assumption) (.inr rfl)
    | exact rc_tupOf (by assumption)
    | (refine' rc_lenD (by assumption) ?_ <;> (try walk_at "ev"))
    | (refine' rc_lenM (by assumption) ?_ <;> (try walk_at "ev")))
  | (show RM _ _ _ _ _; first
    | exact rm_strip' (by assumption))
  | (show EvO _ _ _ _; first
    | exact eo_none (by assumption)
    | (refine' eo_some ?_ <;> (try walk_at "ev")))
  | (show List.length _ ≤ Lim; with_unfolding_all exact Nat.le_of_ble_eq_true rfl)
  | (show List.length _ = _; with_unfolding_all rfl)
  | exact (fun _ _ _ => ⟨_, rfl, rfl⟩)
  | exact (fun _ _ _ => ⟨_, _, rfl, rfl⟩)
  | exact (fun _ _ _ => ⟨_, _, _, rfl, rfl⟩)
  | exact (fun _ _ _ => ⟨_, rfl, by assumption, rfl⟩)
  | exact hall_s (by assumption)
  | exact hall_m (by assumption)
  | exact hall_p (by assumption)
  | exact hall_l (by assumption)
  | exact hall_g (by assumption)
  | exact hall_c (by assumption)
  | exact hall_f (by assumption)
  | exact hall_r (by assumption)
  | exact TxL.of _
  | exact TxL.nil
  | (refine' TxL.cons ?_ <;> (try walk_at "ev")))


abbrev s_law_rule_parts : Stmt := top 56
abbrev N_law_rule_parts : List Str := ["_law_words", "_law_parts", "_law_signs", "_law_word_here", "_law_sizes", "_law_part"]
abbrev P_law_rule_parts : List Str := ["_law_words"]
theorem sc_law_rule_parts : FnScope N_law_rule_parts P_law_rule_parts (defScope s_law_rule_parts) := ⟨rfl, rfl, rfl, by decide +kernel, rfl, by decide +kernel, by decide +kernel⟩

abbrev spRulePartsL : Sp := SpF 1 fun _ _ as r => ∃ ws : List Str, as = [.lst (tx ws)] ∧ ws.length ≤ 1000001 ∧ (∀ w ∈ ws, w ≠ "") ∧ r = partsD (rulePartsOf ws)
theorem cal_law_rule_parts (B : Blt mg) (D : Dfn K mg "_law_rule_parts" s_law_rule_parts) (C_law_is_name : Cal P w K mg base "_law_is_name" 1 P_law_is_name spIsName) : Cal P w K mg base "_law_rule_parts" 2 P_law_rule_parts spRulePartsL := by
  have sc := sc_law_rule_parts
  refine cal_of D (fun f fd F => fnok F sc fun cdv A outer s H E hr => have hr1 := hr; ⟨_, (pss_cons (ps_set (i := 1) sc.nd rfl (Or.inl rfl) (pe_lst (pa_cons (pe_lst pa_nil) pa_nil)))
      (pss_cons (ps_set (i := 2) sc.nd rfl (Or.inl rfl) pe_str)
      (pss_cons (ps_for PassesOwn.never rfl (pi_list (pv 0)) (pg_name (i := 3) sc.nd rfl (Or.inl rfl)) (pss_one (ps_if (pt_cmpR (r := rIn K false) op_in_seq (pv 3) (pe_tup (pa_cons pe_str (pa_cons pe_str pa_nil))) rfl) (pss_cons (ps_set (i := 2) sc.nd rfl (Or.inl rfl) (pe_op op_addT (pv 2) (pv 3)))
      (pss_one (ps_expr (pe_bm PySem.F.plainAttrs_list PySem.F.slot_list_append PySem.F.type_list_append mt_append (pv 1) (pa_cons (pe_lst pa_nil) pa_nil))))) (pss_one (ps_expr (pe_bm PySem.F.plainAttrs_list PySem.F.slot_list_append PySem.F.type_list_append mt_append (pe_ix (r := rIxL K) ix_list (pv 1) (pe_un un_neg pe_int) (fun _ _ => rfl)) (pa_cons (pv 3) pa_nil)))))))
      (pss_cons (ps_if (pt_cmpR op_ne (pv 2) pe_str (nomark _)) (pss_one (ps_ret pe_non)) pss_nil)
      (pss_cons (ps_setLc (i := 4) (own := [("_law_part", 5)]) (by rfl) sc.nd rfl rfl (sw_true rfl rfl rfl (by decide +kernel)) (pi_list (pv 1)) (blkOk_by (N := N_law_rule_parts) (sc := defScope s_law_rule_parts) (by decide +kernel)) (fun _ _ _ _ _ => (pg_name (i := 5) sc.nd rfl (Or.inl rfl))) (fun _ _ _ _ _ => pts_nil) (fun _ _ _ _ _ => (pe_callB (r := rLen K) call_lenK (by rfl) B.len_ (by decide +kernel) (pa_cons (pv 5) pa_nil))))
      (pss_cons (ps_if (PW.pt (pw_or (pt_cmpR op_gt (pe_ix (r := rIxL K) ix_list (pv 4) pe_int (fun _ _ => rfl)) pe_int (nomark _)) (pw_or (pt_not (pt_chain op_le op_le pe_int (pe_ix (r := rIxL K) ix_list (pv 4) pe_int (fun _ _ => rfl)) pe_int)) (pw_or (pt_cmpR op_gt (pe_ix (r := rIxL K) ix_list (pv 4) pe_int (fun _ _ => rfl)) pe_int (nomark _)) (pw_or1 (pt_not (pt_chain op_le op_le pe_int (pe_ix (r := rIxL K) ix_list (pv 4) pe_int (fun _ _ => rfl)) pe_int))))))) (pss_one (ps_ret pe_non)) pss_nil)
      (pss_cons (ps_for PassesOwn.never rfl (pi_list (pe_op op_cat (pe_op op_cat (pe_ix (r := rIxL K) ix_list (pv 1) pe_int (fun _ _ => rfl)) (pe_ix (r := rIxL K) ix_list (pv 1) pe_int (fun _ _ => rfl))) (pe_ix (r := rIxL K) ix_list (pv 1) pe_int (fun _ _ => rfl)))) (pg_name (i := 3) sc.nd rfl (Or.inl rfl)) (pss_one (ps_if (PW.pt (pw_and (pt_not (pt_val (pe_callC C_law_is_name hr1 rfl (pa_cons (pv 3) pa_nil)))) (pw_and1 (pt_not (PW.pt (pw_and (pt_cmpR op_eq (pe_ix ix_str (pv 3) pe_int (fun _ _ => rfl)) pe_str (nomark _)) (pw_and1 (pt_val (pe_callC C_law_is_name hr1 rfl (pa_cons (pe_slice (r := rSlS) sl_str (pv 3) (po_some pe_int) po_none) pa_nil)))))))))) (pss_one (ps_ret pe_non)) pss_nil)))
      (pss_one (ps_ret (pe_ix (r := rIxL K) ix_list (pe_lst (pa_cons (pv 1) (pa_cons pe_non pa_nil))) (pe_callTy call_intB (by rfl) B.int_ (by decide +kernel) (pa_cons (pe_cmpR (r := rIn K false) op_in_seq pe_bl (pe_lc (own := [("_law_word_here", 3)]) (by rfl) sc.nd (pi_list (pe_ix (r := rIxL K) ix_list (pv 1) pe_int (fun _ _ => rfl))) (blkOk_by (N := N_law_rule_parts) (sc := defScope s_law_rule_parts) (by decide +kernel)) (fun _ _ _ _ _ => (pg_name (i := 3) sc.nd rfl (Or.inl rfl))) (fun _ _ _ _ _ => pts_nil) (fun _ _ _ _ _ => (pe_callC C_law_is_name hr1 rfl (pa_cons (pv 3) pa_nil)))) rfl) pa_nil)) (fun _ _ => rfl))))))))))), fun G as r D hl sm hp hq hx => ?_⟩) (fun _ _ _ _ _ _ us hl => match us, hl with | [_], _ => rfl)
  obtain ⟨ws, rfl, hw, hne, rfl⟩ := hp
  have ok : Cok (Bs No G H) := Bs.ok
  -- parts = [[]]
  have hstart : ∀ (u : TS), (∀ pl q, H pl = none → H q = none → Run u (fun G1 H1 => Bs No G H G1 H1 ∧ LL pl [q] [[]] G1 H1) [some (.lst (tx ws)), some (.obj pl), none, none, none, none] D) → Run (tSeq (tAsg (tLst (tCons (tLst tNil) tNil)) (gName 1)) u) (Bs No G H) (slots0 [.lst (tx ws)] 5) D := by
    intro u h G1 σ H1 k s
    refine ⟨Nat.zero_le _, fun q hq => ⟨by show 1 ≤ sizeLine; rw [sizeLine_eq]; decide, fun p hp => ?_⟩⟩
    have p1 : Pu G1 H1 G1 (upd H1 q (.lst [])) := Pu.newM k.gh hq
    have p2 := p1.trans (Pu.newM (o := .lst [.ref q]) p1.gh hp)
    have qp : q ≠ p := fun z => by rw [← z, upd_same] at hp; cases hp
    have hp1 : H1 p = none := by rw [upd_ne (Ne.symm qp)] at hp; exact hp
    refine h p q (k.th p hp1) (k.th q hq) G1 _ _ ⟨k.trans p2, ⟨k.gh.free hp1, _, upd_same, .cons (.obj q) .nil⟩, rfl, fun i q' s' h1 h2 => ?_, by simp, by simpa using Ne.symm qp⟩ (s.set (.obj p) 1)
    cases i with
    | zero =>
      cases h1; cases h2
      exact ⟨k.gh.free hq, [], by rw [upd_ne qp, upd_same], .nil⟩
    | succ i => simp at h1
  refine hstart _ fun pl q0 hpl hq0 => ?_
  let Cq : Nat → List Addr → Hp → Hp → Prop := fun i qs G1 H1 => Bs No G H G1 H1 ∧ LL pl qs (segs (ws.take i)) G1 H1 ∧ ∀ q ∈ qs, H q = none
  have okq : ∀ i qs, Cok (Cq i qs) := fun i qs => ⟨fun c => ok.sub c.1, fun c p => ⟨ok.stp c.1 p, c.2.1.stp p, c.2.2⟩⟩
  have okf : ∀ i, Cok (fun G1 H1 => ∃ qs, Cq i qs G1 H1) := fun i => ⟨fun ⟨_, c⟩ => ok.sub c.1, fun ⟨qs, c⟩ p => ⟨qs, (okq i qs).stp c p⟩⟩
  let S : Addr → Prop := fun b => H b = none
  have back : ∀ {Ga Ha G1 H1}, Bs No G H Ga Ha → Stp S Ga Ha G1 H1 → Bs No G H G1 H1 := fun a b => stp_absorb a b fun p hp => hp
  refine run_set ⟨fun c => ok.sub c.1, fun c p => ⟨ok.stp c.1 p, c.2.stp p⟩⟩ (ev_str ⟨fun c => ok.sub c.1, fun c p => ⟨ok.stp c.1 p, c.2.stp p⟩⟩) ?_
  refine run_seq (run_for (S := S) ws Dt.str (fun y => [(3, .str y)]) (fun i G1 H1 => ∃ qs, Cq i qs G1 H1) (fun i => [some (.lst (tx ws)), some (.obj pl), some (.str (catS (marks (ws.take i)))), none, none, none])
    ⟨fun c => ok.sub c.1, fun c p => ⟨ok.stp c.1 p, c.2.stp p⟩⟩ okf (ei_list (ev_var ⟨fun c => ok.sub c.1, fun c p => ⟨ok.stp c.1 p, c.2.stp p⟩⟩ rfl)) (fun _ _ => tg_name) (fun G1 H1 k => ⟨[q0], k.1, k.2, fun q hq => by rw [List.mem_singleton.mp hq]; exact hq0⟩) (Less.refl _) (fun i y hy Ga Ha ca => ?_) ?_)
  · obtain ⟨A, l, hAl⟩ := segs_last (ws.take i)
    have hsg := segs_snoc y (ws.take i) A l hAl
    rw [← take_get hy] at hsg
    have hms := marks_snoc (ws.take i) y
    rw [← take_get hy] at hms
    have hcl : (catS (marks (ws.take i))).length ≤ 1000001 := by
      rw [catS_len (marks_all _)]
      have := marks_len (ws.take i)
      rw [List.length_take] at this; omega
    suffices h : ∀ qs, Run _ (fun G1 H1 => Cq i qs G1 H1 ∧ Stp S Ga Ha G1 H1) _ _ by
      exact run_sub (run_ex h) fun G1 H1 k => by
        obtain ⟨⟨qs, k1⟩, k2⟩ := k
        exact ⟨qs, k1, k2⟩
    intro qs
    have ok2 : Cok (fun G1 H1 => Cq i qs G1 H1 ∧ Stp S Ga Ha G1 H1) := ⟨fun c => ok.sub c.1.1, fun c p => ⟨(okq i qs).stp c.1 p, c.2.trans (Stp.of p)⟩⟩
    refine run_if ok2 (et_test (ev_mark ok2 rfl)) (fun e => ?_) (fun e => ?_)
    · have hy1 : y.length = 1 := by rcases mark_tl e with ⟨_, t⟩ | ⟨_, t⟩ <;> rw [len_tl, t] <;> rfl
      rw [e, if_pos rfl] at hsg hms
      refine run_set ok2 (ev_op ok2 (ev_var ok2 rfl) (ev_var ok2 rfl) (rv_addT ok2 (by show _ ≤ 16000000; omega))) ?_
      intro G1 σ1 H1 k1 s1
      obtain ⟨x1, hx1, rx1⟩ := s1.get (i := 1) rfl
      cases rx1
      obtain ⟨⟨kb, kl, kn⟩, kst⟩ := k1
      have hob := kl.out
      obtain ⟨n1, vs, e1, r1⟩ := hob
      refine ⟨_, hx1, .inl ⟨rfl, _, SqL.of e1⟩, Nat.zero_le _, fun q hq => ⟨pl, vs, .ref q, rfl, rfl, ?_, ?_, ?_⟩⟩
      · have : pl ≠ q := fun z => by rw [← z, e1] at hq; cases hq
        rw [upd_ne this]; exact e1
      · have h1 := r1.length
        rw [List.length_map, kl.len, segs_cnt] at h1
        have h2 := marks_len (ws.take i)
        rw [List.length_take] at h2
        show _ < sizeLine
        rw [sizeLine_eq]; omega
      · have plq : pl ≠ q := fun z => by rw [← z, e1] at hq; cases hq
        have hqo : q ∉ qs := fun z => by
          obtain ⟨j, hj⟩ := List.getElem?_of_mem z
          obtain ⟨s', hs'⟩ : ∃ s', (segs (ws.take i))[j]? = some s' := by
            have := (List.getElem?_eq_some_iff.mp hj).1
            rw [kl.len] at this
            exact ⟨_, List.getElem?_eq_getElem this⟩
          obtain ⟨_, _, z2, _⟩ := kl.inn j q s' hj hs'
          rw [z2] at hq; cases hq
        have st1 : Stp S G1 H1 G1 (upd H1 q (.lst [])) := Stp.of (Pu.newM kb.gh hq)
        have st2 : Stp S G1 H1 G1 (upd (upd H1 q (.lst [])) pl (.lst (vs ++ [.ref q]))) := st1.write (.inl hpl) n1
        refine ⟨G1, kst.trans st2, ⟨qs ++ [q], back kb st2, ⟨⟨n1, _, upd_same, ?_⟩, ?_, fun j q' s' h1 h2 => ?_, ?_, ?_⟩, fun q' hq' => ?_⟩, ?_⟩
        · rw [List.map_append]; exact r1.append (.cons (.obj q) .nil)
        · rw [hsg, List.length_append, List.length_append, kl.len, hAl]; simp
        · rw [hsg, ← hAl] at h2
          by_cases hj : j < qs.length
          · rw [List.getElem?_append_left hj] at h1
            rw [List.getElem?_append_left (by rw [← kl.len]; exact hj)] at h2
            obtain ⟨z1, ws', z2, z3⟩ := kl.inn j q' s' h1 h2
            have nq : q' ≠ q := fun z => hqo (z ▸ List.mem_of_getElem? h1)
            have np : q' ≠ pl := fun z => kl.np (z ▸ List.mem_of_getElem? h1)
            exact ⟨z1, ws', by rw [upd_ne np, upd_ne nq]; exact z2, z3⟩
          · rw [List.getElem?_append_right (by omega)] at h1
            rw [List.getElem?_append_right (by rw [← kl.len]; omega), ← kl.len] at h2
            cases hjj : j - qs.length with
            | zero =>
              rw [hjj] at h1 h2
              cases h1; cases h2
              exact ⟨kb.gh.free hq, [], by rw [upd_ne (Ne.symm plq), upd_same], .nil⟩
            | succ m => rw [hjj] at h1; simp at h1
        · rw [List.nodup_append]; exact ⟨kl.nd, by simp, fun a ha b hb z => hqo (by rw [← List.mem_singleton.mp hb, ← z]; exact ha)⟩
        · rw [List.mem_append]; exact fun z => z.elim kl.np fun z => plq (List.mem_singleton.mp z)
        · rcases List.mem_append.mp hq' with z | z
          · exact kn q' z
          · rw [List.mem_singleton.mp z]; exact kb.th q hq
        · rw [hms, catS_snoc]
          exact s1.less (.keep (.keep (.keep (.gone (.keep (.keep .nil))))))
    · rw [e, if_neg Bool.false_ne_true] at hsg hms
      refine run_fact (P := qs.length = A.length + 1) (fun G1 H1 k => by rw [k.1.2.1.len, hAl]; simp) fun hlen => ?_
      obtain ⟨q, hq⟩ : ∃ q, qs[A.length]? = some q := ⟨_, List.getElem?_eq_getElem (by omega)⟩
      have hseg : (segs (ws.take i))[A.length]? = some l := by rw [hAl, List.getElem?_append_right (Nat.le_refl _), Nat.sub_self]; rfl
      have hll : l.length ≤ 1000001 := by
        have := segs_len (ws.take i) l (List.mem_of_getElem? hseg)
        rw [List.length_take] at this; omega
      have hmu : ∀ G1 H1, (Cq i qs G1 H1 ∧ Stp S Ga Ha G1 H1) → Mu q (tx l) G1 H1 := fun G1 H1 k => k.1.2.1.inn _ _ _ hq hseg
      have hat : atI (qs.map Dt.obj) (-1) = some (.obj q) := by
        have e1 : ixN (qs.map Dt.obj).length (-1) = some A.length := by
          unfold ixN
          rw [List.length_map, hlen, if_neg (by decide), if_pos (by omega)]
          congr 1
          omega
        unfold atI; rw [e1]
        show (qs.map Dt.obj)[A.length]? = _
        rw [List.getElem?_map, hq]; rfl
      refine run_append (p := q) (xs := tx l) (d := .str y) ok2 (ev_op ok2 (ev_var ok2 rfl) (ev_un ok2 (ev_int ok2) rfl) (rv_ixM (xs := qs.map Dt.obj) ok2 (fun G1 H1 k => k.1.2.1.out) hat)) (ev_var ok2 rfl) hmu (by rw [List.length_map]; show _ < 16000000; omega) (fun G2 σ2 H2 k2 s2 H3 m3 st3 => ?_)
      obtain ⟨⟨kb, kl, kn⟩, kst⟩ := k2
      have hqm : q ∈ qs := List.mem_of_getElem? hq
      have st4 : Stp S G2 H2 G2 H3 := st3.mono fun b hb => by rw [hb]; exact kn q hqm
      refine ⟨G2, kst.trans st4, ⟨qs, back kb st4, ⟨kl.out.stp' st3 (fun z => kl.np (z ▸ hqm)), ?_, fun j q' s' h1 h2 => ?_, kl.nd, kl.np⟩, kn⟩, ?_⟩
      · rw [hsg, hlen]; simp
      · by_cases hj : j = A.length
        · subst hj
          rw [hq] at h1
          cases h1
          rw [hsg, List.getElem?_append_right (Nat.le_refl _), Nat.sub_self] at h2
          cases h2
          rw [tx, List.map_append]
          exact m3
        · have nq : q' ≠ q := fun z => hj (by
            obtain ⟨l1, e1⟩ := List.getElem?_eq_some_iff.mp h1
            obtain ⟨l2, e2⟩ := List.getElem?_eq_some_iff.mp hq
            exact (List.getElem_inj kl.nd).mp (e1.trans (z.trans e2.symm)))
          have hjl : j < A.length := by
            have := (List.getElem?_eq_some_iff.mp h1).1
            omega
          refine (kl.inn j q' s' h1 ?_).stp' st3 nq
          rw [hsg, List.getElem?_append_left hjl] at h2
          rw [hAl, List.getElem?_append_left hjl]; exact h2
      · rw [hms]
        exact s2.less (.keep (.keep (.keep (.gone (.keep (.keep .nil))))))
  · refine run_nx (run_morph (C' := Bs No G H) (ds' := [some (.lst (tx ws)), some (.lst ((segs ws).map fun s => .lst (tx s))), some (.str (catS (marks ws))), none, none, none]) (fun G1 σ1 H1 k1 s1 => ?_) ?_)
    · obtain ⟨qs, kb, kl, kn⟩ := k1
      rw [List.take_length] at kl s1
      have sm1 := kb.gh
      have hn : ∀ b ∈ pl :: qs, H b = none := fun b hb => by
        rcases List.mem_cons.mp hb with rfl | hb
        · exact hpl
        · exact kn b hb
      obtain ⟨x1, hx1, rx1⟩ := s1.get (i := 1) rfl
      cases rx1
      have st := seal_stp (L := pl :: qs) kb hn
      refine ⟨_, st, ?_⟩
      have rep : Rep (sealL (pl :: qs) G1 H1) (.ref pl) (.lst ((segs ws).map fun s => .lst (tx s))) := by
        obtain ⟨_, vs, e, r⟩ := kl.out
        refine .lst (vs := vs) (by show sealL _ _ _ pl = _; unfold sealL; rw [if_pos List.mem_cons_self]; exact e) ?_
        have key : ∀ (qs' : List Addr) (ss : List (List Str)) (vs : List V), (∀ q ∈ qs', q ∈ qs) → qs'.length = ss.length → (∀ (i : Nat) q s, qs'[i]? = some q → ss[i]? = some s → Mu q (tx s) G1 H1) → RepA G1 vs (qs'.map Dt.obj) → RepA (sealL (pl :: qs) G1 H1) vs (ss.map fun s => .lst (tx s)) := by
          intro qs'
          induction qs' with
          | nil =>
            intro ss vs _ hl _ r
            cases ss with
            | nil => cases r; exact .nil
            | cons _ _ => cases hl
          | cons q qs' ih =>
            intro ss vs hm hl hi r
            cases ss with
            | nil => cases hl
            | cons s ss =>
              cases r with
              | cons rq r =>
                cases rq
                exact .cons (seal_mu (hi 0 q s rfl rfl) sm1 (List.mem_cons_of_mem _ (hm q List.mem_cons_self))) (ih ss _ (fun z hz => hm z (List.mem_cons_of_mem _ hz)) (Nat.succ.inj hl) (fun i => hi (i + 1)) r)
        exact key qs (segs ws) vs (fun _ h => h) kl.len kl.inn r
      exact (s1.mono (seal_same sm1)).recast rep 1 hx1
    refine run_when ok (by walk_at "ev") (fun e => run_ret ok (ev_non ok) ?_ hq) (fun e => ?_)
    · have e1 : marks ws ≠ (["/", "/", ">"] : List Str) := fun z => by
        have := (catS_three (marks_all ws)).mpr z
        rw [this] at e; revert e; decide
      rw [parts_none e1]; rfl
    · have e1 : marks ws = (["/", "/", ">"] : List Str) := (catS_three (marks_all ws)).mp (by simpa using e)
      obtain ⟨a, b, c, d, hs, hr⟩ := parts_four e1
      rw [hr] at hq
      rw [hs]
      have hmem : ∀ w ∈ a ++ b ++ c, w ≠ "" := fun w hw' => hne w (by
        have := segs_mem ws
        rw [hs] at this
        rcases List.mem_append.mp hw' with h | h
        · rcases List.mem_append.mp h with h | h
          · exact this a (by simp) w h
          · exact this b (by simp) w h
        · exact this c (by simp) w h)
      have hsl := segs_len ws
      rw [hs] at hsl
      have la := hsl a (by simp)
      have lb := hsl b (by simp)
      have lc := hsl c (by simp)
      have ld := hsl d (by simp)
      have ha0 : atI [Dt.lst (tx a), .lst (tx b), .lst (tx c), .lst (tx d)] 0 = some (.lst (tx a)) := rfl
      have hb0 : atI [Dt.lst (tx a), .lst (tx b), .lst (tx c), .lst (tx d)] 1 = some (.lst (tx b)) := rfl
      have hc0 : atI [Dt.lst (tx a), .lst (tx b), .lst (tx c), .lst (tx d)] 2 = some (.lst (tx c)) := rfl
      have hd0 : atI [Dt.lst (tx a), .lst (tx b), .lst (tx c), .lst (tx d)] 3 = some (.lst (tx d)) := rfl
      have sa : atI [Dt.int (a.length : Nat), .int (b.length : Nat), .int (c.length : Nat), .int (d.length : Nat)] 0 = some (.int (a.length : Nat)) := rfl
      have sb : atI [Dt.int (a.length : Nat), .int (b.length : Nat), .int (c.length : Nat), .int (d.length : Nat)] 1 = some (.int (b.length : Nat)) := rfl
      have sc' : atI [Dt.int (a.length : Nat), .int (b.length : Nat), .int (c.length : Nat), .int (d.length : Nat)] 2 = some (.int (c.length : Nat)) := rfl
      have sd : atI [Dt.int (a.length : Nat), .int (b.length : Nat), .int (c.length : Nat), .int (d.length : Nat)] 3 = some (.int (d.length : Nat)) := rfl
      refine run_set (d := .lst [.int (a.length : Nat), .int (b.length : Nat), .int (c.length : Nat), .int (d.length : Nat)]) ok (EvD.is (EvN.ev ok (en_map1 [a, b, c, d] (fun s => Dt.lst (tx s)) (fun s => Dt.int (s.length : Nat)) ok (ev_var ok rfl) (fun y hy => EvD.is (by walk_at "ev") (show _ = Dt.int (y.length : Nat) by rw [tx, List.length_map])) (Nat.le_of_ble_eq_true rfl))) rfl) ?_
      have nn : ∀ {x : Bool}, x = false → ok4 a b c d = x → partsD (if ok4 a b c d then some (a, b, c, d) else none) = .non := fun h1 h2 => by rw [h2, h1]; rfl
      refine run_when ok (by walk_at "ev") (fun e2 => run_ret ok (ev_non ok) ?_ hq) (fun e2 => ?_)
      · refine (nn (x := false) rfl ?_).symm
        cases h : ok4 a b c d with
        | false => rfl
        | true =>
          unfold ok4 at h
          simp only [Bool.and_eq_true, decide_eq_true_eq] at h
          simp only [Bool.or_eq_true, Bool.not_eq_true', decide_eq_true_eq, Bool.and_eq_false_iff, decide_eq_false_iff_not] at e2
          omega
      · simp only [Bool.or_eq_false_iff, Bool.not_eq_false', decide_eq_false_iff_not, Bool.and_eq_true, decide_eq_true_eq] at e2
        refine run_find_seq (a ++ b ++ c) Dt.str (fun y => [(3, .str y)]) [some (.lst (tx ws)), some (.lst [Dt.lst (tx a), .lst (tx b), .lst (tx c), .lst (tx d)]), some (.str (catS (marks ws))), none, some (.lst [.int (a.length : Nat), .int (b.length : Nat), .int (c.length : Nat), .int (d.length : Nat)]), none] (fun w => !isItem w) ok
          (ei_list (EvD.is (ev_op ok (ev_op ok (by walk_at "ev") (by walk_at "ev") (EvN_ev2 ok (rn_cat ok (by simp only [List.length_map]; show _ ≤ 16000000; omega)))) (by walk_at "ev") (EvN_ev2 ok (rn_cat ok (by simp only [List.length_map, List.length_append]; show _ ≤ 16000000; omega)))) (show _ = Dt.lst (tx (a ++ b ++ c)) by simp [tx])))
          (fun _ _ => tg_name) (Less.refl _) (fun y hy => .keep (.keep (.keep (.gone (.keep (.keep .nil)))))) (fun y hy => ?_) (fun y hy e3 D' hD' => run_ret ok (ev_non ok) ?_ (hq.of hD')) (fun hn => ?_)
        · cases hy0 : tl y with
          | nil => exact absurd hy0 (ne_tl (hmem y hy))
          | cons ch rs =>
            have h0 : atI y.cps.toList (0 : Int) = some ch := at0 hy0
            refine EvT.is (by walk_at "ev") ?_
            rw [isItem_or, atSign hy0, Bool.not_or]; rfl
        · refine (nn (x := false) rfl ?_).symm
          cases h : ok4 a b c d with
          | false => rfl
          | true =>
            unfold ok4 at h
            rw [Bool.and_eq_true] at h
            have := List.all_eq_true.mp h.2 y hy
            rw [this] at e3; cases e3
        · have hit : (a ++ b ++ c).all isItem = true := List.all_eq_true.mpr fun y hy => by simpa using hn y hy
          have h4 : ok4 a b c d = d.all isName := by
            unfold ok4
            rw [hit, Bool.and_true]
            have : (((decide (a.length ≤ 3) && (decide (1 ≤ b.length) && decide (b.length ≤ 4))) && decide (c.length ≤ 3)) && (decide (1 ≤ d.length) && decide (d.length ≤ 3))) = true := by
              simp only [Bool.and_eq_true, decide_eq_true_eq]; omega
            rw [this, Bool.true_and]
          have hfin : ∀ x : Bool, x = d.all isName → atI [Dt.lst [Dt.lst (tx a), .lst (tx b), .lst (tx c), .lst (tx d)], .non] (if (!x) = true then 1 else 0) = some (partsD (if ok4 a b c d then some (a, b, c, d) else none)) := fun x hx => by
            rw [h4, ← hx]; cases x <;> rfl
          refine run_ret ok (ev_op ok (by walk_at "ev") (ev_cb ok (ea_cons ok (ev_op ok (ev_bl ok) (EvN.ev ok (en_map1 d Dt.str (fun y => Dt.bl (isName y)) ok (by walk_at "ev") (fun y hy => by walk_at "ev") (by show _ ≤ 16000000; omega))) (RV.is2 (rv_in (neg := false) (xs := (d.map isName).map Dt.bl) ok rfl (flat_bl _) (.inl rfl)) (by rw [List.map_map]; rfl) (show _ = Dt.bl (!d.all isName) by rw [if_neg Bool.false_ne_true, anyF, List.all_map]; rfl))) (ea_nil ok)) (rc_intB ok)) (rv_ixL ok (hfin _ rfl))) rfl hq
end
end Kx

namespace Kx
open PySem L2
/-! ## a row's form -/
abbrev headsL : List Str := ["shape", "mark", "point", "letter", "gap", "class", "feature", "rule"]
def headIx (h : Str) : Option Nat := if h = "shape" then some 0 else if h = "mark" then some 1 else if h = "point" then some 2 else if h = "letter" then some 3
  else if h = "gap" then some 4 else if h = "class" then some 5 else if h = "feature" then some 6 else if h = "rule" then some 7 else none
theorem headIx_some {h : Str} {j : Nat} (e : headIx h = some j) : headsL[j]? = some h ∧ (∀ m, m < j → headsL[m]? ≠ some h) ∧ j < 8 := by
  have key : ∀ (j : Nat) (x : Str), j < 8 → headsL[j]? = some x → ∀ m, m < j → headsL[m]? ≠ some x := by
    have all : ∀ j : Fin 8, ∀ m : Fin 8, m.1 < j.1 → headsL[m.1]? ≠ headsL[j.1]? := by decide +kernel
    intro j x hj hx m hm
    rw [← hx]
    exact all ⟨j, hj⟩ ⟨m, by omega⟩ hm
  have fin : ∀ (j : Nat), j < 8 → headsL[j]? = some h → headsL[j]? = some h ∧ (∀ m, m < j → headsL[m]? ≠ some h) ∧ j < 8 := fun j hj hx => ⟨hx, key j h hj hx, hj⟩
  unfold headIx at e
  repeat' split at e
  all_goals first
    | (cases e; done)
    | (cases e; rename_i hh; subst hh; exact fin _ (by decide) rfl)
theorem headIx_none {h : Str} (e : headIx h = none) : h ∉ headsL := by
  unfold headIx at e
  repeat' split at e
  all_goals first
    | (cases e; done)
    | (simp only [headsL, List.mem_cons, List.not_mem_nil, or_false, not_or]; refine ⟨?_, ?_, ?_, ?_, ?_, ?_, ?_, ?_⟩ <;> assumption)
def restOk : Nat → List Str → Bool
  | 0, [x] => isNum x
  | 1, [s, a, b, c, d] => isSide s && [a, b, c, d].all isSigned
  | 2, [s, a, b] => isSide s && [a, b].all isSigned
  | 3, j :: w :: fs => ((decide (1 ≤ fs.length) && isWay w) && decide ((fs.length : Int) = facesDue j)) && fs.all isName
  | 4, [] => true
  | 5, fs => (decide (1 ≤ fs.length) && decide (fs.length ≤ 20)) && fs.all isName
  | 6, [s] => isOn s
  | 7, f :: rest => isName f && (rulePartsOf rest).isSome
  | _, _ => false
def formOf : List Str → Int
  | h :: n :: rest => match headIx h with
    | some j => if isName n && restOk j rest then (j : Nat) else -1
    | none => -1
  | _ => -1
def hdName : List Str → Bool
  | [] => false
  | r :: _ => isName r
theorem len5 {α : Type} {l : List α} (h : l.length = 5) : ∃ a b c d e, l = [a, b, c, d, e] := by
  match l, h with
  | [a, b, c, d, e], _ => exact ⟨a, b, c, d, e, rfl⟩
section
variable {C : Hp → Hp → Prop} {ds : List (Option Dt)} {K : PySem.W.Frag} {t u : TT} {b c : TS} {D : Ends} {td ty tx' : TE}
theorem et_andF (ha : EvT t C ds false) : EvT (tAnd t u) C ds false := fun G σ H k s Q z => ha G σ H k s _ fun G1 H1 p1 => by
  rw [if_neg Bool.false_ne_true]; exact z G1 H1 p1
theorem run_skip (ok : Cok C) (h : EvT t C ds false) (q : Run c C ds D) : Run (tSeq (tIfS t b tNext) c) C ds D := run_when ok h (fun e => by cases e) fun _ => q
theorem run_take (ok : Cok C) (h : EvT t C ds true) (q : Run b C ds { D with nx := c D }) : Run (tSeq (tIfS t b tNext) c) C ds D := run_when ok h (fun _ => q) fun e => by cases e
theorem rv_inO {l : List Str} (ok : Cok C) (hl : ∀ x ∈ l, PyData.strOk x = true) : RV (rInX K) C (.lst (tx l)) (.tup [.lst [.str "on"], .lst [.str "off"]]) (.bl (decide (l = (["on"] : List Str)) || decide (l = (["off"] : List Str)))) := fun G H x y k r1 r2 Q z => by
  have sub := ok.sub k
  refine ⟨py (.lst (tx l)), py.pys [.lst (tx ["on"]), .lst (tx ["off"])], Rep.dp (r1.mono sub) (clean_tx l), Rep.dp (r2.mono sub) rfl, shaped_tx hl, by decide +kernel, ?_, ?_⟩
  · show PyData.depth (.list (py.pys (tx l))) ≤ 60
    rw [pys_tx, PyData.depth, depth_tx]; decide
  · show Q (.bl (PyData.eqv (py (.lst (tx ["on"]))) (py (.lst (tx l))) || (PyData.eqv (py (.lst (tx ["off"]))) (py (.lst (tx l))) || false))) H
    rw [eqv_tx, eqv_tx, Bool.or_false]
    have e1 : ∀ m : List Str, decide (m = l) = decide (l = m) := fun m => decide_eq_decide.mpr ⟨fun h => h.symm, fun h => h.symm⟩
    rw [e1, e1]
    exact z _ G H (Pu.r ok k) (.bl _)
theorem notT {b : Bool} (h : (!b) = true) : b = false := by cases b; rfl; cases h
theorem notF {b : Bool} (h : (!b) = false) : b = true := by cases b; cases h; rfl
theorem et_in2 {i : Nat} {x a b : Int} {p : Bool} (ok : Cok C) (h : ds[i]? = some (some (.int x))) (hp : (a == x || (b == x || false)) = p) : EvT (tTest (tOp (rIn K false) (tVar i) (tTup (tCons (tC (.int a)) (tCons (tC (.int b)) tNil))))) C ds p := by
  subst hp
  exact et_test (ev_op ok (ev_var ok h) (ev_tup ok (ea_cons ok (ev_int ok) (ea_cons ok (ev_int ok) (ea_nil ok))) (Nat.le_of_ble_eq_true rfl)) (rv_in (neg := false) ok rfl rfl (.inr rfl)))
theorem et_eqI {i : Nat} {x a : Int} {p : Bool} (ok : Cok C) (h : ds[i]? = some (some (.int x))) (hp : decide (x = a) = p) : EvT (tTest (tOp rEq (tVar i) (tC (.int a)))) C ds p := by
  subst hp
  exact et_test (ev_op ok (ev_var ok h) (ev_int ok) (rv_eq ok rfl))
/-- {'none': 1, 'clear': 1, 'back': 2, 'both': 4}.get(x, 0) -/
theorem ev_due {x : Str} (ok : Cok C) (hx : EvD ty C ds (.str x)) : EvD (tDGet2 (tDisp [(tC (.str "none"), tC (.int 1)), (tC (.str "clear"), tC (.int 1)), (tC (.str "back"), tC (.int 2)), (tC (.str "both"), tC (.int 4))]) ty (tC (.int 0))) C ds (.int (facesDue x)) := fun G σ H k s Q z p hp => by
  have kvs : List (Key × V) := [(.inr "none", .int 1), (.inr "clear", .int 1), (.inr "back", .int 2), (.inr "both", .int 4)]
  refine ⟨upd_same, [(.inr "none", .int 1), (.inr "clear", .int 1), (.inr "back", .int 2), (.inr "both", .int 4)], rfl, by decide, p, rfl, .inl ⟨_, .inl upd_same⟩, ?_⟩
  have e2 : upd (upd H p (.dK [])) p (.dK (mergeK [] [((.inr "none" : Key), V.int 1), (.inr "clear", .int 1), (.inr "back", .int 2), (.inr "both", .int 4)])) = upd H p (.dK (mergeK [] [((.inr "none" : Key), V.int 1), (.inr "clear", .int 1), (.inr "back", .int 2), (.inr "both", .int 4)])) := by
    funext b
    by_cases h : b = p
    · rw [h, upd_same, upd_same]
    · rw [upd_ne h, upd_ne h, upd_ne h]
  have pn : Pu G H (upd G p (.dK (mergeK [] [((.inr "none" : Key), V.int 1), (.inr "clear", .int 1), (.inr "back", .int 2), (.inr "both", .int 4)]))) (upd H p (.dK (mergeK [] [((.inr "none" : Key), V.int 1), (.inr "clear", .int 1), (.inr "back", .int 2), (.inr "both", .int 4)]))) := Pu.new (ok.sub k) hp
  rw [e2]
  refine hx _ σ _ (ok.stp k pn) (s.mono pn.gg) _ fun v G1 H1 p1 r1 => ?_
  cases r1
  have e1 : H1 p = some (.dK (mergeK [] [((.inr "none" : Key), V.int 1), (.inr "clear", .int 1), (.inr "back", .int 2), (.inr "both", .int 4)])) := p1.gh _ _ (p1.gg _ _ upd_same)
  refine ⟨_, DGet.k (k := .inr x) e1, ?_⟩
  have e3 : (valV (mergeK [] [((.inr "none" : Key), V.int 1), (.inr "clear", .int 1), (.inr "back", .int 2), (.inr "both", .int 4)]) (.inr x)).getD (.int 0) = .int (facesDue x) := by
    have hm : mergeK [] [((.inr "none" : Key), V.int 1), (.inr "clear", .int 1), (.inr "back", .int 2), (.inr "both", .int 4)] = [((.inr "none" : Key), V.int 1), (.inr "clear", .int 1), (.inr "back", .int 2), (.inr "both", .int 4)] := by decide +kernel
    rw [hm]
    unfold facesDue
    have nx : ∀ {y : Str} {v : V} {r : List (Key × V)}, y ≠ x → valV ((.inr y, v) :: r) (.inr x) = valV r (.inr x) := fun h => valV_neg (by simpa using h)
    by_cases h1 : x = "none"
    · subst h1; rfl
    rw [nx (Ne.symm h1)]
    by_cases h2 : x = "clear"
    · subst h2; rfl
    rw [nx (Ne.symm h2), if_neg (by rintro (h | h); exact h1 h; exact h2 h)]
    by_cases h3 : x = "back"
    · subst h3; rfl
    rw [nx (Ne.symm h3), if_neg h3]
    by_cases h4 : x = "both"
    · subst h4; rfl
    rw [nx (Ne.symm h4), if_neg h4]
    rfl
  rw [e3]
  exact z _ G1 H1 (pn.trans p1) (.int _)
end
end Kx

namespace Kx
open PySem L2
theorem ev_dropE {C : Hp → Hp → Prop} {ds : List (Option Dt)} {K : PySem.W.Frag} {te ti : TE} {ws vs : List Str} {k : Nat} (ok : Cok C) (h : EvD te C ds (.lst (tx ws))) (hi : EvD ti C ds (.int (k : Nat))) (e : ws.drop k = vs) : EvD (tSl (rSlL K) te (tPart ti) tNoPart) C ds (.lst (tx vs)) := by
  have := ev_slice (K := K) ok h (eo_some hi) (eo_none ok)
  rw [cutD_R, tx_drop, e] at this
  exact this
/-- [2, 0][int(sort == 5)] -/
theorem ev_sel {C : Hp → Hp → Prop} {ds : List (Option Dt)} {K : PySem.W.Frag} {i : Nat} {x : Int} {p : Bool} (ok : Cok C) (h : ds[i]? = some (some (.int x))) (hp : decide (x = 5) = p) :
    EvD (tOp (rIxL K) (tLst (tCons (tC (.int 2)) (tCons (tC (.int 0)) tNil))) (tCB rIntB (tCons (tOp rEq (tVar i) (tC (.int 5))) tNil))) C ds (.int ((if p then 0 else 2 : Nat) : Nat)) := by
  subst hp
  refine ev_op ok (ev_lst ok (ea_cons ok (ev_int ok) (ea_cons ok (ev_int ok) (ea_nil ok))) (Nat.le_of_ble_eq_true rfl)) (ev_cb ok (ea_cons ok (ev_op ok (ev_var ok h) (ev_int ok) (rv_eq ok rfl)) (ea_nil ok)) (rc_intB ok)) (rv_ixL ok ?_)
  cases decide (x = 5) <;> rfl
section
variable {P : Program} {w : World} {K : PySem.W.Frag} {mg : Str → Option Value} {base : Heap}
local macro_rules | `(tactic| walk_at "ev") => `(tactic| with_reducible first
  | (show EvD _ _ _ _; first
    | exact ev_var (by assumption) rfl
    | exact ev_int (by assumption)
    | exact ev_str (by assumption)
    | exact ev_non (by assumption)
    | exact ev_bl (by assumption)
    | (refine' ev_call (by assumption) ?_ ?_ ?_ <;> (try walk_at "ev"))
    | (refine' ev_op (by assumption) ?_ ?_ ?_ <;> (try walk_at "ev"))
    | (refine' ev_un (by assumption) ?_ rfl <;> (try walk_at "ev"))
    | (refine' ev_andV (by assumption) ?_ (fun _ => ?_) <;> (try walk_at "ev"))
    | (refine' ev_orV (by assumption) ?_ (fun _ => ?_) <;> (try walk_at "ev"))
    | (refine' ev_notV (by assumption) ?_ <;> (try walk_at "ev"))
    | (refine' ev_chain (by assumption) ?_ ?_ ?_ ?_ ?_ <;> (try walk_at "ev"))
    | (refine' ev_cb (by assumption) ?_ ?_ <;> (try walk_at "ev"))
    | (refine' ev_bm (by assumption) ?_ ?_ ?_ <;> (try walk_at "ev"))
    | (refine' ev_m1 (by assumption) ?_ ?_ ?_ <;> (try walk_at "ev"))
    | (refine' ev_sliceS (by assumption) ?_ ?_ ?_ <;> (try walk_at "ev"))
    | (refine' ev_slice (by assumption) ?_ ?_ ?_ <;> (try walk_at "ev"))
    | (refine' ev_tup (by assumption) ?_ ?_ <;> (try walk_at "ev"))
    | (refine' ev_lst (by assumption) ?_ ?_ <;> (try walk_at "ev"))
    | exact ev_h_shapes (by assumption) (by assumption) (by assumption) (ev_var (by assumption) rfl)
    | exact ev_h_marks (by assumption) (by assumption) (by assumption) (ev_var (by assumption) rfl)
    | exact ev_h_points (by assumption) (by assumption) (by assumption) (ev_var (by assumption) rfl)
    | exact ev_h_letters (by assumption) (by assumption) (by assumption) (ev_var (by assumption) rfl)
    | exact ev_h_gaps (by assumption) (by assumption) (by assumption) (ev_var (by assumption) rfl)
    | exact ev_h_classes (by assumption) (by assumption) (by assumption) (ev_var (by assumption) rfl)
    | exact ev_h_features (by assumption) (by assumption) (by assumption) (ev_var (by assumption) rfl)
    | exact ev_h_rules (by assumption) (by assumption) (by assumption) (ev_var (by assumption) rfl)
    | (refine' ev_dinK (by assumption) ?_ ?_ ?_ <;> (try walk_at "ev"))
    | (refine' ev_dniK (by assumption) ?_ ?_ ?_ <;> (try walk_at "ev"))
    | (refine' ev_dinT (by assumption) ?_ ?_ ?_ <;> (try walk_at "ev")))
  | (show EvA _ _ _ _; first
    | exact ea_nil (by assumption)
    | (refine' ea_cons (by assumption) ?_ ?_ <;> (try walk_at "ev")))
  | (show RV _ _ _ _ _; first
    | exact rv_int (by assumption)
    | exact rv_cmp (by assumption)
    | exact rv_eq (by assumption) rfl
    | exact rv_ne (by assumption) rfl
    | exact rv_isN (by assumption) rfl
    | exact rv_notN (by assumption) rfl
    | exact rv_inT (by assumption) (.inl rfl)
    | exact rv_inT (by assumption) (.inr rfl)
    | exact rv_niT (by assumption) (.inl rfl)
    | exact rv_niT (by assumption) (.inr rfl)
    | exact rv_inS (by assumption)
    | exact rv_niS (by assumption)
    | exact rv_ixS (by assumption) (by assumption)
    | exact rv_ixL (by assumption) (by assumption)
    | exact rv_ixT (by assumption) (by assumption)
    | exact rv_ixT (by assumption) rfl
    | exact rv_ixL (by assumption) rfl
    | (refine' rv_inM (by assumption) ?_ <;> (try walk_at "ev"))
    | (refine' rv_niM (by assumption) ?_ <;> (try walk_at "ev"))
    | (refine' rv_inX (by assumption) ?_ (.inl rfl) <;> (try walk_at "ev"))
    | (refine' rv_inX (by assumption) ?_ (.inr rfl) <;> (try walk_at "ev"))
    | (refine' rv_niX (by assumption) ?_ (.inl rfl) <;> (try walk_at "ev"))
    | (refine' rv_niX (by assumption) ?_ (.inr rfl) <;> (try walk_at "ev"))
    | exact rv_in (neg := false) (by assumption) rfl rfl (.inr rfl)
    | exact rv_in (neg := true) (by assumption) rfl rfl (.inr rfl)
    | exact rv_intC (g := fun i j => i % j) (by assumption) (by decide)
    | exact rv_intC (g := fun i j => i / j) (by assumption) (cdiv_ok (by decide)))
  | (show EvT _ _ _ _; first
    | exact et_yes (by assumption)
    | (refine' et_and (by assumption) ?_ (fun _ => ?_) <;> (try walk_at "ev"))
    | (refine' et_or (by assumption) ?_ (fun _ => ?_) <;> (try walk_at "ev"))
    | (refine' et_not ?_ <;> (try walk_at "ev"))
    | (refine' et_test ?_ <;> (try walk_at "ev"))
    | (refine' et_B ?_ <;> (try walk_at "ev")))
  | (show RC _ _ _ _; first
    | exact rc_lenL (by assumption)
    | exact rc_lenT (by assumption)
    | exact rc_lenS (by assumption)
    | exact rc_all (by assumption)
    | exact rc_intB (by assumption)
    | exact rc_strS (by assumption)
    | exact rc_listOf (by assumption) (.inl rfl)
    | exact rc_listOf (by assumption) (.inr rfl)
    | exact rc_tupOf (by assumption)
    | (refine' rc_lenD (by assumption) ?_ <;> (try walk_at "ev"))
    | (refine' rc_lenM (by assumption) ?_ <;> (try walk_at "ev")))
  | (show RM _ _ _ _ _; first
    | exact rm_strip' (by assumption))
  | (show EvO _ _ _ _; first
    | exact eo_none (by assumption)
    | (refine' eo_some ?_ <;> (try walk_at "ev")))
  | (show List.length _ ≤ Lim; with_unfolding_all exact Nat.le_of_ble_eq_true rfl)
  | (show List.length _ = _; with_unfolding_all rfl)
  | exact (fun _ _ _ => ⟨_, rfl, rfl⟩)
  | exact (fun _ _ _ => ⟨_, _, rfl, rfl⟩)
  | exact (fun _ _ _ => ⟨_, _, _, rfl, rfl⟩)
  | exact (fun _ _ _ => ⟨_, rfl, by assumption, rfl⟩)
  | exact hall_s (by assumption)
  | exact hall_m (by assumption)
  | exact hall_p (by assumption)
  | exact hall_l (by assumption)
  | exact hall_g (by assumption)
  | exact hall_c (by assumption)
  | exact hall_f (by assumption)
  | exact hall_r (by assumption)
  | exact TxL.of _
  | exact TxL.nil
  | (refine' TxL.cons ?_ <;> (try walk_at "ev")))


abbrev s_law_form : Stmt := top 57
abbrev N_law_form : List Str := ["_law_words", "_law_heads", "_law_sort", "_law_rest", "_law_good", "_law_word_here"]
abbrev P_law_form : List Str := ["_law_words"]
theorem sc_law_form : FnScope N_law_form P_law_form (defScope s_law_form) := ⟨rfl, rfl, rfl, by decide +kernel, rfl, by decide +kernel, by decide +kernel⟩

abbrev spForm : Sp := SpF 1 fun _ _ as r => ∃ ws : List Str, as = [.lst (tx ws)] ∧ ws ≠ [] ∧ ws.length ≤ 1000000 ∧ (∀ w ∈ ws, w ≠ "" ∧ PyData.strOk w = true) ∧ r = .int (formOf ws)
theorem cal_law_form (B : Blt mg) (D : Dfn K mg "_law_form" s_law_form) (C_law_is_name : Cal P w K mg base "_law_is_name" 1 P_law_is_name spIsName) (C_law_is_number : Cal P w K mg base "_law_is_number" 1 P_law_is_number spIsNum)
    (C_law_is_signed : Cal P w K mg base "_law_is_signed" 2 P_law_is_signed spIsSigned) (C_law_rule_parts : Cal P w K mg base "_law_rule_parts" 2 P_law_rule_parts spRulePartsL) : Cal P w K mg base "_law_form" 3 P_law_form spForm := by
  have sc := sc_law_form
  replace C_law_is_name := C_law_is_name.mono (k := 2) (by decide)
  replace C_law_is_number := C_law_is_number.mono (k := 2) (by decide)
  refine cal_of D (fun f fd F => fnok F sc fun cdv A outer s H E hr => have hr1 := hr; ⟨_, (pss_cons (ps_set (i := 1) sc.nd rfl (Or.inl rfl) (pe_lst (pa_cons pe_str (pa_cons pe_str (pa_cons pe_str (pa_cons pe_str (pa_cons pe_str (pa_cons pe_str (pa_cons pe_str (pa_cons pe_str pa_nil))))))))))
      (pss_cons (ps_if (PW.pt (pw_or (pt_cmpR (r := rIn K true) op_notIn_seq (pe_ix (r := rIxL K) ix_list (pv 0) pe_int (fun _ _ => rfl)) (pv 1) rfl) (pw_or (pt_cmpR op_lt (pe_callB (r := rLen K) call_lenK (by rfl) B.len_ (by decide +kernel) (pa_cons (pv 0) pa_nil)) pe_int (nomark _)) (pw_or1 (pt_not (pt_val (pe_callC C_law_is_name hr1 rfl (pa_cons (pe_ix (r := rIxL K) ix_list (pv 0) pe_int (fun _ _ => rfl)) pa_nil)))))))) (pss_one (ps_ret (pe_un un_neg pe_int))) pss_nil)
      (pss_cons (ps_set (i := 2) sc.nd rfl (Or.inl rfl) (pe_bm PySem.F.plainAttrs_list PySem.F.slot_list_index PySem.F.type_list_index mt_index (pv 1) (pa_cons (pe_ix (r := rIxL K) ix_list (pv 0) pe_int (fun _ _ => rfl)) pa_nil)))
      (pss_cons (ps_set (i := 3) sc.nd rfl (Or.inl rfl) (pe_slice (r := rSlL K) sl_list (pv 0) (po_some pe_int) po_none))
      (pss_cons (ps_set (i := 4) sc.nd rfl (Or.inl rfl) (pe_lst (pa_cons (pe_cmpR op_eq (pe_callB (r := rLen K) call_lenK (by rfl) B.len_ (by decide +kernel) (pa_cons (pv 3) pa_nil)) pe_int (nomark _)) (pa_cons (pe_cmpR op_eq (pe_callB (r := rLen K) call_lenK (by rfl) B.len_ (by decide +kernel) (pa_cons (pv 3) pa_nil)) pe_int (nomark _)) (pa_cons (pe_cmpR op_eq (pe_callB (r := rLen K) call_lenK (by rfl) B.len_ (by decide +kernel) (pa_cons (pv 3) pa_nil)) pe_int (nomark _)) (pa_cons (pe_cmpR op_gt (pe_callB (r := rLen K) call_lenK (by rfl) B.len_ (by decide +kernel) (pa_cons (pv 3) pa_nil)) pe_int (nomark _)) (pa_cons (pe_cmpR (r := rEqD K) (op_eqD hr.units) (pv 3) (pe_lst pa_nil) (nomark _)) (pa_cons (pe_chain op_le op_le pe_int (pe_callB (r := rLen K) call_lenK (by rfl) B.len_ (by decide +kernel) (pa_cons (pv 3) pa_nil)) pe_int) pa_nil))))))))
      (pss_cons (ps_set (i := 4) sc.nd rfl (Or.inl rfl) (pe_op op_cat (pv 4) (pe_lst (pa_cons (pe_cmpR (r := rInX K) (op_inX hr.units) (pv 3) (pe_tup (pa_cons (pe_lst (pa_cons pe_str pa_nil)) (pa_cons (pe_lst (pa_cons pe_str pa_nil)) pa_nil))) rfl) (pa_cons (pe_and (pe_cmpR op_gt (pe_callB (r := rLen K) call_lenK (by rfl) B.len_ (by decide +kernel) (pa_cons (pv 3) pa_nil)) pe_int (nomark _)) (pe_one (pe_callC C_law_is_name hr1 rfl (pa_cons (pe_ix (r := rIxL K) ix_list (pv 3) pe_int (fun _ _ => rfl)) pa_nil)))) pa_nil)))))
      (pss_cons (ps_if (pt_not (pt_val (pe_ix (r := rIxL K) ix_list (pv 4) (pv 2) (fun _ _ => rfl)))) (pss_one (ps_ret (pe_un un_neg pe_int))) pss_nil)
      (pss_cons (ps_if (PW.pt (pw_and (pt_cmpR op_eq (pv 2) pe_int (nomark _)) (pw_and1 (pt_not (pt_val (pe_callC C_law_is_number hr1 rfl (pa_cons (pe_ix (r := rIxL K) ix_list (pv 3) pe_int (fun _ _ => rfl)) pa_nil))))))) (pss_one (ps_ret (pe_un un_neg pe_int))) pss_nil)
      (pss_cons (ps_if (PW.pt (pw_and (pt_cmpR (r := rIn K false) op_in_seq (pv 2) (pe_tup (pa_cons pe_int (pa_cons pe_int pa_nil))) rfl) (pw_and1 (pt_cmpR (r := rIn K true) op_notIn_seq (pe_ix (r := rIxL K) ix_list (pv 3) pe_int (fun _ _ => rfl)) (pe_tup (pa_cons pe_str (pa_cons pe_str pa_nil))) rfl)))) (pss_one (ps_ret (pe_un un_neg pe_int))) pss_nil)
      (pss_cons (ps_if (PW.pt (pw_and (pt_cmpR (r := rIn K false) op_in_seq (pv 2) (pe_tup (pa_cons pe_int (pa_cons pe_int pa_nil))) rfl) (pw_and1 (pt_cmpR (r := rIn K false) op_in_seq pe_bl (pe_lc (own := [("_law_word_here", 5)]) (by rfl) sc.nd (pi_list (pe_slice (r := rSlL K) sl_list (pv 3) (po_some pe_int) po_none)) (blkOk_by (N := N_law_form) (sc := defScope s_law_form) (by decide +kernel)) (fun _ _ _ _ _ => (pg_name (i := 5) sc.nd rfl (Or.inl rfl))) (fun _ _ _ _ _ => pts_nil) (fun _ _ _ _ _ => (pe_callC C_law_is_signed hr1 rfl (pa_cons (pv 5) pa_nil)))) rfl)))) (pss_one (ps_ret (pe_un un_neg pe_int))) pss_nil)
      (pss_cons (ps_if (PW.pt (pw_and (pt_cmpR op_eq (pv 2) pe_int (nomark _)) (pw_and1 (PW.pt (pw_or (pt_cmpR (r := rIn K true) op_notIn_seq (pe_ix (r := rIxL K) ix_list (pv 3) pe_int (fun _ _ => rfl)) (pe_tup (pa_cons pe_str (pa_cons pe_str (pa_cons pe_str pa_nil)))) rfl) (pw_or1 (pt_cmpR op_ne (pe_op op_sub (pe_callB (r := rLen K) call_lenK (by rfl) B.len_ (by decide +kernel) (pa_cons (pv 3) pa_nil)) pe_int) (pe_dget2 (hu_of hr) (pe_disp (pps_cons pe_str pe_int (pps_cons pe_str pe_int (pps_cons pe_str pe_int (pps_cons pe_str pe_int pps_nil)))) (by rfl) (by rfl) (fun z => by cases z) (by decide)) (pe_ix (r := rIxL K) ix_list (pv 3) pe_int (fun _ _ => rfl)) pe_int (by exact M2.mk rfl rfl rfl rfl)) (nomark _)))))))) (pss_one (ps_ret (pe_un un_neg pe_int))) pss_nil)
      (pss_cons (ps_if (PW.pt (pw_and (pt_cmpR (r := rIn K false) op_in_seq (pv 2) (pe_tup (pa_cons pe_int (pa_cons pe_int pa_nil))) rfl) (pw_and1 (pt_cmpR (r := rIn K false) op_in_seq pe_bl (pe_lc (own := [("_law_word_here", 5)]) (by rfl) sc.nd (pi_list (pe_slice (r := rSlL K) sl_list (pv 3) (po_some (pe_ix (r := rIxL K) ix_list (pe_lst (pa_cons pe_int (pa_cons pe_int pa_nil))) (pe_callTy call_intB (by rfl) B.int_ (by decide +kernel) (pa_cons (pe_cmpR op_eq (pv 2) pe_int (nomark _)) pa_nil)) (fun _ _ => rfl))) po_none)) (blkOk_by (N := N_law_form) (sc := defScope s_law_form) (by decide +kernel)) (fun _ _ _ _ _ => (pg_name (i := 5) sc.nd rfl (Or.inl rfl))) (fun _ _ _ _ _ => pts_nil) (fun _ _ _ _ _ => (pe_callC C_law_is_name hr1 rfl (pa_cons (pv 5) pa_nil)))) rfl)))) (pss_one (ps_ret (pe_un un_neg pe_int))) pss_nil)
      (pss_cons (ps_if (PW.pt (pw_and (pt_cmpR op_eq (pv 2) pe_int (nomark _)) (pw_and1 (pt_cmpR op_isN1 (pe_callC C_law_rule_parts hr1 rfl (pa_cons (pe_slice (r := rSlL K) sl_list (pv 3) (po_some pe_int) po_none) pa_nil)) pe_non (nomark _))))) (pss_one (ps_ret (pe_un un_neg pe_int))) pss_nil)
      (pss_one (ps_ret (pv 2)))))))))))))))), fun G as r D hl sm hp hq hx => ?_⟩) (fun _ _ _ _ _ _ us hl => match us, hl with | [_], _ => rfl)
  obtain ⟨ws, rfl, hne, hw, hok, rfl⟩ := hp
  have ok : Cok (Bs No G H) := Bs.ok
  have bad : ∀ (ds : List (Option Dt)) (D' : Ends), formOf ws = -1 → D'.rt = D.rt → Run (tRet (tUn (rU fun i => .int (-i)) (tC (.int 1)))) (Bs No G H) ds D' := fun _ _ e hD => run_ret ok (ev_un ok (ev_int ok) rfl) (by rw [e]) (hq.of hD)
  refine run_set (d := .lst (tx headsL)) ok (ev_lst ok (ea_cons ok (ev_str ok) (ea_cons ok (ev_str ok) (ea_cons ok (ev_str ok) (ea_cons ok (ev_str ok) (ea_cons ok (ev_str ok) (ea_cons ok (ev_str ok) (ea_cons ok (ev_str ok) (ea_cons ok (ev_str ok) (ea_nil ok))))))))) (Nat.le_of_ble_eq_true rfl)) ?_
  match ws, hne, hw, hok, bad, hq with
  | [], hne, _, _, _, _ => exact absurd rfl hne
  | [h], _, hw, hok, bad, hq =>
    have h0 : atI (tx [h]) 0 = some (.str h) := rfl
    refine run_take ok (EvT.is (q := true) (p := !decide (h ∈ headsL) || true) (et_or ok (et_test (ev_op ok (by walk_at "ev") (ev_var ok rfl) (rv_niT ok (.inl rfl)))) (fun _ => et_orT (EvT.is (by walk_at "ev") (by rfl)))) (Bool.or_true _)) (bad _ _ rfl rfl)
  | h :: n :: rest, _, hw, hok, bad, hq =>
  have h0 : atI (tx (h :: n :: rest)) 0 = some (.str h) := at_nat (k := 0) rfl
  have h1 : atI (tx (h :: n :: rest)) 1 = some (.str n) := at_nat (k := 1) rfl
  have hrl : rest.length ≤ 1000000 := by simp only [List.length_cons] at hw; omega
  have hok' : ∀ x ∈ rest, PyData.strOk x = true := fun x hx => (hok x (List.mem_cons_of_mem _ (List.mem_cons_of_mem _ hx))).2
  have hne' : ∀ x ∈ rest, x ≠ "" := fun x hx => (hok x (List.mem_cons_of_mem _ (List.mem_cons_of_mem _ hx))).1
  have l1 : decide ((((tx (h :: n :: rest)).length : Nat) : Int) < 2) = false := by
    refine decide_eq_false ?_; simp only [List.length_map, List.length_cons]; omega
  refine run_when (b := !decide (h ∈ headsL) || (false || !isName n)) ok (et_or ok (et_test (ev_op ok (by walk_at "ev") (ev_var ok rfl) (rv_niT ok (.inl rfl)))) (fun _ => et_or ok (EvT.is (by walk_at "ev") l1) (fun _ => et_not (et_B (ev_call ok (ea_cons ok (by walk_at "ev") (ea_nil ok)) rfl (fun _ _ _ => ⟨n, rfl, rfl⟩)))))) (fun e => bad _ _ ?_ rfl) (fun e => ?_)
  · show (match headIx h with | some j => (if isName n && restOk j rest then ((j : Nat) : Int) else -1) | none => -1) = -1
    cases hj : headIx h with
    | none => rfl
    | some j =>
      have hmem : decide (h ∈ headsL) = true := decide_eq_true (List.mem_of_getElem? (headIx_some hj).1)
      rw [hmem] at e
      have hn : isName n = false := by simpa using e
      rw [hn]; rfl
  have hmem : h ∈ headsL := of_decide_eq_true (by
    cases hd : decide (h ∈ headsL) with
    | true => rfl
    | false => rw [hd] at e; cases e)
  have hn : isName n = true := by
    rw [decide_eq_true hmem] at e
    cases hd : isName n with
    | true => rfl
    | false => rw [hd] at e; cases e
  cases hj : headIx h with
  | none => exact absurd hmem (headIx_none hj)
  | some j =>
  obtain ⟨hj1, hj2, hj3⟩ := headIx_some hj
  have ef : formOf (h :: n :: rest) = if isName n && restOk j rest then ((j : Nat) : Int) else -1 := by show (match headIx h with | some j => (if isName n && restOk j rest then ((j : Nat) : Int) else -1) | none => -1) = _; rw [hj]
  rw [hn, Bool.true_and] at ef
  refine run_set (d := .int (j : Nat)) ok (ev_bmL ok (ev_var ok rfl) (ea_cons ok (by walk_at "ev") (ea_nil ok)) (rm_index ok hj1 hj2)) ?_
  refine run_set (d := .lst (tx rest)) ok (ev_drop (ws := h :: n :: rest) 2 ok (ev_var ok rfl)) ?_
  have hL : (tx rest).length = rest.length := List.length_map ..
  refine run_set ok (ev_lst ok (ea_cons ok (by walk_at "ev") (ea_cons ok (by walk_at "ev") (ea_cons ok (by walk_at "ev") (ea_cons ok (by walk_at "ev") (ea_cons ok (ev_op ok (ev_var ok rfl) (ev_lst ok (ea_nil ok) (Nat.le_of_ble_eq_true rfl)) (rv_eqT (m := []) ok hok' (fun _ hx => by cases hx))) (ea_cons ok (by walk_at "ev") (ea_nil ok))))))) (Nat.le_of_ble_eq_true rfl)) ?_
  refine run_set ok (ev_op ok (ev_var ok rfl) (ev_lst ok (ea_cons ok (ev_op ok (ev_var ok rfl) (by walk_at "ev") (rv_inO ok hok')) (ea_cons ok (ev_andV (q := hdName rest) ok (by walk_at "ev") (fun e => ?_)) (ea_nil ok))) (Nat.le_of_ble_eq_true rfl)) (EvN_ev2 ok (rn_cat ok (Nat.le_of_ble_eq_true rfl)))) ?_
  · match rest, e with
    | [], e => cases e
    | r0 :: rs, _ =>
      have h0 : atI (tx (r0 :: rs)) 0 = some (.str r0) := at_nat (k := 0) rfl
      exact ev_call ok (ea_cons ok (by walk_at "ev") (ea_nil ok)) rfl (fun _ _ _ => ⟨r0, rfl, rfl⟩)
  rw [hL]
  have goods : ∀ {x : Bool} {i : Int}, x = true → x = true := fun h => h
  match j, hj3, ef with
  | 0, _, ef =>
    by_cases hs : rest.length = 1
    · obtain ⟨x, rfl⟩ := len1 hs
      have r0 : atI (tx [x]) 0 = some (.str x) := rfl
      refine run_skip ok (EvT.is (et_not (et_B (ev_op ok (ev_var ok rfl) (ev_var ok rfl) (rv_ixL ok rfl)))) rfl) ?_
      refine run_when ok (b := !isNum x) (EvT.is (et_and ok (et_eqI (p := true) ok rfl (by decide)) (fun _ => et_not (et_B (ev_call ok (ea_cons ok (by walk_at "ev") (ea_nil ok)) rfl (fun _ _ _ => ⟨x, rfl, rfl⟩))))) (Bool.true_and _)) (fun e => bad _ _ ?_ rfl) (fun e => ?_)
      · rw [ef]; show (if isNum x = true then _ else _) = _; rw [notT e]; rfl
      have e1 : isNum x = true := notF e
      refine run_skip ok (et_andF (et_in2 ok rfl (by decide))) ?_
      refine run_skip ok (et_andF (et_in2 ok rfl (by decide))) ?_
      refine run_skip ok (et_andF (et_eqI ok rfl (by decide))) ?_
      refine run_skip ok (et_andF (et_in2 ok rfl (by decide))) ?_
      refine run_skip ok (et_andF (et_eqI ok rfl (by decide))) ?_
      exact run_ret ok (ev_var ok rfl) (by rw [ef]; show _ = Dt.int (if isNum x = true then _ else _); rw [e1]; rfl) hq
    · have e0 : restOk 0 rest = false := by
        match rest, hs with
        | [], _ => rfl
        | [_], hs => exact absurd rfl hs
        | _ :: _ :: _, _ => rfl
      exact run_take ok (EvT.is (et_not (et_B (ev_op ok (ev_var ok rfl) (ev_var ok rfl) (rv_ixL ok rfl)))) (by rw [← decide_not]; exact decide_eq_true (fun z => hs (by omega)))) (bad _ _ (by rw [ef, e0]; rfl) rfl)
  | 1, _, ef =>
    by_cases hs : rest.length = 5
    · obtain ⟨s', a, b, c, d, rfl⟩ := len5 hs
      have r0 : atI (tx [s', a, b, c, d]) 0 = some (.str s') := rfl
      refine run_skip ok (EvT.is (et_not (et_B (ev_op ok (ev_var ok rfl) (ev_var ok rfl) (rv_ixL ok rfl)))) rfl) ?_
      refine run_skip ok (et_andF (et_eqI ok rfl (by decide))) ?_
      refine run_when ok (b := !isSide s') (EvT.is (et_and ok (et_in2 (p := true) ok rfl (by decide)) (fun _ => by walk_at "ev")) (Bool.true_and _)) (fun e => bad _ _ ?_ rfl) (fun e => ?_)
      · rw [ef]; show (if (isSide s' && _) = true then _ else _) = _; rw [notT e]; rfl
      have e1 : isSide s' = true := notF e
      refine run_when ok (b := ![a, b, c, d].all isSigned) (EvT.is (et_and ok (et_in2 (p := true) ok rfl (by decide)) (fun _ => et_test (ev_op ok (ev_bl ok) (EvN.ev ok (en_map1 [a, b, c, d] Dt.str (fun y => Dt.bl (isSigned y)) ok (ev_drop (ws := [s', a, b, c, d]) 1 ok (ev_var ok rfl)) (fun y hy => by walk_at "ev") (Nat.le_of_ble_eq_true rfl))) (RV.is2 (rv_in (neg := false) (xs := ([a, b, c, d].map isSigned).map Dt.bl) ok rfl (flat_bl _) (.inl rfl)) (by rw [List.map_map]; rfl) (show _ = Dt.bl (![a, b, c, d].all isSigned) by rw [if_neg Bool.false_ne_true, anyF, List.all_map]; rfl))))) (Bool.true_and _)) (fun e => bad _ _ ?_ rfl) (fun e => ?_)
      · rw [ef]; show (if (isSide s' && [a, b, c, d].all isSigned) = true then _ else _) = _; rw [e1, notT e]; rfl
      have e2 : [a, b, c, d].all isSigned = true := notF e
      refine run_skip ok (et_andF (et_eqI ok rfl (by decide))) ?_
      refine run_skip ok (et_andF (et_in2 ok rfl (by decide))) ?_
      refine run_skip ok (et_andF (et_eqI ok rfl (by decide))) ?_
      exact run_ret ok (ev_var ok rfl) (by rw [ef]; show _ = Dt.int (if (isSide s' && [a, b, c, d].all isSigned) = true then _ else _); rw [e1, e2]; rfl) hq
    · have e0 : restOk 1 rest = false := by
        match rest, hs with
        | [], _ => rfl
        | [_], _ => rfl
        | [_, _], _ => rfl
        | [_, _, _], _ => rfl
        | [_, _, _, _], _ => rfl
        | [_, _, _, _, _], hs => exact absurd rfl hs
        | _ :: _ :: _ :: _ :: _ :: _ :: _, _ => rfl
      exact run_take ok (EvT.is (et_not (et_B (ev_op ok (ev_var ok rfl) (ev_var ok rfl) (rv_ixL ok rfl)))) (by rw [← decide_not]; exact decide_eq_true (fun z => hs (by omega)))) (bad _ _ (by rw [ef, e0]; rfl) rfl)
  | 2, _, ef =>
    by_cases hs : rest.length = 3
    · obtain ⟨s', a, b, rfl⟩ := len3 hs
      have r0 : atI (tx [s', a, b]) 0 = some (.str s') := rfl
      refine run_skip ok (EvT.is (et_not (et_B (ev_op ok (ev_var ok rfl) (ev_var ok rfl) (rv_ixL ok rfl)))) rfl) ?_
      refine run_skip ok (et_andF (et_eqI ok rfl (by decide))) ?_
      refine run_when ok (b := !isSide s') (EvT.is (et_and ok (et_in2 (p := true) ok rfl (by decide)) (fun _ => by walk_at "ev")) (Bool.true_and _)) (fun e => bad _ _ ?_ rfl) (fun e => ?_)
      · rw [ef]; show (if (isSide s' && _) = true then _ else _) = _; rw [notT e]; rfl
      have e1 : isSide s' = true := notF e
      refine run_when ok (b := ![a, b].all isSigned) (EvT.is (et_and ok (et_in2 (p := true) ok rfl (by decide)) (fun _ => et_test (ev_op ok (ev_bl ok) (EvN.ev ok (en_map1 [a, b] Dt.str (fun y => Dt.bl (isSigned y)) ok (ev_drop (ws := [s', a, b]) 1 ok (ev_var ok rfl)) (fun y hy => by walk_at "ev") (Nat.le_of_ble_eq_true rfl))) (RV.is2 (rv_in (neg := false) (xs := ([a, b].map isSigned).map Dt.bl) ok rfl (flat_bl _) (.inl rfl)) (by rw [List.map_map]; rfl) (show _ = Dt.bl (![a, b].all isSigned) by rw [if_neg Bool.false_ne_true, anyF, List.all_map]; rfl))))) (Bool.true_and _)) (fun e => bad _ _ ?_ rfl) (fun e => ?_)
      · rw [ef]; show (if (isSide s' && [a, b].all isSigned) = true then _ else _) = _; rw [e1, notT e]; rfl
      have e2 : [a, b].all isSigned = true := notF e
      refine run_skip ok (et_andF (et_eqI ok rfl (by decide))) ?_
      refine run_skip ok (et_andF (et_in2 ok rfl (by decide))) ?_
      refine run_skip ok (et_andF (et_eqI ok rfl (by decide))) ?_
      exact run_ret ok (ev_var ok rfl) (by rw [ef]; show _ = Dt.int (if (isSide s' && [a, b].all isSigned) = true then _ else _); rw [e1, e2]; rfl) hq
    · have e0 : restOk 2 rest = false := by
        match rest, hs with
        | [], _ => rfl
        | [_], _ => rfl
        | [_, _], _ => rfl
        | [_, _, _], hs => exact absurd rfl hs
        | _ :: _ :: _ :: _ :: _, _ => rfl
      exact run_take ok (EvT.is (et_not (et_B (ev_op ok (ev_var ok rfl) (ev_var ok rfl) (rv_ixL ok rfl)))) (by rw [← decide_not]; exact decide_eq_true (fun z => hs (by omega)))) (bad _ _ (by rw [ef, e0]; rfl) rfl)
  | 3, _, ef =>
    match rest, hok', hne', hrl, hL, ef with
    | [], _, _, _, _, ef => exact run_take ok (EvT.is (et_not (et_B (ev_op ok (ev_var ok rfl) (ev_var ok rfl) (rv_ixL ok rfl)))) rfl) (bad _ _ (by rw [ef]; rfl) rfl)
    | [_], _, _, _, _, ef => exact run_take ok (EvT.is (et_not (et_B (ev_op ok (ev_var ok rfl) (ev_var ok rfl) (rv_ixL ok rfl)))) rfl) (bad _ _ (by rw [ef]; rfl) rfl)
    | j' :: w' :: fs, hok', hne', hrl, hL, ef =>
      by_cases hfl : 1 ≤ fs.length
      case neg =>
        have e0 : restOk 3 (j' :: w' :: fs) = false := by
          show (((decide (1 ≤ fs.length) && isWay w') && decide ((fs.length : Int) = facesDue j')) && fs.all isName) = false
          rw [decide_eq_false hfl]; rfl
        exact run_take ok (EvT.is (et_not (et_B (ev_op ok (ev_var ok rfl) (ev_var ok rfl) (rv_ixL ok rfl)))) (by simp only [List.length_cons]; rw [← decide_not]; exact decide_eq_true (by omega))) (bad _ _ (by rw [ef, e0]; rfl) rfl)
      have r0 : atI (tx (j' :: w' :: fs)) 0 = some (.str j') := at_nat (k := 0) rfl
      have r1 : atI (tx (j' :: w' :: fs)) 1 = some (.str w') := at_nat (k := 1) rfl
      refine run_skip ok (EvT.is (et_not (et_B (ev_op ok (ev_var ok rfl) (ev_var ok rfl) (rv_ixL ok rfl)))) (by simp only [List.length_cons, Bool.not_eq_false']; exact decide_eq_true (by omega))) ?_
      refine run_skip ok (et_andF (et_eqI ok rfl (by decide))) ?_
      refine run_skip ok (et_andF (et_in2 ok rfl (by decide))) ?_
      refine run_skip ok (et_andF (et_in2 ok rfl (by decide))) ?_
      refine run_when ok (b := !isWay w' || !decide ((fs.length : Int) = facesDue j')) (EvT.is (et_and ok (et_eqI (p := true) ok rfl (by decide)) (fun _ => et_or ok (by walk_at "ev") (fun _ => et_test (ev_op ok (by walk_at "ev") (ev_due ok (by walk_at "ev")) (rv_ne ok rfl))))) (by
        rw [Bool.true_and]
        congr 2
        refine decide_eq_decide.mpr ?_
        simp only [List.length_map, List.length_cons]
        omega)) (fun e => bad _ _ ?_ rfl) (fun e => ?_)
      · have e0 : restOk 3 (j' :: w' :: fs) = false := by
          show (((decide (1 ≤ fs.length) && isWay w') && decide ((fs.length : Int) = facesDue j')) && fs.all isName) = false
          cases h1 : isWay w' <;> cases h2 : decide ((fs.length : Int) = facesDue j') <;> first | (rw [h1, h2] at e; cases e; done) | simp
        rw [ef, e0]; rfl
      have e1 : isWay w' = true ∧ decide ((fs.length : Int) = facesDue j') = true := by
        cases h1 : isWay w' <;> cases h2 : decide ((fs.length : Int) = facesDue j') <;> first | (rw [h1, h2] at e; cases e; done) | exact ⟨rfl, rfl⟩
      have er : restOk 3 (j' :: w' :: fs) = fs.all isName := by
        show (((decide (1 ≤ fs.length) && isWay w') && decide ((fs.length : Int) = facesDue j')) && fs.all isName) = _
        rw [e1.1, e1.2, decide_eq_true hfl]; rfl
      rw [er] at ef
      refine run_when ok (b := !fs.all isName) (EvT.is (et_and ok (et_in2 (p := true) ok rfl (by decide)) (fun _ => et_test (ev_op ok (ev_bl ok) (EvN.ev ok (en_map1 fs Dt.str (fun y => Dt.bl (isName y)) ok (ev_dropE (k := 2) ok (ev_var ok rfl) (ev_sel (p := false) ok rfl (by decide)) rfl) (fun y hy => by walk_at "ev") (by simp only [List.length_cons] at hrl; show _ ≤ 16000000; omega))) (RV.is2 (rv_in (neg := false) (xs := (fs.map isName).map Dt.bl) ok rfl (flat_bl _) (.inl rfl)) (by rw [List.map_map]; rfl) (show _ = Dt.bl (!fs.all isName) by rw [if_neg Bool.false_ne_true, anyF, List.all_map]; rfl))))) (Bool.true_and _)) (fun e => bad _ _ (by rw [ef, notT e]; rfl) rfl) (fun e => ?_)
      refine run_skip ok (et_andF (et_eqI ok rfl (by decide))) ?_
      exact run_ret ok (ev_var ok rfl) (by rw [ef, notF e]; rfl) hq
  | 4, _, ef =>
    match rest, hok', hne', hrl, hL, ef with
    | [], _, _, _, _, ef =>
      refine run_skip ok (EvT.is (et_not (et_B (ev_op ok (ev_var ok rfl) (ev_var ok rfl) (rv_ixL ok rfl)))) rfl) ?_
      refine run_skip ok (et_andF (et_eqI ok rfl (by decide))) ?_
      refine run_skip ok (et_andF (et_in2 ok rfl (by decide))) ?_
      refine run_skip ok (et_andF (et_in2 ok rfl (by decide))) ?_
      refine run_skip ok (et_andF (et_eqI ok rfl (by decide))) ?_
      refine run_skip ok (et_andF (et_in2 ok rfl (by decide))) ?_
      refine run_skip ok (et_andF (et_eqI ok rfl (by decide))) ?_
      exact run_ret ok (ev_var ok rfl) (by rw [ef]; rfl) hq
    | _ :: _, _, _, _, _, ef => exact run_take ok (EvT.is (et_not (et_B (ev_op ok (ev_var ok rfl) (ev_var ok rfl) (rv_ixL ok rfl)))) (by simp)) (bad _ _ (by rw [ef]; rfl) rfl)
  | 5, _, ef =>
    have l2 : (decide ((1 : Int) ≤ ((rest.length : Nat) : Int)) && decide (((rest.length : Nat) : Int) ≤ 20)) = (decide (1 ≤ rest.length) && decide (rest.length ≤ 20)) := by
      congr 1
      · refine decide_eq_decide.mpr ?_; omega
      · refine decide_eq_decide.mpr ?_; omega
    have er : restOk 5 rest = ((decide (1 ≤ rest.length) && decide (rest.length ≤ 20)) && rest.all isName) := by unfold restOk; rfl
    rw [er] at ef
    refine run_when ok (b := !(decide (1 ≤ rest.length) && decide (rest.length ≤ 20))) (EvT.is (et_not (et_B (ev_op ok (ev_var ok rfl) (ev_var ok rfl) (rv_ixL ok rfl)))) (by rw [l2])) (fun e => bad _ _ (by rw [ef, notT e]; rfl) rfl) (fun e => ?_)
    rw [notF e, Bool.true_and] at ef
    refine run_skip ok (et_andF (et_eqI ok rfl (by decide))) ?_
    refine run_skip ok (et_andF (et_in2 ok rfl (by decide))) ?_
    refine run_skip ok (et_andF (et_in2 ok rfl (by decide))) ?_
    refine run_skip ok (et_andF (et_eqI ok rfl (by decide))) ?_
    refine run_when ok (b := !rest.all isName) (EvT.is (et_and ok (et_in2 (p := true) ok rfl (by decide)) (fun _ => et_test (ev_op ok (ev_bl ok) (EvN.ev ok (en_map1 rest Dt.str (fun y => Dt.bl (isName y)) ok (ev_dropE (k := 0) ok (ev_var ok rfl) (ev_sel (p := true) ok rfl (by decide)) rfl) (fun y hy => by walk_at "ev") (Nat.le_trans hrl (by decide)))) (RV.is2 (rv_in (neg := false) (xs := (rest.map isName).map Dt.bl) ok rfl (flat_bl _) (.inl rfl)) (by rw [List.map_map]; rfl) (show _ = Dt.bl (!rest.all isName) by rw [if_neg Bool.false_ne_true, anyF, List.all_map]; rfl))))) (Bool.true_and _)) (fun e => bad _ _ (by rw [ef, notT e]; rfl) rfl) (fun e => ?_)
    refine run_skip ok (et_andF (et_eqI ok rfl (by decide))) ?_
    exact run_ret ok (ev_var ok rfl) (by rw [ef, notF e]; rfl) hq
  | 6, _, ef =>
    have er : restOk 6 rest = (decide (rest = (["on"] : List Str)) || decide (rest = (["off"] : List Str))) := by
      match rest with
      | [] => rfl
      | [s'] =>
        show decide (s' ∈ (["on", "off"] : List Str)) = _
        rw [Bool.eq_iff_iff]; simp
      | _ :: _ :: _ => simp [restOk]
    rw [er] at ef
    refine run_when ok (b := !(decide (rest = (["on"] : List Str)) || decide (rest = (["off"] : List Str)))) (et_not (et_B (ev_op ok (ev_var ok rfl) (ev_var ok rfl) (rv_ixL ok rfl)))) (fun e => bad _ _ (by rw [ef, notT e]; rfl) rfl) (fun e => ?_)
    refine run_skip ok (et_andF (et_eqI ok rfl (by decide))) ?_
    refine run_skip ok (et_andF (et_in2 ok rfl (by decide))) ?_
    refine run_skip ok (et_andF (et_in2 ok rfl (by decide))) ?_
    refine run_skip ok (et_andF (et_eqI ok rfl (by decide))) ?_
    refine run_skip ok (et_andF (et_in2 ok rfl (by decide))) ?_
    refine run_skip ok (et_andF (et_eqI ok rfl (by decide))) ?_
    exact run_ret ok (ev_var ok rfl) (by rw [ef, notF e]; rfl) hq
  | 7, _, ef =>
    match rest, hok', hne', hrl, hL, ef with
    | [], _, _, _, _, ef => exact run_take ok (EvT.is (et_not (et_B (ev_op ok (ev_var ok rfl) (ev_var ok rfl) (rv_ixL ok rfl)))) rfl) (bad _ _ (by rw [ef]; rfl) rfl)
    | f' :: r2, hok', hne', hrl, hL, ef =>
      have er : restOk 7 (f' :: r2) = (isName f' && (rulePartsOf r2).isSome) := rfl
      rw [er] at ef
      refine run_when ok (b := !isName f') (EvT.is (et_not (et_B (ev_op ok (ev_var ok rfl) (ev_var ok rfl) (rv_ixL ok rfl)))) (by
        have : decide ((0 : Int) < (((f' :: r2).length : Nat) : Int)) = true := decide_eq_true (by simp only [List.length_cons]; omega)
        show (!(decide _ && isName f')) = _
        rw [this, Bool.true_and])) (fun e => bad _ _ (by rw [ef, notT e]; rfl) rfl) (fun e => ?_)
      rw [notF e, Bool.true_and] at ef
      refine run_skip ok (et_andF (et_eqI ok rfl (by decide))) ?_
      refine run_skip ok (et_andF (et_in2 ok rfl (by decide))) ?_
      refine run_skip ok (et_andF (et_in2 ok rfl (by decide))) ?_
      refine run_skip ok (et_andF (et_eqI ok rfl (by decide))) ?_
      refine run_skip ok (et_andF (et_in2 ok rfl (by decide))) ?_
      refine run_when ok (b := !(rulePartsOf r2).isSome) (EvT.is (et_and ok (et_eqI (p := true) ok rfl (by decide)) (fun _ => et_test (ev_op ok (ev_call ok (ea_cons ok (ev_drop (ws := f' :: r2) 1 ok (ev_var ok rfl)) (ea_nil ok)) rfl (fun _ _ _ => ⟨r2, rfl, by simp only [List.length_cons] at hrl; omega, fun w hw => hne' w (List.mem_cons_of_mem _ hw), rfl⟩)) (ev_non ok) (rv_isN (b := !(rulePartsOf r2).isSome) ok (by
        cases rulePartsOf r2 with
        | none => rfl
        | some q => obtain ⟨a, b, c, d⟩ := q; rfl))))) (Bool.true_and _)) (fun e => bad _ _ (by rw [ef, notT e]; rfl) rfl) (fun e => ?_)
      exact run_ret ok (ev_var ok rfl) (by rw [ef, notF e]; rfl) hq
end
end Kx

namespace Kx
open PySem L2
/-! ## What the law's judge has been told -/
namespace Told
variable (t : Told)
def shapesD : List Dt := t.shapes.map fun p => .tup [.str p.1, .int p.2]
def marksD : List Dt := t.marks.map fun p => .tup [.str p.1, .str p.2.1, ptD p.2.2.1, ptD p.2.2.2]
def pointsD : List Dt := t.points.map fun p => .tup [.str p.1, .str p.2.1, ptD p.2.2]
def lettersD : List Dt := t.letters.map fun p => .tup [.str p.1, .str p.2.1, .str p.2.2.1, .tup (tx p.2.2.2)]
def classesD : List Dt := t.classes.map fun p => .tup [.str p.1, .tup (tx p.2)]
def featuresD : List Dt := t.features.map fun p => .tup [.str p.1, .bl p.2]
end Told
structure LA where
  l0 : Addr
  l1 : Addr
  l2 : Addr
  l3 : Addr
  l4 : Addr
  l5 : Addr
  l6 : Addr
  l7 : Addr
def LA.list (a : LA) : List Addr := [a.l0, a.l1, a.l2, a.l3, a.l4, a.l5, a.l6, a.l7]
def LA.S (a : LA) : Addr → Prop := fun b => b ∈ a.list
def LA.D (a : LA) : Dt := .tup [.obj a.l0, .obj a.l1, .obj a.l2, .obj a.l3, .obj a.l4, .obj a.l5, .obj a.l6, .obj a.l7]
structure LawAt (a : LA) (t : Told) (G H : Hp) : Prop where
  nd : a.list.Nodup
  m0 : Mu a.l0 t.shapesD G H
  m1 : Mu a.l1 t.marksD G H
  m2 : Mu a.l2 t.pointsD G H
  m3 : Mu a.l3 t.lettersD G H
  m4 : Mu a.l4 (tx t.gaps) G H
  m5 : Mu a.l5 t.classesD G H
  m6 : Mu a.l6 t.featuresD G H
  m7 : Mu a.l7 t.rulesD G H
theorem LawAt.stp {a : LA} {t : Told} {S : Addr → Prop} {G H G' H' : Hp} (h : LawAt a t G H) (st : Stp S G H G' H') (n : ∀ b ∈ a.list, ¬ S b) : LawAt a t G' H' :=
  ⟨h.nd, h.m0.stp' st (n _ (by simp [LA.list])), h.m1.stp' st (n _ (by simp [LA.list])), h.m2.stp' st (n _ (by simp [LA.list])), h.m3.stp' st (n _ (by simp [LA.list])), h.m4.stp' st (n _ (by simp [LA.list])), h.m5.stp' st (n _ (by simp [LA.list])), h.m6.stp' st (n _ (by simp [LA.list])), h.m7.stp' st (n _ (by simp [LA.list]))⟩
section
variable {a : LA} {t : Told} {G H H' : Hp}
theorem LawAt.set_shapes (h : LawAt a t G H) {xs} (st : Stp (fun b => b = a.l0) G H G H') (k : Mu a.l0 (Told.shapesD { t with shapes := xs }) G H') : LawAt a { t with shapes := xs } G H' := ⟨h.nd, k, h.m1.stp' st (nd_ne h.nd (i := 1) (j := 0) (by decide) rfl rfl), h.m2.stp' st (nd_ne h.nd (i := 2) (j := 0) (by decide) rfl rfl), h.m3.stp' st (nd_ne h.nd (i := 3) (j := 0) (by decide) rfl rfl), h.m4.stp' st (nd_ne h.nd (i := 4) (j := 0) (by decide) rfl rfl), h.m5.stp' st (nd_ne h.nd (i := 5) (j := 0) (by decide) rfl rfl), h.m6.stp' st (nd_ne h.nd (i := 6) (j := 0) (by decide) rfl rfl), h.m7.stp' st (nd_ne h.nd (i := 7) (j := 0) (by decide) rfl rfl)⟩
theorem LawAt.set_marks (h : LawAt a t G H) {xs} (st : Stp (fun b => b = a.l1) G H G H') (k : Mu a.l1 (Told.marksD { t with marks := xs }) G H') : LawAt a { t with marks := xs } G H' := ⟨h.nd, h.m0.stp' st (nd_ne h.nd (i := 0) (j := 1) (by decide) rfl rfl), k, h.m2.stp' st (nd_ne h.nd (i := 2) (j := 1) (by decide) rfl rfl), h.m3.stp' st (nd_ne h.nd (i := 3) (j := 1) (by decide) rfl rfl), h.m4.stp' st (nd_ne h.nd (i := 4) (j := 1) (by decide) rfl rfl), h.m5.stp' st (nd_ne h.nd (i := 5) (j := 1) (by decide) rfl rfl), h.m6.stp' st (nd_ne h.nd (i := 6) (j := 1) (by decide) rfl rfl), h.m7.stp' st (nd_ne h.nd (i := 7) (j := 1) (by decide) rfl rfl)⟩
theorem LawAt.set_points (h : LawAt a t G H) {xs} (st : Stp (fun b => b = a.l2) G H G H') (k : Mu a.l2 (Told.pointsD { t with points := xs }) G H') : LawAt a { t with points := xs } G H' := ⟨h.nd, h.m0.stp' st (nd_ne h.nd (i := 0) (j := 2) (by decide) rfl rfl), h.m1.stp' st (nd_ne h.nd (i := 1) (j := 2) (by decide) rfl rfl), k, h.m3.stp' st (nd_ne h.nd (i := 3) (j := 2) (by decide) rfl rfl), h.m4.stp' st (nd_ne h.nd (i := 4) (j := 2) (by decide) rfl rfl), h.m5.stp' st (nd_ne h.nd (i := 5) (j := 2) (by decide) rfl rfl), h.m6.stp' st (nd_ne h.nd (i := 6) (j := 2) (by decide) rfl rfl), h.m7.stp' st (nd_ne h.nd (i := 7) (j := 2) (by decide) rfl rfl)⟩
theorem LawAt.set_letters (h : LawAt a t G H) {xs} (st : Stp (fun b => b = a.l3) G H G H') (k : Mu a.l3 (Told.lettersD { t with letters := xs }) G H') : LawAt a { t with letters := xs } G H' := ⟨h.nd, h.m0.stp' st (nd_ne h.nd (i := 0) (j := 3) (by decide) rfl rfl), h.m1.stp' st (nd_ne h.nd (i := 1) (j := 3) (by decide) rfl rfl), h.m2.stp' st (nd_ne h.nd (i := 2) (j := 3) (by decide) rfl rfl), k, h.m4.stp' st (nd_ne h.nd (i := 4) (j := 3) (by decide) rfl rfl), h.m5.stp' st (nd_ne h.nd (i := 5) (j := 3) (by decide) rfl rfl), h.m6.stp' st (nd_ne h.nd (i := 6) (j := 3) (by decide) rfl rfl), h.m7.stp' st (nd_ne h.nd (i := 7) (j := 3) (by decide) rfl rfl)⟩
theorem LawAt.set_gaps (h : LawAt a t G H) {xs} (st : Stp (fun b => b = a.l4) G H G H') (k : Mu a.l4 (tx xs) G H') : LawAt a { t with gaps := xs } G H' := ⟨h.nd, h.m0.stp' st (nd_ne h.nd (i := 0) (j := 4) (by decide) rfl rfl), h.m1.stp' st (nd_ne h.nd (i := 1) (j := 4) (by decide) rfl rfl), h.m2.stp' st (nd_ne h.nd (i := 2) (j := 4) (by decide) rfl rfl), h.m3.stp' st (nd_ne h.nd (i := 3) (j := 4) (by decide) rfl rfl), k, h.m5.stp' st (nd_ne h.nd (i := 5) (j := 4) (by decide) rfl rfl), h.m6.stp' st (nd_ne h.nd (i := 6) (j := 4) (by decide) rfl rfl), h.m7.stp' st (nd_ne h.nd (i := 7) (j := 4) (by decide) rfl rfl)⟩
theorem LawAt.set_classes (h : LawAt a t G H) {xs} (st : Stp (fun b => b = a.l5) G H G H') (k : Mu a.l5 (Told.classesD { t with classes := xs }) G H') : LawAt a { t with classes := xs } G H' := ⟨h.nd, h.m0.stp' st (nd_ne h.nd (i := 0) (j := 5) (by decide) rfl rfl), h.m1.stp' st (nd_ne h.nd (i := 1) (j := 5) (by decide) rfl rfl), h.m2.stp' st (nd_ne h.nd (i := 2) (j := 5) (by decide) rfl rfl), h.m3.stp' st (nd_ne h.nd (i := 3) (j := 5) (by decide) rfl rfl), h.m4.stp' st (nd_ne h.nd (i := 4) (j := 5) (by decide) rfl rfl), k, h.m6.stp' st (nd_ne h.nd (i := 6) (j := 5) (by decide) rfl rfl), h.m7.stp' st (nd_ne h.nd (i := 7) (j := 5) (by decide) rfl rfl)⟩
theorem LawAt.set_features (h : LawAt a t G H) {xs} (st : Stp (fun b => b = a.l6) G H G H') (k : Mu a.l6 (Told.featuresD { t with features := xs }) G H') : LawAt a { t with features := xs } G H' := ⟨h.nd, h.m0.stp' st (nd_ne h.nd (i := 0) (j := 6) (by decide) rfl rfl), h.m1.stp' st (nd_ne h.nd (i := 1) (j := 6) (by decide) rfl rfl), h.m2.stp' st (nd_ne h.nd (i := 2) (j := 6) (by decide) rfl rfl), h.m3.stp' st (nd_ne h.nd (i := 3) (j := 6) (by decide) rfl rfl), h.m4.stp' st (nd_ne h.nd (i := 4) (j := 6) (by decide) rfl rfl), h.m5.stp' st (nd_ne h.nd (i := 5) (j := 6) (by decide) rfl rfl), k, h.m7.stp' st (nd_ne h.nd (i := 7) (j := 6) (by decide) rfl rfl)⟩
theorem LawAt.set_rules (h : LawAt a t G H) {xs} (st : Stp (fun b => b = a.l7) G H G H') (k : Mu a.l7 (Told.rulesD { t with rules := xs }) G H') : LawAt a { t with rules := xs } G H' := ⟨h.nd, h.m0.stp' st (nd_ne h.nd (i := 0) (j := 7) (by decide) rfl rfl), h.m1.stp' st (nd_ne h.nd (i := 1) (j := 7) (by decide) rfl rfl), h.m2.stp' st (nd_ne h.nd (i := 2) (j := 7) (by decide) rfl rfl), h.m3.stp' st (nd_ne h.nd (i := 3) (j := 7) (by decide) rfl rfl), h.m4.stp' st (nd_ne h.nd (i := 4) (j := 7) (by decide) rfl rfl), h.m5.stp' st (nd_ne h.nd (i := 5) (j := 7) (by decide) rfl rfl), h.m6.stp' st (nd_ne h.nd (i := 6) (j := 7) (by decide) rfl rfl), k⟩
end
section
variable {C : Hp → Hp → Prop} {a : LA} {t : Told}
theorem law_shapes (h : ∀ G H, C G H → LawAt a t G H) : ∀ G H, C G H → Mu a.l0 t.shapesD G H := fun G H k => (h G H k).m0
theorem law_marks (h : ∀ G H, C G H → LawAt a t G H) : ∀ G H, C G H → Mu a.l1 t.marksD G H := fun G H k => (h G H k).m1
theorem law_points (h : ∀ G H, C G H → LawAt a t G H) : ∀ G H, C G H → Mu a.l2 t.pointsD G H := fun G H k => (h G H k).m2
theorem law_letters (h : ∀ G H, C G H → LawAt a t G H) : ∀ G H, C G H → Mu a.l3 t.lettersD G H := fun G H k => (h G H k).m3
theorem law_gaps (h : ∀ G H, C G H → LawAt a t G H) : ∀ G H, C G H → Mu a.l4 (tx t.gaps) G H := fun G H k => (h G H k).m4
theorem law_classes (h : ∀ G H, C G H → LawAt a t G H) : ∀ G H, C G H → Mu a.l5 t.classesD G H := fun G H k => (h G H k).m5
theorem law_features (h : ∀ G H, C G H → LawAt a t G H) : ∀ G H, C G H → Mu a.l6 t.featuresD G H := fun G H k => (h G H k).m6
theorem law_rules (h : ∀ G H, C G H → LawAt a t G H) : ∀ G H, C G H → Mu a.l7 t.rulesD G H := fun G H k => (h G H k).m7
end
def CL (a : LA) (t : Told) (S : Addr → Prop) (G0 H0 : Hp) : Hp → Hp → Prop := fun G H => Stp S G0 H0 G H ∧ LawAt a t G H
theorem CL.ok {a : LA} {t : Told} {S : Addr → Prop} {G0 H0 : Hp} : Cok (CL a t S G0 H0) := ⟨fun c => c.1.gh, fun c p => ⟨c.1.trans (Stp.of p), c.2.stp p fun _ _ z => z⟩⟩
theorem CL.law {a : LA} {t : Told} {S : Addr → Prop} {G0 H0 : Hp} : ∀ G H, CL a t S G0 H0 G H → LawAt a t G H := fun _ _ k => k.2
/-! ### mirrors of the judge's steps -/
def hasN (l : List Str) (x : Str) : Bool := decide (x ∈ l)
def Told.nShapes (t : Told) : List Str := t.shapes.map (·.1)
def Told.names (t : Told) : Nat → List Str
  | 0 => t.shapes.map (·.1)
  | 1 => t.marks.map (·.1)
  | 2 => t.points.map fun p => (p.1 ++ " ") ++ p.2.1
  | 3 => t.letters.map (·.1)
  | 4 => t.gaps
  | 5 => t.classes.map (·.1)
  | 6 => t.features.map (·.1)
  | 7 => t.rules.map (·.1)
  | _ => []
def ownName (j : Nat) (n : Str) (rest : List Str) : Str := if j = 2 then (n ++ " ") ++ rest.headD "" else n
def limit : Nat → Nat
  | 0 => 60 | 1 => 300 | 2 => 300 | 3 => 24 | 4 => 300 | 5 => 20 | 6 => 10 | _ => 30
def iLacks (t : Told) (x : Str) : Bool := if decide ((tl x).take 1 = [64]) then !hasN (t.names 5) (rest1 x) else !hasN (t.names 0) x
def lacksL (t : Told) (j : Nat) (n : Str) (rest : List Str) : Bool :=
  if j = 1 ∨ j = 2 then !hasN (t.names 0) n else if j = 3 then (rest.drop 2).any fun x => !hasN (t.names 0) x else if j = 4 then !hasN (t.names 3) n
  else if j = 5 then rest.any fun x => !hasN (t.names 0) x
  else if j = 7 then (match rulePartsOf rest.tail with
    | some (a, b, c, d) => (a ++ b ++ c ++ d).any (iLacks t) || !hasN (t.names 6) (rest.headD "")
    | none => false)
  else false
def putL (t : Told) (j : Nat) (n : Str) (rest : List Str) : Told := match j, rest with
  | 0, [x] => { t with shapes := t.shapes ++ [(n, numV x)] }
  | 1, [s, a, b, c, d] => { t with marks := t.marks ++ [(n, s, (sgnV a, sgnV b), (sgnV c, sgnV d))] }
  | 2, [s, a, b] => { t with points := t.points ++ [(n, s, (sgnV a, sgnV b))] }
  | 3, jn :: w :: fs => { t with letters := t.letters ++ [(n, jn, w, fs)] }
  | 4, _ => { t with gaps := t.gaps ++ [n] }
  | 5, fs => { t with classes := t.classes ++ [(n, fs)] }
  | 6, [s] => { t with features := t.features ++ [(n, decide (s = "on"))] }
  | 7, f :: r2 => (match rulePartsOf r2 with
    | some q => { t with rules := t.rules ++ [(n, f, q)] }
    | none => t)
  | _, _ => t
def lawRow (t : Told) (j : Nat) (n : Str) (rest : List Str) : Str × Told :=
  fin t (firstDue (hasN (t.names j) (ownName j n rest)) (lacksL t j n rest) (decide (limit j ≤ (t.names j).length))) (putL t j n rest)
/-! ### what is told is of the right kind -/
def small (i : Int) : Prop := -100000 < i ∧ i < 100000
def smallP (p : Pt) : Prop := small p.1 ∧ small p.2
structure Fit (t : Told) : Prop where
  s : ∀ p ∈ t.shapes, isName p.1 = true ∧ small p.2
  m : ∀ p ∈ t.marks, isName p.1 = true ∧ isSide p.2.1 = true ∧ smallP p.2.2.1 ∧ smallP p.2.2.2
  p : ∀ p ∈ t.points, isName p.1 = true ∧ isSide p.2.1 = true ∧ smallP p.2.2
  l : ∀ p ∈ t.letters, isName p.1 = true ∧ p.2.1.length ≤ 5 ∧ isWay p.2.2.1 = true ∧ p.2.2.2.length ≤ 4 ∧ p.2.2.2.all isName = true
  g : ∀ p ∈ t.gaps, isName p = true
  c : ∀ p ∈ t.classes, isName p.1 = true ∧ p.2.length ≤ 20 ∧ p.2.all isName = true
  f : ∀ p ∈ t.features, isName p.1 = true
  r : ∀ p ∈ t.rules, isName p.1 = true ∧ isName p.2.1 = true ∧ ok4 p.2.2.1 p.2.2.2.1 p.2.2.2.2.1 p.2.2.2.2.2 = true
theorem hasS_eq {α : Type} (f : α → Dt) (g : α → Str) (l : List α) (x : Str) : hasS (l.map fun p => (g p, f p)) x = hasN (l.map g) x := by
  unfold hasS hasN
  induction l with
  | nil => simp
  | cons p l ih =>
    rw [List.map_cons, List.any_cons, ih, List.map_cons, Bool.eq_iff_iff]
    simp only [Bool.or_eq_true, decide_eq_true_eq, List.mem_cons]
    exact ⟨fun h => h.imp (fun z => z.symm) id, fun h => h.imp (fun z => z.symm) id⟩
theorem hs_shapes (t : Told) (x : Str) : hasS t.shapesK x = hasN (t.names 0) x := hasS_eq _ _ _ _
theorem hs_marks (t : Told) (x : Str) : hasS t.marksK x = hasN (t.names 1) x := hasS_eq _ _ _ _
theorem hs_letters (t : Told) (x : Str) : hasS t.lettersK x = hasN (t.names 3) x := hasS_eq _ _ _ _
theorem hs_classes (t : Told) (x : Str) : hasS t.classesK x = hasN (t.names 5) x := hasS_eq _ _ _ _
theorem hs_features (t : Told) (x : Str) : hasS t.featuresK x = hasN (t.names 6) x := hasS_eq _ _ _ _
theorem iLacks_eq (t : Told) (x : Str) : itemLacks t x = iLacks t x := by unfold itemLacks iLacks; rw [hs_classes, hs_shapes]
/-- no blank in a name -/
theorem name_blank {x : Str} (h : isName x = true) : 32 ∉ tl x := fun m => by
  unfold isName at h
  rw [Bool.and_eq_true] at h
  have := List.all_eq_true.mp h.2 32 m
  revert this; decide +kernel
theorem split_blank : ∀ {a b c d : List Nat}, 32 ∉ a → 32 ∉ c → a ++ 32 :: b = c ++ 32 :: d → a = c ∧ b = d
  | [], b, [], d, _, _, h => ⟨rfl, (List.cons.inj h).2⟩
  | [], b, y :: c, d, _, hc, h => absurd (by rw [(List.cons.inj h).1]; exact List.mem_cons_self) hc
  | x :: a, b, [], d, ha, _, h => absurd (by rw [← (List.cons.inj h).1]; exact List.mem_cons_self) ha
  | x :: a, b, y :: c, d, ha, hc, h => by
    obtain ⟨h1, h2⟩ := List.cons.inj h
    obtain ⟨e1, e2⟩ := split_blank (fun z => ha (List.mem_cons_of_mem _ z)) (fun z => hc (List.mem_cons_of_mem _ z)) h2
    exact ⟨by rw [h1, e1], e2⟩
theorem pair_inj {n n' s s' : Str} (h : isName n = true) (h' : isName n' = true) : (n ++ " ") ++ s = (n' ++ " ") ++ s' ↔ n = n' ∧ s = s' := by
  constructor
  · intro e
    have e2 := congrArg tl e
    rw [tl_app, tl_app, tl_app, tl_app, show tl " " = [32] by decide +kernel, List.append_assoc, List.append_assoc] at e2
    obtain ⟨a, b⟩ := split_blank (name_blank h) (name_blank h') e2
    exact ⟨ext_tl a, ext_tl b⟩
  · rintro ⟨rfl, rfl⟩; rfl
theorem points_has {t : Told} (F : Fit t) {n s : Str} (hn : isName n = true) : hasT t.pointsK [n, s] = hasN (t.names 2) ((n ++ " ") ++ s) := by
  have hp := F.p
  unfold hasT hasN Told.pointsK Told.names
  generalize t.points = l at hp
  induction l with
  | nil => simp
  | cons p l ih =>
    rw [List.map_cons, List.any_cons, ih fun q hq => hp q (List.mem_cons_of_mem _ hq), List.map_cons, Bool.eq_iff_iff]
    simp only [Bool.or_eq_true, decide_eq_true_eq, List.mem_cons]
    have h1 := (hp p List.mem_cons_self).1
    have key : ([p.1, p.2.1] = [n, s]) ↔ ((n ++ " ") ++ s = (p.1 ++ " ") ++ p.2.1) := by
      rw [pair_inj hn h1]
      constructor
      · intro e
        obtain ⟨e1, e2⟩ := List.cons.inj e
        exact ⟨e1.symm, (List.cons.inj e2).1.symm⟩
      · rintro ⟨rfl, rfl⟩; rfl
    rw [key]
theorem names_len (t : Told) : (t.names 1).length ≤ t.size ∧ (t.names 2).length ≤ t.size ∧ (t.names 4).length ≤ t.size := by
  refine ⟨?_, ?_, ?_⟩ <;> simp only [Told.names, Told.size, List.length_map] <;> omega
theorem name_at {w : Str} (h : isName w = true) : decide ((tl w).take 1 = [64]) = false := by
  refine decide_eq_false fun e => ?_
  unfold isName at h
  rw [Bool.and_eq_true] at h
  cases hx : tl w with
  | nil => rw [hx] at e; cases e
  | cons c r =>
    rw [hx] at e h
    have hc : c = 64 := by simpa using e
    have := List.all_eq_true.mp h.2 c List.mem_cons_self
    rw [hc] at this
    revert this; decide +kernel
abbrev rowR (t : Told) (j : Nat) (n : Str) (rest : List Str) : Str × Told := if isName n && restOk j rest then lawRow t j n rest else (("row" : Str), t)
theorem bad_if {t : Told} {n : Str} {a : Str × Told} : (if (isName n && false) = true then a else (("row" : Str), t)) = (("row" : Str), t) := by rw [Bool.and_false]; rfl
theorem rw0 (t : Told) (n : Str) (rest : List Str) : shapeRow t (n :: rest) = rowR t 0 n rest := by
  match rest with
  | [] => exact bad_if.symm
  | _ :: _ :: _ => exact bad_if.symm
  | [x] =>
    show (if isName n && isNum x then fin t (firstDue (hasS t.shapesK n) false (decide (60 ≤ t.shapes.length))) _ else _) = (if isName n && isNum x then fin t (firstDue (hasN (t.names 0) n) false (decide (60 ≤ (t.shapes.map (·.1)).length))) _ else _)
    rw [hs_shapes, List.length_map]; rfl
theorem rw1 {t : Told} (hz : t.size < 300) (n : Str) (rest : List Str) : markRow t (n :: rest) = rowR t 1 n rest := by
  match rest with
  | [] => exact bad_if.symm
  | [_] => exact bad_if.symm
  | [_, _] => exact bad_if.symm
  | [_, _, _] => exact bad_if.symm
  | [_, _, _, _] => exact bad_if.symm
  | _ :: _ :: _ :: _ :: _ :: _ :: _ => exact bad_if.symm
  | [s, a, b, c, d] =>
    show (if (isName n && isSide s) && [a, b, c, d].all isSigned then fin t (firstDue (hasS t.marksK n) (!hasS t.shapesK n) false) _ else _) = (if isName n && (isSide s && [a, b, c, d].all isSigned) then fin t (firstDue (hasN (t.names 1) n) (!hasN (t.names 0) n) (decide (300 ≤ (t.names 1).length))) _ else _)
    have := (names_len t).1
    rw [hs_shapes, hs_marks, decide_eq_false (show ¬ 300 ≤ (t.names 1).length by omega), Bool.and_assoc]; rfl
theorem rw2 {t : Told} (F : Fit t) (hz : t.size < 300) (n : Str) (rest : List Str) : pointRow t (n :: rest) = rowR t 2 n rest := by
  match rest with
  | [] => exact bad_if.symm
  | [_] => exact bad_if.symm
  | [_, _] => exact bad_if.symm
  | _ :: _ :: _ :: _ :: _ => exact bad_if.symm
  | [s, a, b] =>
    show (if (isName n && isSide s) && [a, b].all isSigned then fin t (firstDue (hasT t.pointsK [n, s]) (!hasS t.shapesK n) false) _ else _) = (if isName n && (isSide s && [a, b].all isSigned) then fin t (firstDue (hasN (t.names 2) ((n ++ " ") ++ s)) (!hasN (t.names 0) n) (decide (300 ≤ (t.names 2).length))) _ else _)
    have := (names_len t).2.1
    cases hn : isName n with
    | false => rfl
    | true =>
      rw [hs_shapes, points_has F hn, decide_eq_false (show ¬ 300 ≤ (t.names 2).length by omega), Bool.and_assoc]; rfl
theorem rw3 (t : Told) (n : Str) (rest : List Str) : letterRow t (n :: rest) = rowR t 3 n rest := by
  match rest with
  | [] => exact bad_if.symm
  | [_] => exact bad_if.symm
  | j :: w :: fs =>
    show (if ((decide (1 ≤ fs.length) && isName n) && isWay w) && (decide ((fs.length : Int) = facesDue j) && fs.all isName) then fin t (firstDue (hasS t.lettersK n) (fs.any fun x => !hasS t.shapesK x) (decide (24 ≤ t.letters.length))) _ else _) =
      (if isName n && (((decide (1 ≤ fs.length) && isWay w) && decide ((fs.length : Int) = facesDue j)) && fs.all isName) then fin t (firstDue (hasN (t.names 3) n) (fs.any fun x => !hasN (t.names 0) x) (decide (24 ≤ (t.letters.map (·.1)).length))) _ else _)
    have e : (((decide (1 ≤ fs.length) && isName n) && isWay w) && (decide ((fs.length : Int) = facesDue j) && fs.all isName)) = (isName n && (((decide (1 ≤ fs.length) && isWay w) && decide ((fs.length : Int) = facesDue j)) && fs.all isName)) := by
      cases decide (1 ≤ fs.length) <;> cases isName n <;> cases isWay w <;> cases decide ((fs.length : Int) = facesDue j) <;> rfl
    have e2 : (fs.any fun x => !hasS t.shapesK x) = fs.any fun x => !hasN (t.names 0) x := congrArg (List.any fs) (funext fun x => by rw [hs_shapes])
    rw [e, e2, hs_letters, List.length_map]; rfl
theorem rw4 {t : Told} (hz : t.size < 300) (n : Str) (rest : List Str) : gapRow t (n :: rest) = rowR t 4 n rest := by
  match rest with
  | _ :: _ => exact bad_if.symm
  | [] =>
    show (if isName n then fin t (firstDue (decide (n ∈ t.gaps)) (!hasS t.lettersK n) false) _ else _) = (if isName n && true then fin t (firstDue (hasN (t.names 4) n) (!hasN (t.names 3) n) (decide (300 ≤ (t.names 4).length))) _ else _)
    have := (names_len t).2.2
    rw [hs_letters, decide_eq_false (show ¬ 300 ≤ (t.names 4).length by omega), Bool.and_true]; rfl
theorem rw5 (t : Told) (n : Str) (rest : List Str) : classRow t (n :: rest) = rowR t 5 n rest := by
  have e0 : restOk 5 rest = ((decide (1 ≤ rest.length) && decide (rest.length ≤ 20)) && rest.all isName) := by unfold restOk; rfl
  show (if (decide (1 ≤ rest.length) && decide (rest.length ≤ 20)) && (isName n && rest.all isName) then fin t (firstDue (hasS t.classesK n) (rest.any fun x => !hasS t.shapesK x) (decide (20 ≤ t.classes.length))) _ else _) = (if isName n && restOk 5 rest then lawRow t 5 n rest else _)
  have e1 : lawRow t 5 n rest = fin t (firstDue (hasN (t.names 5) n) (rest.any fun x => !hasN (t.names 0) x) (decide (20 ≤ (t.classes.map (·.1)).length))) { t with classes := t.classes ++ [(n, rest)] } := by
    unfold lawRow putL; rfl
  have e2 : (rest.any fun x => !hasS t.shapesK x) = rest.any fun x => !hasN (t.names 0) x := congrArg (List.any rest) (funext fun x => by rw [hs_shapes])
  rw [e0, e1, e2, hs_classes, List.length_map]
  have e : ((decide (1 ≤ rest.length) && decide (rest.length ≤ 20)) && (isName n && rest.all isName)) = (isName n && ((decide (1 ≤ rest.length) && decide (rest.length ≤ 20)) && rest.all isName)) := by
    cases (decide (1 ≤ rest.length) && decide (rest.length ≤ 20)) <;> cases isName n <;> rfl
  rw [e]
theorem rw6 (t : Told) (n : Str) (rest : List Str) : featureRow t (n :: rest) = rowR t 6 n rest := by
  match rest with
  | [] => exact bad_if.symm
  | _ :: _ :: _ => exact bad_if.symm
  | [s] =>
    show (if isName n && isOn s then fin t (firstDue (hasS t.featuresK n) false (decide (10 ≤ t.features.length))) _ else _) = (if isName n && isOn s then fin t (firstDue (hasN (t.names 6) n) false (decide (10 ≤ (t.features.map (·.1)).length))) _ else _)
    rw [hs_features, List.length_map]; rfl
theorem rw7 (t : Told) (n : Str) (rest : List Str) : ruleRow t (n :: rest) = rowR t 7 n rest := by
  match rest with
  | [] => exact bad_if.symm
  | f :: r2 =>
    cases hr : rulePartsOf r2 with
    | none =>
      have e : restOk 7 (f :: r2) = false := by show (isName f && (rulePartsOf r2).isSome) = false; rw [hr]; exact Bool.and_false _
      show (if isName n && isName f then (match rulePartsOf r2 with | some (a, b, c, d) => _ | none => (("row" : Str), t)) else (("row" : Str), t)) = (if isName n && restOk 7 (f :: r2) then _ else _)
      rw [e, hr, bad_if]; split <;> rfl
    | some q =>
      obtain ⟨a, b, c, d⟩ := q
      have e : restOk 7 (f :: r2) = isName f := by show (isName f && (rulePartsOf r2).isSome) = _; rw [hr]; exact Bool.and_true _
      have h4 : ok4 a b c d = true := by
        unfold rulePartsOf at hr
        split at hr
        · split at hr
          · rename_i h; cases hr; exact h
          · cases hr
        · cases hr
      unfold ok4 at h4
      simp only [Bool.and_eq_true] at h4
      have hd := h4.1.2
      have hl : lacksL t 7 n (f :: r2) = ((a ++ b ++ c ++ d).any (iLacks t) || !hasN (t.names 6) f) := by
        show (match rulePartsOf r2 with | some (a, b, c, d) => (a ++ b ++ c ++ d).any (iLacks t) || !hasN (t.names 6) f | none => false) = _
        rw [hr]
      have hp : putL t 7 n (f :: r2) = { t with rules := t.rules ++ [(n, f, (a, b, c, d))] } := by
        show (match rulePartsOf r2 with | some q => _ | none => t) = _
        rw [hr]
      have e3 : ((!hasS t.featuresK f || d.any fun x => !hasS t.shapesK x) || (a ++ b ++ c).any (itemLacks t)) = ((a ++ b ++ c ++ d).any (iLacks t) || !hasN (t.names 6) f) := by
        have e4 : (d.any fun x => !hasS t.shapesK x) = d.any (iLacks t) := by
          rw [Bool.eq_iff_iff]
          simp only [List.any_eq_true]
          constructor
          · rintro ⟨x, hx, h⟩
            refine ⟨x, hx, ?_⟩
            unfold iLacks
            rw [name_at (List.all_eq_true.mp hd x hx), if_neg Bool.false_ne_true, ← hs_shapes]; exact h
          · rintro ⟨x, hx, h⟩
            refine ⟨x, hx, ?_⟩
            unfold iLacks at h
            rw [name_at (List.all_eq_true.mp hd x hx), if_neg Bool.false_ne_true, ← hs_shapes] at h; exact h
        have e5 : (a ++ b ++ c).any (itemLacks t) = (a ++ b ++ c).any (iLacks t) := congrArg (List.any _) (funext fun x => iLacks_eq t x)
        rw [e4, e5, hs_features, List.any_append (xs := a ++ b ++ c) (ys := d)]
        cases hasN (t.names 6) f <;> cases (a ++ b ++ c).any (iLacks t) <;> cases d.any (iLacks t) <;> rfl
      show (if isName n && isName f then (match rulePartsOf r2 with
        | some (a, b, c, d) => fin t (firstDue (decide (n ∈ t.rules.map (·.1))) ((!hasS t.featuresK f || d.any fun x => !hasS t.shapesK x) || (a ++ b ++ c).any (itemLacks t)) (decide (30 ≤ t.rules.length))) { t with rules := t.rules ++ [(n, f, (a, b, c, d))] }
        | none => (("row" : Str), t)) else (("row" : Str), t)) = (if isName n && restOk 7 (f :: r2) then fin t (firstDue (hasN (t.names 7) n) (lacksL t 7 n (f :: r2)) (decide (30 ≤ (t.rules.map (·.1)).length))) (putL t 7 n (f :: r2)) else _)
      rw [e, hl, hp, hr, List.length_map]
      show (if _ then fin t (firstDue _ ((!hasS t.featuresK f || d.any fun x => !hasS t.shapesK x) || (a ++ b ++ c).any (itemLacks t)) _) _ else _) = _
      rw [e3]; rfl
/-- the program's row is the judge's -/
theorem row_eq {t : Told} {h n : Str} {rest : List Str} (F : Fit t) (hz : t.size < 300) : hallRow t h (n :: rest) = match headIx h with
    | some j => rowR t j n rest
    | none => (("row" : Str), t) := by
  unfold hallRow headIx
  by_cases h0 : h = "shape"
  · rw [if_pos h0, if_pos h0]; exact rw0 t n rest
  rw [if_neg h0, if_neg h0]
  by_cases h1 : h = "mark"
  · rw [if_pos h1, if_pos h1]; exact rw1 hz n rest
  rw [if_neg h1, if_neg h1]
  by_cases h2 : h = "point"
  · rw [if_pos h2, if_pos h2]; exact rw2 F hz n rest
  rw [if_neg h2, if_neg h2]
  by_cases h3 : h = "letter"
  · rw [if_pos h3, if_pos h3]; exact rw3 t n rest
  rw [if_neg h3, if_neg h3]
  by_cases h4 : h = "gap"
  · rw [if_pos h4, if_pos h4]; exact rw4 hz n rest
  rw [if_neg h4, if_neg h4]
  by_cases h5 : h = "class"
  · rw [if_pos h5, if_pos h5]; exact rw5 t n rest
  rw [if_neg h5, if_neg h5]
  by_cases h6 : h = "feature"
  · rw [if_pos h6, if_pos h6]; exact rw6 t n rest
  rw [if_neg h6, if_neg h6]
  by_cases h7 : h = "rule"
  · rw [if_pos h7, if_pos h7]; exact rw7 t n rest
  rw [if_neg h7, if_neg h7]
theorem row_one {t : Told} {h : Str} : hallRow t h [] = (("row" : Str), t) := by
  unfold hallRow
  repeat' split
  all_goals rfl
end Kx

namespace Kx
open PySem L2
section
variable {S : Addr → Prop} {C : Hp → Hp → Prop} {ds : List (Option Dt)} {K : PySem.W.Frag} {te : TE} {tb u : TS} {D : Ends}
theorem run_findB {α : Type} {wi : TI} {g : TG} (ys : List α) (cn : α → Dt) (U : α → List (Nat × Dt)) (dw : List (Option Dt)) (T : α → Bool) (ok : Cok C) (hi : EvI No wi C ds (ys.map cn)) (ht : ∀ y ∈ ys, TgD g (cn y) (U y)) (hl : Less ds dw)
    (hw : ∀ y ∈ ys, Less (setsD dw (U y)) dw) (hb : ∀ y ∈ ys, ∀ C', Cok C' → (∀ G H, C' G H → C G H) → ∀ D' : Ends, D'.rt = D.rt → (T y = false → Run tNext C' (setsD dw (U y)) D') → Run tb C' (setsD dw (U y)) D')
    (hd : (∀ y ∈ ys, T y = false) → Run u C dw D) : Run (tSeq (tFor wi g tb) u) C ds D := by
  refine run_seq (run_for (S := No) ys cn U (fun i G H => C G H ∧ ∀ y ∈ ys.take i, T y = false) (fun _ => dw) ok (fun i => ⟨fun c => ok.sub c.1, fun c p => ⟨ok.stp c.1 p, c.2⟩⟩) hi ht (fun G H c => ⟨c, fun y hy => by simp at hy⟩) hl (fun i y hy Ga Ha ca => ?_) ?_)
  · have hm : y ∈ ys := List.mem_of_getElem? hy
    refine hb y hm _ (In.ok ⟨fun c => ok.sub c.1, fun c p => ⟨ok.stp c.1 p, c.2⟩⟩) (fun G H k => k.1.1) _ rfl fun e G σ H k s => ⟨G, k.2, ⟨k.1.1, fun z hz => ?_⟩, s.less (hw y hm)⟩
    rw [take_get hy] at hz
    rcases List.mem_append.mp hz with hz | hz
    · exact ca.2 z hz
    · rw [List.mem_singleton.mp hz]; exact e
  · intro G σ H c s
    exact hd (by have h := c.2; rwa [List.take_length] at h) G σ H c.1 s
theorem ev_firsts {α : Type} {l : Addr} {ys : List α} {c : α → Dt} {f : α → Str} {j : Nat} (ok : Cok C) (h : EvD te C ds (.obj l)) (hm : ∀ G H, C G H → Mu l (ys.map c) G H) (hc : ∀ y ∈ ys, ∃ r, c y = .tup (.str (f y) :: r)) (hj : j < ds.length) (hl : ys.length ≤ Lim) :
    EvD (tLc (iList K te) (gName j) tYes (tOp (rIxT K) (tVar j) (tC (.int 0))) [j]) C ds (.lst (tx (ys.map f))) :=
  EvD.is (EvN.ev ok (en_map ys c (fun y => [(j, c y)]) (fun y => .str (f y)) ok (ei_mu ok h hm (fun z => z)) (fun _ _ => tg_name) (fun _ _ i hi => by simpa using hi) (fun y hy => by
    obtain ⟨r, e⟩ := hc y hy
    have e2 : (setsD (wipeD ds [j]) [(j, c y)])[j]? = some (some (.tup (.str (f y) :: r))) := by
      show ((ds.set j none).set j (some (c y)))[j]? = _
      rw [List.getElem?_set_self (by rw [List.length_set]; exact hj), e]
    exact ev_op ok (ev_var ok e2) (ev_int ok) (rv_ixT ok (at_nat (k := 0) rfl))) hl)) (by rw [tx, List.map_map]; rfl)
theorem not_all {α : Type} (p : α → Bool) : ∀ l : List α, (!l.all p) = l.any fun x => !p x
  | [] => rfl
  | x :: l => by rw [List.all_cons, List.any_cons, ← not_all p l, Bool.not_and]
/-- False in [.. for y in ..] -/
theorem ev_someNot {ys : List Str} {wi : TE} {p : Str → Bool} {j : Nat} (ok : Cok C) (hi : EvD wi C ds (.lst (tx ys))) (he : ∀ y ∈ ys, EvD te C ((ds.set j none).set j (some (.str y))) (.bl (p y))) (hl : ys.length ≤ Lim) :
    EvD (tOp (rIn K false) (tC (.bl false)) (tLc (iList K wi) (gName j) tYes te [j])) C ds (.bl (ys.any fun y => !p y)) :=
  ev_op ok (ev_bl ok) (EvN.ev ok (en_map1 ys Dt.str (fun y => Dt.bl (p y)) ok hi he hl)) (RV.is2 (rv_in (neg := false) (xs := (ys.map p).map Dt.bl) ok rfl (flat_bl _) (.inl rfl)) (by rw [List.map_map]; rfl) (show _ = Dt.bl (ys.any fun y => !p y) by rw [if_neg Bool.false_ne_true, anyF, List.all_map, ← not_all]; rfl))
end
theorem size_names (t : Told) : t.shapes.length ≤ t.size ∧ t.marks.length ≤ t.size ∧ t.points.length ≤ t.size ∧ t.letters.length ≤ t.size ∧ t.gaps.length ≤ t.size ∧ t.classes.length ≤ t.size ∧ t.features.length ≤ t.size ∧ t.rules.length ≤ t.size := by
  unfold Told.size; omega
theorem rest7 {rest : List Str} (h : restOk 7 rest = true) : ∃ f r2 a b c d, rest = f :: r2 ∧ isName f = true ∧ rulePartsOf r2 = some (a, b, c, d) := by
  match rest, h with
  | [], h => cases h
  | f :: r2, h =>
    replace h : (isName f && (rulePartsOf r2).isSome) = true := h
    rw [Bool.and_eq_true] at h
    cases e : rulePartsOf r2 with
    | none => rw [e] at h; cases h.2
    | some q => obtain ⟨a, b, c, d⟩ := q; exact ⟨f, r2, a, b, c, d, rfl, h.1, e⟩
theorem parts_some {ws a b c d : List Str} (h : rulePartsOf ws = some (a, b, c, d)) : segs ws = [a, b, c, d] ∧ ok4 a b c d = true := by
  unfold rulePartsOf at h
  split at h
  · rename_i e
    split at h
    · rename_i h4
      cases h
      unfold partsOf at e
      split at e
      · split at e
        · rename_i es; cases e; exact ⟨es, h4⟩
        · cases e
      · cases e
    · cases h
  · cases h
section
variable {P : Program} {w : World} {K : PySem.W.Frag} {mg : Str → Option Value} {base : Heap}
local macro_rules | `(tactic| walk_at "ev") => `(tactic| with_reducible first
  | (show EvD _ _ _ _; first
    | exact ev_var (by assumption) rfl
    | exact ev_int (by assumption)
    | exact ev_str (by assumption)
    | exact ev_non (by assumption)
    | exact ev_bl (by assumption)
    | (refine' ev_call (by assumption) ?_ ?_ ?_ <;> (try walk_at "ev"))
    | (refine' ev_op (by assumption) ?_ ?_ ?_ <;> (try walk_at "ev"))
    | (refine' ev_un (by assumption) ?_ rfl <;> (try walk_at "ev"))
    | (refine' ev_andV (by assumption) ?_ (fun _ => ?_) <;> (try walk_at "ev"))
    | (refine' ev_orV (by assumption) ?_ (fun _ => ?_) <;> (try walk_at "ev"))
    | (refine' ev_notV (by assumption) ?_ <;> (try walk_at "ev"))
    | (refine' ev_chain (by assumption) ?_ ?_ ?_ ?_ ?_ <;> (try walk_at "ev"))
    | (refine' ev_cb (by assumption) ?_ ?_ <;> (try walk_at "ev"))
    | (refine' ev_bm (by assumption) ?_ ?_ ?_ <;> (try walk_at "ev"))
    | (refine' ev_m1 (by assumption) ?_ ?_ ?_ <;> (try walk_at "ev"))
    | (refine' ev_sliceS (by assumption) ?_ ?_ ?_ <;> (try walk_at "ev"))
    | (refine' ev_slice (by assumption) ?_ ?_ ?_ <;> (try walk_at "ev"))
    | (refine' ev_tup (by assumption) ?_ ?_ <;> (try walk_at "ev"))
    | (refine' ev_lst (by assumption) ?_ ?_ <;> (try walk_at "ev"))
    | exact ev_h_shapes (by assumption) (by assumption) (by assumption) (ev_var (by assumption) rfl)
    | exact ev_h_marks (by assumption) (by assumption) (by assumption) (ev_var (by assumption) rfl)
    | exact ev_h_points (by assumption) (by assumption) (by assumption) (ev_var (by assumption) rfl)
    | exact ev_h_letters (by assumption) (by assumption) (by assumption) (ev_var (by assumption) rfl)
    | exact ev_h_gaps (by assumption) (by assumption) (by assumption) (ev_var (by assumption) rfl)
    | exact ev_h_classes (by assumption) (by assumption) (by assumption) (ev_var (by assumption) rfl)
    | exact ev_h_features (by assumption) (by assumption) (by assumption) (ev_var (by assumption) rfl)
    | exact ev_h_rules (by assumption) (by assumption) (by assumption) (ev_var (by assumption) rfl)
    | (refine' ev_dinK (by assumption) ?_ ?_ ?_ <;> (try walk_at "ev"))
    | (refine' ev_dniK (by assumption) ?_ ?_ ?_ <;> (try walk_at "ev"))
    | (refine' ev_dinT (by assumption) ?_ ?_ ?_ <;> (try walk_at "ev")))
  | (show EvA _ _ _ _; first
    | exact ea_nil (by assumption)
    | (refine' ea_cons (by assumption) ?_ ?_ <;> (try walk_at "ev")))
  | (show RV _ _ _ _ _; first
    | exact rv_int (by assumption)
    | exact rv_cmp (by assumption)
    | exact rv_eq (by assumption) rfl
    | exact rv_ne (by assumption) rfl
    | exact rv_isN (by assumption) rfl
    | exact rv_notN (by assumption) rfl
    | exact rv_inT (by assumption) (.inl rfl)
    | exact rv_inT (by assumption) (.inr rfl)
    | exact rv_niT (by assumption) (.inl rfl)
    | exact rv_niT (by assumption) (.inr rfl)
    | exact rv_inS (by assumption)
    | exact rv_niS (by assumption)
    | exact rv_ixS (by assumption) (by assumption)
    | exact rv_ixL (by assumption) (by assumption)
    | exact rv_ixT (by assumption) (by assumption)
    | exact rv_ixT (by assumption) rfl
    | exact rv_ixL (by assumption) rfl
    | (refine' rv_inM (by assumption) ?_ <;> (try walk_at "ev"))
    | (refine' rv_niM (by assumption) ?_ <;> (try walk_at "ev"))
    | (refine' rv_inX (by assumption) ?_ (.inl rfl) <;> (try walk_at "ev"))
    | (refine' rv_inX (by assumption) ?_ (.inr rfl) <;> (try walk_at "ev"))
    | (refine' rv_niX (by assumption) ?_ (.inl rfl) <;> (try walk_at "ev"))
    | (refine' rv_niX (by assumption) ?_ (.inr rfl) <;> (try walk_at "ev"))
    | exact rv_in (neg := false) (by assumption) rfl rfl (.inr rfl)
    | exact rv_in (neg := true) (by assumption) rfl rfl (.inr rfl)
    | exact rv_intC (g := fun i j => i % j) (by assumption) (by decide)
    | exact rv_intC (g := fun i j => i / j) (by assumption) (cdiv_ok (by decide)))
  | (show EvT _ _ _ _; first
    | exact et_yes (by assumption)
    | (refine' et_and (by assumption) ?_ (fun _ => ?_) <;> (try walk_at "ev"))
    | (refine' et_or (by assumption) ?_ (fun _ => ?_) <;> (try walk_at "ev"))
    | (refine' et_not ?_ <;> (try walk_at "ev"))
    | (refine' et_test ?_ <;> (try walk_at "ev"))
    | (refine' et_B ?_ <;> (try walk_at "ev")))
  | (show RC _ _ _ _; first
    | exact rc_lenL (by assumption)
    | exact rc_lenT (by assumption)
    | exact rc_lenS (by assumption)
    | exact rc_all (by assumption)
    | exact rc_intB (by assumption)
    | exact rc_strS (by assumption)
    | exact rc_listOf (by assumption) (.inl rfl)
    | exact rc_listOf (by assumption) (.inr rfl)
    | exact rc_tupOf (by assumption)
    | (refine' rc_lenD (by assumption) ?_ <;> (try walk_at "ev"))
    | (refine' rc_lenM (by assumption) ?_ <;> (try walk_at "ev")))
  | (show RM _ _ _ _ _; first
    | exact rm_strip' (by assumption))
  | (show EvO _ _ _ _; first
    | exact eo_none (by assumption)
    | (refine' eo_some ?_ <;> (try walk_at "ev")))
  | (show List.length _ ≤ Lim; with_unfolding_all exact Nat.le_of_ble_eq_true rfl)
  | (show List.length _ = _; with_unfolding_all rfl)
  | exact (fun _ _ _ => ⟨_, rfl, rfl⟩)
  | exact (fun _ _ _ => ⟨_, _, rfl, rfl⟩)
  | exact (fun _ _ _ => ⟨_, _, _, rfl, rfl⟩)
  | exact (fun _ _ _ => ⟨_, rfl, by assumption, rfl⟩)
  | exact hall_s (by assumption)
  | exact hall_m (by assumption)
  | exact hall_p (by assumption)
  | exact hall_l (by assumption)
  | exact hall_g (by assumption)
  | exact hall_c (by assumption)
  | exact hall_f (by assumption)
  | exact hall_r (by assumption)
  | exact TxL.of _
  | exact TxL.nil
  | (refine' TxL.cons ?_ <;> (try walk_at "ev")))


abbrev s_law_lacks : Stmt := top 58
abbrev N_law_lacks : List Str := ["_law_told", "_law_sort", "_law_words", "_law_shapes", "_law_parts", "_law_word_here", "_law_one"]
abbrev P_law_lacks : List Str := ["_law_told", "_law_sort", "_law_words"]
theorem sc_law_lacks : FnScope N_law_lacks P_law_lacks (defScope s_law_lacks) := ⟨rfl, rfl, rfl, by decide +kernel, rfl, by decide +kernel, by decide +kernel⟩

def preLacks : Hp → Hp → List Dt → Dt → Prop := fun G H as r => ∃ (a : LA) (t : Told) (j : Nat) (h n : Str) (rest : List Str), as = [a.D, .int (j : Nat), .lst (tx (h :: n :: rest))] ∧ LawAt a t G H ∧ t.size < 1000 ∧ j < 8 ∧ restOk j rest = true ∧ rest.length ≤ 100000 ∧ (∀ w ∈ rest, w ≠ "") ∧ r = .bl (lacksL t j n rest)
theorem cal_law_lacks (B : Blt mg) (D : Dfn K mg "_law_lacks" s_law_lacks) (C_law_rule_parts : Cal P w K mg base "_law_rule_parts" 2 P_law_rule_parts spRulePartsL) : Cal P w K mg base "_law_lacks" 3 P_law_lacks (SpF 3 preLacks) := by
  have sc := sc_law_lacks
  refine cal_of D (fun f fd F => fnok F sc fun cdv A outer s H E hr => have hr1 := hr; ⟨_, (pss_cons (ps_set (i := 3) sc.nd rfl (Or.inr rfl) (pe_lc (own := [("_law_one", 6)]) (by rfl) sc.nd (pi_list (pe_ix (r := rIxT K) ix_tup (pv 0) pe_int (fun _ _ => rfl))) (blkOk_by (N := N_law_lacks) (sc := defScope s_law_lacks) (by decide +kernel)) (fun _ _ _ _ _ => (pg_name (i := 6) sc.nd rfl (Or.inl rfl))) (fun _ _ _ _ _ => pts_nil) (fun _ _ _ _ _ => (pe_ix (r := rIxT K) ix_tup (pv 6) pe_int (fun _ _ => rfl)))))
      (pss_cons (ps_if (pt_cmpR (r := rIn K false) op_in_seq (pv 1) (pe_tup (pa_cons pe_int (pa_cons pe_int pa_nil))) rfl) (pss_one (ps_ret (pe_cmpR (r := rIn K true) op_notIn_seq (pe_ix (r := rIxL K) ix_list (pv 2) pe_int (fun _ _ => rfl)) (pv 3) rfl))) pss_nil)
      (pss_cons (ps_if (pt_cmpR op_eq (pv 1) pe_int (nomark _)) (pss_one (ps_ret (pe_cmpR (r := rIn K false) op_in_seq pe_bl (pe_lc (own := [("_law_word_here", 5)]) (by rfl) sc.nd (pi_list (pe_slice (r := rSlL K) sl_list (pv 2) (po_some pe_int) po_none)) (blkOk_by (N := N_law_lacks) (sc := defScope s_law_lacks) (by decide +kernel)) (fun _ _ _ _ _ => (pg_name (i := 5) sc.nd rfl (Or.inl rfl))) (fun _ _ _ _ _ => pts_nil) (fun _ _ _ _ _ => (pe_cmpR (r := rIn K false) op_in_seq (pv 5) (pv 3) rfl))) rfl))) pss_nil)
      (pss_cons (ps_if (pt_cmpR op_eq (pv 1) pe_int (nomark _)) (pss_one (ps_ret (pe_cmpR (r := rIn K true) op_notIn_seq (pe_ix (r := rIxL K) ix_list (pv 2) pe_int (fun _ _ => rfl)) (pe_lc (own := [("_law_one", 6)]) (by rfl) sc.nd (pi_list (pe_ix (r := rIxT K) ix_tup (pv 0) pe_int (fun _ _ => rfl))) (blkOk_by (N := N_law_lacks) (sc := defScope s_law_lacks) (by decide +kernel)) (fun _ _ _ _ _ => (pg_name (i := 6) sc.nd rfl (Or.inl rfl))) (fun _ _ _ _ _ => pts_nil) (fun _ _ _ _ _ => (pe_ix (r := rIxT K) ix_tup (pv 6) pe_int (fun _ _ => rfl)))) rfl))) pss_nil)
      (pss_cons (ps_if (pt_cmpR op_eq (pv 1) pe_int (nomark _)) (pss_one (ps_ret (pe_cmpR (r := rIn K false) op_in_seq pe_bl (pe_lc (own := [("_law_word_here", 5)]) (by rfl) sc.nd (pi_list (pe_slice (r := rSlL K) sl_list (pv 2) (po_some pe_int) po_none)) (blkOk_by (N := N_law_lacks) (sc := defScope s_law_lacks) (by decide +kernel)) (fun _ _ _ _ _ => (pg_name (i := 5) sc.nd rfl (Or.inl rfl))) (fun _ _ _ _ _ => pts_nil) (fun _ _ _ _ _ => (pe_cmpR (r := rIn K false) op_in_seq (pv 5) (pv 3) rfl))) rfl))) pss_nil)
      (pss_cons (ps_if (pt_cmpR op_lt (pv 1) pe_int (nomark _)) (pss_one (ps_ret pe_bl)) pss_nil)
      (pss_cons (ps_set (i := 4) sc.nd rfl (Or.inl rfl) (pe_callC C_law_rule_parts hr1 rfl (pa_cons (pe_slice (r := rSlL K) sl_list (pv 2) (po_some pe_int) po_none) pa_nil)))
      (pss_cons (ps_for PassesOwn.never rfl (pi_list (pe_op op_cat (pe_op op_cat (pe_op op_cat (pe_ix (r := rIxL K) ix_list (pv 4) pe_int (fun _ _ => rfl)) (pe_ix (r := rIxL K) ix_list (pv 4) pe_int (fun _ _ => rfl))) (pe_ix (r := rIxL K) ix_list (pv 4) pe_int (fun _ _ => rfl))) (pe_ix (r := rIxL K) ix_list (pv 4) pe_int (fun _ _ => rfl)))) (pg_name (i := 5) sc.nd rfl (Or.inl rfl)) (pss_cons (ps_if (PW.pt (pw_and (pt_cmpR op_eq (pe_ix ix_str (pv 5) pe_int (fun _ _ => rfl)) pe_str (nomark _)) (pw_and1 (pt_cmpR (r := rIn K true) op_notIn_seq (pe_slice (r := rSlS) sl_str (pv 5) (po_some pe_int) po_none) (pe_lc (own := [("_law_one", 6)]) (by rfl) sc.nd (pi_list (pe_ix (r := rIxT K) ix_tup (pv 0) pe_int (fun _ _ => rfl))) (blkOk_by (N := N_law_lacks) (sc := defScope s_law_lacks) (by decide +kernel)) (fun _ _ _ _ _ => (pg_name (i := 6) sc.nd rfl (Or.inl rfl))) (fun _ _ _ _ _ => pts_nil) (fun _ _ _ _ _ => (pe_ix (r := rIxT K) ix_tup (pv 6) pe_int (fun _ _ => rfl)))) rfl)))) (pss_one (ps_ret pe_bl)) pss_nil)
      (pss_one (ps_if (PW.pt (pw_and (pt_cmpR op_ne (pe_ix ix_str (pv 5) pe_int (fun _ _ => rfl)) pe_str (nomark _)) (pw_and1 (pt_cmpR (r := rIn K true) op_notIn_seq (pv 5) (pv 3) rfl)))) (pss_one (ps_ret pe_bl)) pss_nil))))
      (pss_one (ps_ret (pe_cmpR (r := rIn K true) op_notIn_seq (pe_ix (r := rIxL K) ix_list (pv 2) pe_int (fun _ _ => rfl)) (pe_lc (own := [("_law_one", 6)]) (by rfl) sc.nd (pi_list (pe_ix (r := rIxT K) ix_tup (pv 0) pe_int (fun _ _ => rfl))) (blkOk_by (N := N_law_lacks) (sc := defScope s_law_lacks) (by decide +kernel)) (fun _ _ _ _ _ => (pg_name (i := 6) sc.nd rfl (Or.inl rfl))) (fun _ _ _ _ _ => pts_nil) (fun _ _ _ _ _ => (pe_ix (r := rIxT K) ix_tup (pv 6) pe_int (fun _ _ => rfl)))) rfl))))))))))), fun G as r D hl sm hp hq hx => ?_⟩) (fun _ _ _ _ _ _ us hl => match us, hl with | [_, _, _], _ => rfl)
  obtain ⟨a, t, j, h, n, rest, rfl, ha, hz, hj, hrest, hrl, hne, rfl⟩ := hp
  have ok : Cok (Bs No G H) := Bs.ok
  have hh : ∀ G1 H1, Bs No G H G1 H1 → LawAt a t G1 H1 := fun G1 H1 k => ha.stp k fun _ _ z => z
  have sz := size_names t
  have h1 : atI (tx (h :: n :: rest)) 1 = some (.str n) := at_nat (k := 1) rfl
  refine run_set (d := .lst (tx (t.names 0))) ok (ev_firsts (f := fun p : Str × Int => p.1) ok (ev_op ok (ev_var ok rfl) (ev_int ok) (rv_ixT ok rfl)) (law_shapes hh) (fun y hy => ⟨_, rfl⟩) (by show 6 < 7; decide) (by show _ ≤ 16000000; omega)) ?_
  match j, hj, hrest, hq with
  | 0, _, _, hq =>
    refine run_skip ok (et_in2 ok rfl (by decide)) (run_skip ok (et_eqI ok rfl (by decide)) (run_skip ok (et_eqI ok rfl (by decide)) (run_skip ok (et_eqI ok rfl (by decide)) ?_)))
    exact run_take ok (EvT.is (by walk_at "ev") (by decide)) (run_ret ok (ev_bl ok) rfl hq)
  | 1, _, _, hq => exact run_take ok (et_in2 ok rfl (by decide)) (run_ret ok (ev_op ok (by walk_at "ev") (ev_var ok rfl) (rv_niT ok (.inl rfl))) rfl hq)
  | 2, _, _, hq => exact run_take ok (et_in2 ok rfl (by decide)) (run_ret ok (ev_op ok (by walk_at "ev") (ev_var ok rfl) (rv_niT ok (.inl rfl))) rfl hq)
  | 3, _, _, hq =>
    refine run_skip ok (et_in2 ok rfl (by decide)) (run_take ok (et_eqI ok rfl (by decide)) (run_ret ok (ev_someNot (ys := rest.drop 2) (p := fun x => hasN (t.names 0) x) ok (ev_drop (ws := h :: n :: rest) 4 ok (ev_var ok rfl)) (fun y hy => ev_op ok (ev_var ok rfl) (ev_var ok rfl) (rv_inT ok (.inl rfl))) (by rw [List.length_drop]; show _ ≤ 16000000; omega)) rfl hq))
  | 4, _, _, hq =>
    refine run_skip ok (et_in2 ok rfl (by decide)) (run_skip ok (et_eqI ok rfl (by decide)) (run_take ok (et_eqI ok rfl (by decide)) (run_ret ok (ev_op ok (by walk_at "ev") (ev_firsts (f := fun p : Str × Str × Str × List Str => p.1) ok (ev_op ok (ev_var ok rfl) (ev_int ok) (rv_ixT ok rfl)) (law_letters hh) (fun y hy => ⟨_, rfl⟩) (by show 6 < 7; decide) (by show _ ≤ 16000000; omega)) (rv_niT ok (.inl rfl))) rfl hq)))
  | 5, _, _, hq =>
    refine run_skip ok (et_in2 ok rfl (by decide)) (run_skip ok (et_eqI ok rfl (by decide)) (run_skip ok (et_eqI ok rfl (by decide)) (run_take ok (et_eqI ok rfl (by decide)) (run_ret ok (ev_someNot (ys := rest) (p := fun x => hasN (t.names 0) x) ok (ev_drop (ws := h :: n :: rest) 2 ok (ev_var ok rfl)) (fun y hy => ev_op ok (ev_var ok rfl) (ev_var ok rfl) (rv_inT ok (.inl rfl))) (Nat.le_trans hrl (by decide))) rfl hq))))
  | 6, _, _, hq =>
    refine run_skip ok (et_in2 ok rfl (by decide)) (run_skip ok (et_eqI ok rfl (by decide)) (run_skip ok (et_eqI ok rfl (by decide)) (run_skip ok (et_eqI ok rfl (by decide)) ?_)))
    exact run_take ok (EvT.is (by walk_at "ev") (by decide)) (run_ret ok (ev_bl ok) rfl hq)
  | 7, _, hrest, hq =>
    refine run_skip ok (et_in2 ok rfl (by decide)) (run_skip ok (et_eqI ok rfl (by decide)) (run_skip ok (et_eqI ok rfl (by decide)) (run_skip ok (et_eqI ok rfl (by decide)) (run_skip ok (EvT.is (by walk_at "ev") (by decide)) ?_))))
    obtain ⟨f', r2, a', b, c, d, rfl, hf', hr2⟩ := rest7 hrest
    obtain ⟨hsg, h4⟩ := parts_some hr2
    have hne2 : ∀ w ∈ r2, w ≠ "" := fun w hw => hne w (List.mem_cons_of_mem _ hw)
    have hr2l : r2.length ≤ 1000001 := by simp only [List.length_cons] at hrl; omega
    have hr : lacksL t 7 n (f' :: r2) = ((a' ++ b ++ c ++ d).any (iLacks t) || !hasN (t.names 6) f') := by
      show (match rulePartsOf r2 with | some (a, b, c, d) => (a ++ b ++ c ++ d).any (iLacks t) || !hasN (t.names 6) f' | none => false) = _
      rw [hr2]
    rw [hr] at hq
    have hmem : ∀ w ∈ a' ++ b ++ c ++ d, w ≠ "" := fun w hw' => hne2 w (by
      have := segs_mem r2
      rw [hsg] at this
      rcases List.mem_append.mp hw' with h | h
      · rcases List.mem_append.mp h with h | h
        · rcases List.mem_append.mp h with h | h
          · exact this a' (by simp) w h
          · exact this b (by simp) w h
        · exact this c (by simp) w h
      · exact this d (by simp) w h)
    have hsl := segs_len r2
    rw [hsg] at hsl
    have la := hsl a' (by simp)
    have lb := hsl b (by simp)
    have lc := hsl c (by simp)
    have ld := hsl d (by simp)
    have h2 : atI (tx (h :: n :: f' :: r2)) 2 = some (.str f') := at_nat (k := 2) rfl
    have ha0 : atI [Dt.lst (tx a'), .lst (tx b), .lst (tx c), .lst (tx d)] 0 = some (.lst (tx a')) := rfl
    have hb0 : atI [Dt.lst (tx a'), .lst (tx b), .lst (tx c), .lst (tx d)] 1 = some (.lst (tx b)) := rfl
    have hc0 : atI [Dt.lst (tx a'), .lst (tx b), .lst (tx c), .lst (tx d)] 2 = some (.lst (tx c)) := rfl
    have hd0 : atI [Dt.lst (tx a'), .lst (tx b), .lst (tx c), .lst (tx d)] 3 = some (.lst (tx d)) := rfl
    refine run_set (d := .lst [Dt.lst (tx a'), .lst (tx b), .lst (tx c), .lst (tx d)]) ok (ev_call ok (ea_cons ok (ev_drop (ws := h :: n :: f' :: r2) 3 ok (ev_var ok rfl)) (ea_nil ok)) rfl (fun _ _ _ => ⟨r2, rfl, hr2l, hne2, by rw [hr2]; rfl⟩)) ?_
    refine run_findB (a' ++ b ++ c ++ d) Dt.str (fun y => [(5, .str y)]) [some a.D, some (.int (7 : Nat)), some (.lst (tx (h :: n :: f' :: r2))), some (.lst (tx (t.names 0))), some (.lst [Dt.lst (tx a'), .lst (tx b), .lst (tx c), .lst (tx d)]), none, none] (fun w => iLacks t w) ok
      (ei_list (EvD.is (ev_op ok (ev_op ok (ev_op ok (by walk_at "ev") (by walk_at "ev") (EvN_ev2 ok (rn_cat ok (by simp only [List.length_map]; show _ ≤ 16000000; omega)))) (by walk_at "ev") (EvN_ev2 ok (rn_cat ok (by simp only [List.length_map, List.length_append]; show _ ≤ 16000000; omega)))) (by walk_at "ev") (EvN_ev2 ok (rn_cat ok (by simp only [List.length_map, List.length_append]; show _ ≤ 16000000; omega)))) (show _ = Dt.lst (tx (a' ++ b ++ c ++ d)) by simp [tx])))
      (fun _ _ => tg_name) (Less.refl _) (fun y hy => .keep (.keep (.keep (.keep (.keep (.gone (.keep .nil))))))) (fun y hy C' ok' sub D' hD' hfall => ?_) (fun hn => ?_)
    · cases hy0 : tl y with
      | nil => exact absurd hy0 (ne_tl (hmem y hy))
      | cons ch rs =>
        have h0 : atI y.cps.toList (0 : Int) = some ch := at0 hy0
        have hat := atSign hy0
        have ret : iLacks t y = true → ∀ {ds D''}, D''.rt = D'.rt → Run (tRet (tC (.bl true))) C' ds D'' := fun e ds D'' hD => run_ret (r := .bl ((a' ++ b ++ c ++ d).any (iLacks t) || !hasN (t.names 6) f')) ok' (ev_bl ok') (by rw [List.any_eq_true.mpr ⟨y, hy, e⟩]; rfl) (fun v G1 H1 k r => by rw [hD, hD']; exact hq v G1 H1 (sub G1 H1 k) r)
        refine run_when (b := decide ((tl y).take 1 = [64]) && !hasN (t.names 5) (rest1 y)) ok' (et_and ok' (EvT.is (et_test (ev_op ok' (ev_op ok' (ev_var ok' rfl) (ev_int ok') (rv_ixS ok' h0)) (ev_str ok') (rv_eq ok' rfl))) hat) (fun _ => et_test (ev_op ok' (ev_sliceS ok' (ev_var ok' rfl) (eo_some (ev_int ok')) (eo_none ok')) (ev_firsts (f := fun p : Str × List Str => p.1) ok' (ev_op ok' (ev_var ok' rfl) (ev_int ok') (rv_ixT ok' rfl)) (law_classes fun G1 H1 k => hh G1 H1 (sub G1 H1 k)) (fun y hy => ⟨_, rfl⟩) (by show 6 < 7; decide) (by show _ ≤ 16000000; omega)) (rv_niT ok' (.inl rfl))))) (fun e => ret ?_ rfl) (fun e => ?_)
        · rw [Bool.and_eq_true] at e
          unfold iLacks; rw [e.1, if_pos rfl]; exact e.2
        · refine run_if (b := !decide ((tl y).take 1 = [64]) && !hasN (t.names 0) y) ok' (et_and ok' (EvT.is (et_test (ev_op ok' (ev_op ok' (ev_var ok' rfl) (ev_int ok') (rv_ixS ok' h0)) (ev_str ok') (rv_ne ok' rfl))) (by rw [hat])) (fun _ => et_test (ev_op ok' (ev_var ok' rfl) (ev_var ok' rfl) (rv_niT ok' (.inl rfl))))) (fun e2 => ret ?_ rfl) (fun e2 => hfall ?_)
          · rw [Bool.and_eq_true] at e2
            unfold iLacks; rw [notT e2.1, if_neg Bool.false_ne_true]; exact e2.2
          · unfold iLacks
            cases hc : decide ((tl y).take 1 = [64]) with
            | true => rw [hc, Bool.true_and] at e; rw [if_pos rfl]; exact e
            | false => rw [hc] at e2; rw [if_neg Bool.false_ne_true]; exact e2
    · have hall : (a' ++ b ++ c ++ d).any (iLacks t) = false := List.any_eq_false.mpr fun y hy => by rw [hn y hy]; exact Bool.false_ne_true
      rw [hall, Bool.false_or] at hq
      exact run_ret ok (ev_op ok (by walk_at "ev") (ev_firsts (f := fun p : Str × Bool => p.1) ok (ev_op ok (ev_var ok rfl) (ev_int ok) (rv_ixT ok rfl)) (law_features hh) (fun y hy => ⟨_, rfl⟩) (by show 6 < 7; decide) (by show _ ≤ 16000000; omega)) (rv_niT ok (.inl rfl))) rfl hq
end
end Kx

namespace Kx
open PySem L2
theorem ev_intW {C : Hp → Hp → Prop} {ds : List (Option Dt)} {te : TE} {x : Str} {i : Int} (ok : Cok C) (h : EvD te C ds (.str x)) (hi : intText? x = some i ∧ x.length ≤ 6) : EvD (tCB rIntS (tCons te tNil)) C ds (.int i) :=
  ev_cb ok (ea_cons ok h (ea_nil ok)) (rc_intS ok hi.1 (by omega))
theorem num6 {w : Str} (h : isNum w = true) : intText? w = some (numV w) ∧ w.length ≤ 6 := by
  obtain ⟨a, b⟩ := isNum_int h
  exact ⟨a, by omega⟩
theorem run_last {C : Hp → Hp → Prop} {ds : List (Option Dt)} {t : TT} {b : TS} {D : Ends} (ok : Cok C) (h : EvT t C ds false) (q : Run tNext C ds D) : Run (tIfS t b tNext) C ds D := run_if ok h (fun e => by cases e) fun _ => q
section
variable {P : Program} {w : World} {K : PySem.W.Frag} {mg : Str → Option Value} {base : Heap}
local macro_rules | `(tactic| walk_at "ev") => `(tactic| with_reducible first
  | (show EvD _ _ _ _; first
    | exact ev_var (by assumption) rfl
    | exact ev_int (by assumption)
    | exact ev_str (by assumption)
    | exact ev_non (by assumption)
    | exact ev_bl (by assumption)
    | (refine' ev_call (by assumption) ?_ ?_ ?_ <;> (try walk_at "ev"))
    | (refine' ev_op (by assumption) ?_ ?_ ?_ <;> (try walk_at "ev"))
    | (refine' ev_un (by assumption) ?_ rfl <;> (try walk_at "ev"))
    | (refine' ev_andV (by assumption) ?_ (fun _ => ?_) <;> (try walk_at "ev"))
    | (refine' ev_orV (by assumption) ?_ (fun _ => ?_) <;> (try walk_at "ev"))
    | (refine' ev_notV (by assumption) ?_ <;> (try walk_at "ev"))
    | (refine' ev_chain (by assumption) ?_ ?_ ?_ ?_ ?_ <;> (try walk_at "ev"))
    | (refine' ev_cb (by assumption) ?_ ?_ <;> (try walk_at "ev"))
    | (refine' ev_bm (by assumption) ?_ ?_ ?_ <;> (try walk_at "ev"))
    | (refine' ev_m1 (by assumption) ?_ ?_ ?_ <;> (try walk_at "ev"))
    | (refine' ev_sliceS (by assumption) ?_ ?_ ?_ <;> (try walk_at "ev"))
    | (refine' ev_slice (by assumption) ?_ ?_ ?_ <;> (try walk_at "ev"))
    | (refine' ev_tup (by assumption) ?_ ?_ <;> (try walk_at "ev"))
    | (refine' ev_lst (by assumption) ?_ ?_ <;> (try walk_at "ev"))
    | exact ev_h_shapes (by assumption) (by assumption) (by assumption) (ev_var (by assumption) rfl)
    | exact ev_h_marks (by assumption) (by assumption) (by assumption) (ev_var (by assumption) rfl)
    | exact ev_h_points (by assumption) (by assumption) (by assumption) (ev_var (by assumption) rfl)
    | exact ev_h_letters (by assumption) (by assumption) (by assumption) (ev_var (by assumption) rfl)
    | exact ev_h_gaps (by assumption) (by assumption) (by assumption) (ev_var (by assumption) rfl)
    | exact ev_h_classes (by assumption) (by assumption) (by assumption) (ev_var (by assumption) rfl)
    | exact ev_h_features (by assumption) (by assumption) (by assumption) (ev_var (by assumption) rfl)
    | exact ev_h_rules (by assumption) (by assumption) (by assumption) (ev_var (by assumption) rfl)
    | (refine' ev_dinK (by assumption) ?_ ?_ ?_ <;> (try walk_at "ev"))
    | (refine' ev_dniK (by assumption) ?_ ?_ ?_ <;> (try walk_at "ev"))
    | (refine' ev_dinT (by assumption) ?_ ?_ ?_ <;> (try walk_at "ev")))
  | (show EvA _ _ _ _; first
    | exact ea_nil (by assumption)
    | (refine' ea_cons (by assumption) ?_ ?_ <;> (try walk_at "ev")))
  | (show RV _ _ _ _ _; first
    | exact rv_int (by assumption)
    | exact rv_cmp (by assumption)
    | exact rv_eq (by assumption) rfl
    | exact rv_ne (by assumption) rfl
    | exact rv_isN (by assumption) rfl
    | exact rv_notN (by assumption) rfl
    | exact rv_inT (by assumption) (.inl rfl)
    | exact rv_inT (by assumption) (.inr rfl)
    | exact rv_niT (by assumption) (.inl rfl)
    | exact rv_niT (by assumption) (.inr rfl)
    | exact rv_inS (by assumption)
    | exact rv_niS (by assumption)
    | exact rv_ixS (by assumption) (by assumption)
    | exact rv_ixL (by assumption) (by assumption)
    | exact rv_ixT (by assumption) (by assumption)
    | exact rv_ixT (by assumption) rfl
    | exact rv_ixL (by assumption) rfl
    | (refine' rv_inM (by assumption) ?_ <;> (try walk_at "ev"))
    | (refine' rv_niM (by assumption) ?_ <;> (try walk_at "ev"))
    | (refine' rv_inX (by assumption) ?_ (.inl rfl) <;> (try walk_at "ev"))
    | (refine' rv_inX (by assumption) ?_ (.inr rfl) <;> (try walk_at "ev"))
    | (refine' rv_niX (by assumption) ?_ (.inl rfl) <;> (try walk_at "ev"))
    | (refine' rv_niX (by assumption) ?_ (.inr rfl) <;> (try walk_at "ev"))
    | exact rv_in (neg := false) (by assumption) rfl rfl (.inr rfl)
    | exact rv_in (neg := true) (by assumption) rfl rfl (.inr rfl)
    | exact rv_intC (g := fun i j => i % j) (by assumption) (by decide)
    | exact rv_intC (g := fun i j => i / j) (by assumption) (cdiv_ok (by decide)))
  | (show EvT _ _ _ _; first
    | exact et_yes (by assumption)
    | (refine' et_and (by assumption) ?_ (fun _ => ?_) <;> (try walk_at "ev"))
    | (refine' et_or (by assumption) ?_ (fun _ => ?_) <;> (try walk_at "ev"))
    | (refine' et_not ?_ <;> (try walk_at "ev"))
    | (refine' et_test ?_ <;> (try walk_at "ev"))
    | (refine' et_B ?_ <;> (try walk_at "ev")))
  | (show RC _ _ _ _; first
    | exact rc_lenL (by assumption)
    | exact rc_lenT (by assumption)
    | exact rc_lenS (by assumption)
    | exact rc_all (by assumption)
    | exact rc_intB (by assumption)
    | exact rc_strS (by assumption)
    | exact rc_listOf (by assumption) (.inl rfl)
    | exact rc_listOf (by assumption) (.inr rfl)
    | exact rc_tupOf (by assumption)
    | (refine' rc_lenD (by assumption) ?_ <;> (try walk_at "ev"))
    | (refine' rc_lenM (by assumption) ?_ <;> (try walk_at "ev")))
  | (show RM _ _ _ _ _; first
    | exact rm_strip' (by assumption))
  | (show EvO _ _ _ _; first
    | exact eo_none (by assumption)
    | (refine' eo_some ?_ <;> (try walk_at "ev")))
  | (show List.length _ ≤ Lim; with_unfolding_all exact Nat.le_of_ble_eq_true rfl)
  | (show List.length _ = _; with_unfolding_all rfl)
  | exact (fun _ _ _ => ⟨_, rfl, rfl⟩)
  | exact (fun _ _ _ => ⟨_, _, rfl, rfl⟩)
  | exact (fun _ _ _ => ⟨_, _, _, rfl, rfl⟩)
  | exact (fun _ _ _ => ⟨_, rfl, by assumption, rfl⟩)
  | exact hall_s (by assumption)
  | exact hall_m (by assumption)
  | exact hall_p (by assumption)
  | exact hall_l (by assumption)
  | exact hall_g (by assumption)
  | exact hall_c (by assumption)
  | exact hall_f (by assumption)
  | exact hall_r (by assumption)
  | exact TxL.of _
  | exact TxL.nil
  | (refine' TxL.cons ?_ <;> (try walk_at "ev")))


abbrev s_law_put : Stmt := top 59
abbrev N_law_put : List Str := ["_law_told", "_law_sort", "_law_words", "_law_name", "_law_part"]
abbrev P_law_put : List Str := ["_law_told", "_law_sort", "_law_words"]
theorem sc_law_put : FnScope N_law_put P_law_put (defScope s_law_put) := ⟨rfl, rfl, rfl, by decide +kernel, rfl, by decide +kernel, by decide +kernel⟩

def prePut : Hp → Hp → List Dt → (Hp → Hp → Dt → Prop) → Prop := fun G H as post => ∃ (a : LA) (t : Told) (j : Nat) (h n : Str) (rest : List Str), as = [a.D, .int (j : Nat), .lst (tx (h :: n :: rest))] ∧ LawAt a t G H ∧ t.size < 1000 ∧ j < 8 ∧ restOk j rest = true ∧ rest.length ≤ 100000 ∧ (∀ w ∈ rest, w ≠ "") ∧
  post = fun G' H' r => CL a (putL t j n rest) a.S G H G' H' ∧ r = .non
theorem cal_law_put (B : Blt mg) (D : Dfn K mg "_law_put" s_law_put) (C_law_rule_parts : Cal P w K mg base "_law_rule_parts" 2 P_law_rule_parts spRulePartsL) : Cal P w K mg base "_law_put" 3 P_law_put (SpX 3 prePut) := by
  have sc := sc_law_put
  refine cal_of D (fun f fd F => fnokX F sc fun cdv A outer s H E hr => have hr1 := hr; ⟨_, (pss_cons (ps_set (i := 3) sc.nd rfl (Or.inl rfl) (pe_ix (r := rIxL K) ix_list (pv 2) pe_int (fun _ _ => rfl)))
      (pss_cons (ps_if (pt_cmpR op_eq (pv 1) pe_int (nomark _)) (pss_one (ps_expr (pe_bm PySem.F.plainAttrs_list PySem.F.slot_list_append PySem.F.type_list_append mt_append (pe_ix (r := rIxT K) ix_tup (pv 0) pe_int (fun _ _ => rfl)) (pa_cons (pe_tup (pa_cons (pv 3) (pa_cons (pe_callTy call_intS (by rfl) B.int_ (by decide +kernel) (pa_cons (pe_ix (r := rIxL K) ix_list (pv 2) pe_int (fun _ _ => rfl)) pa_nil)) pa_nil))) pa_nil)))) pss_nil)
      (pss_cons (ps_if (pt_cmpR op_eq (pv 1) pe_int (nomark _)) (pss_one (ps_expr (pe_bm PySem.F.plainAttrs_list PySem.F.slot_list_append PySem.F.type_list_append mt_append (pe_ix (r := rIxT K) ix_tup (pv 0) pe_int (fun _ _ => rfl)) (pa_cons (pe_tup (pa_cons (pv 3) (pa_cons (pe_ix (r := rIxL K) ix_list (pv 2) pe_int (fun _ _ => rfl)) (pa_cons (pe_tup (pa_cons (pe_callTy call_intS (by rfl) B.int_ (by decide +kernel) (pa_cons (pe_ix (r := rIxL K) ix_list (pv 2) pe_int (fun _ _ => rfl)) pa_nil)) (pa_cons (pe_callTy call_intS (by rfl) B.int_ (by decide +kernel) (pa_cons (pe_ix (r := rIxL K) ix_list (pv 2) pe_int (fun _ _ => rfl)) pa_nil)) pa_nil))) (pa_cons (pe_tup (pa_cons (pe_callTy call_intS (by rfl) B.int_ (by decide +kernel) (pa_cons (pe_ix (r := rIxL K) ix_list (pv 2) pe_int (fun _ _ => rfl)) pa_nil)) (pa_cons (pe_callTy call_intS (by rfl) B.int_ (by decide +kernel) (pa_cons (pe_ix (r := rIxL K) ix_list (pv 2) pe_int (fun _ _ => rfl)) pa_nil)) pa_nil))) pa_nil))))) pa_nil)))) pss_nil)
      (pss_cons (ps_if (pt_cmpR op_eq (pv 1) pe_int (nomark _)) (pss_one (ps_expr (pe_bm PySem.F.plainAttrs_list PySem.F.slot_list_append PySem.F.type_list_append mt_append (pe_ix (r := rIxT K) ix_tup (pv 0) pe_int (fun _ _ => rfl)) (pa_cons (pe_tup (pa_cons (pv 3) (pa_cons (pe_ix (r := rIxL K) ix_list (pv 2) pe_int (fun _ _ => rfl)) (pa_cons (pe_tup (pa_cons (pe_callTy call_intS (by rfl) B.int_ (by decide +kernel) (pa_cons (pe_ix (r := rIxL K) ix_list (pv 2) pe_int (fun _ _ => rfl)) pa_nil)) (pa_cons (pe_callTy call_intS (by rfl) B.int_ (by decide +kernel) (pa_cons (pe_ix (r := rIxL K) ix_list (pv 2) pe_int (fun _ _ => rfl)) pa_nil)) pa_nil))) pa_nil)))) pa_nil)))) pss_nil)
      (pss_cons (ps_if (pt_cmpR op_eq (pv 1) pe_int (nomark _)) (pss_one (ps_expr (pe_bm PySem.F.plainAttrs_list PySem.F.slot_list_append PySem.F.type_list_append mt_append (pe_ix (r := rIxT K) ix_tup (pv 0) pe_int (fun _ _ => rfl)) (pa_cons (pe_tup (pa_cons (pv 3) (pa_cons (pe_ix (r := rIxL K) ix_list (pv 2) pe_int (fun _ _ => rfl)) (pa_cons (pe_ix (r := rIxL K) ix_list (pv 2) pe_int (fun _ _ => rfl)) (pa_cons (pe_callTy (r := rTupOf K) call_tupOf (by rfl) B.tuple_ (by decide +kernel) (pa_cons (pe_slice (r := rSlL K) sl_list (pv 2) (po_some pe_int) po_none) pa_nil)) pa_nil))))) pa_nil)))) pss_nil)
      (pss_cons (ps_if (pt_cmpR op_eq (pv 1) pe_int (nomark _)) (pss_one (ps_expr (pe_bm PySem.F.plainAttrs_list PySem.F.slot_list_append PySem.F.type_list_append mt_append (pe_ix (r := rIxT K) ix_tup (pv 0) pe_int (fun _ _ => rfl)) (pa_cons (pv 3) pa_nil)))) pss_nil)
      (pss_cons (ps_if (pt_cmpR op_eq (pv 1) pe_int (nomark _)) (pss_one (ps_expr (pe_bm PySem.F.plainAttrs_list PySem.F.slot_list_append PySem.F.type_list_append mt_append (pe_ix (r := rIxT K) ix_tup (pv 0) pe_int (fun _ _ => rfl)) (pa_cons (pe_tup (pa_cons (pv 3) (pa_cons (pe_callTy (r := rTupOf K) call_tupOf (by rfl) B.tuple_ (by decide +kernel) (pa_cons (pe_slice (r := rSlL K) sl_list (pv 2) (po_some pe_int) po_none) pa_nil)) pa_nil))) pa_nil)))) pss_nil)
      (pss_cons (ps_if (pt_cmpR op_eq (pv 1) pe_int (nomark _)) (pss_one (ps_expr (pe_bm PySem.F.plainAttrs_list PySem.F.slot_list_append PySem.F.type_list_append mt_append (pe_ix (r := rIxT K) ix_tup (pv 0) pe_int (fun _ _ => rfl)) (pa_cons (pe_tup (pa_cons (pv 3) (pa_cons (pe_cmpR op_eq (pe_ix (r := rIxL K) ix_list (pv 2) pe_int (fun _ _ => rfl)) pe_str (nomark _)) pa_nil))) pa_nil)))) pss_nil)
      (pss_one (ps_if (pt_cmpR op_eq (pv 1) pe_int (nomark _)) (pss_one (ps_expr (pe_bm PySem.F.plainAttrs_list PySem.F.slot_list_append PySem.F.type_list_append mt_append (pe_ix (r := rIxT K) ix_tup (pv 0) pe_int (fun _ _ => rfl)) (pa_cons (pe_op (r := rCatT K) op_catT (pe_tup (pa_cons (pv 3) (pa_cons (pe_ix (r := rIxL K) ix_list (pv 2) pe_int (fun _ _ => rfl)) pa_nil))) (pe_callTy (r := rTupOf K) call_tupOf (by rfl) B.tuple_ (by decide +kernel) (pa_cons (pe_lc (own := [("_law_part", 4)]) (by rfl) sc.nd (pi_list (pe_callC C_law_rule_parts hr1 rfl (pa_cons (pe_slice (r := rSlL K) sl_list (pv 2) (po_some pe_int) po_none) pa_nil))) (blkOk_by (N := N_law_put) (sc := defScope s_law_put) (by decide +kernel)) (fun _ _ _ _ _ => (pg_name (i := 4) sc.nd rfl (Or.inl rfl))) (fun _ _ _ _ _ => pts_nil) (fun _ _ _ _ _ => (pe_callTy (r := rTupOf K) call_tupOf (by rfl) B.tuple_ (by decide +kernel) (pa_cons (pv 4) pa_nil)))) pa_nil))) pa_nil)))) pss_nil)))))))))), fun G as post D hl sm hp hq hx => ?_⟩) (fun _ _ _ _ _ _ us hl => match us, hl with | [_, _, _], _ => rfl)
  obtain ⟨a', t, j, h, n, rest, rfl, ha, hz, hj, hrest, hrl, hne, rfl⟩ := hp
  refine fun σ sl => (?_ : Run _ (CL a' t a'.S G H) _ D) G σ H ⟨Stp.refl sm, ha⟩ sl
  have ok : Cok (CL a' t a'.S G H) := CL.ok
  have hh := @CL.law a' t a'.S G H
  have sz := size_names t
  have fin : ∀ (ds : List (Option Dt)), Run tNext (CL a' (putL t j n rest) a'.S G H) ds D := fun _ G1 σ1 H1 k s => by
    show D.nx σ1 H1
    rw [hx]
    exact hq .non G1 H1 .non ⟨k, rfl⟩ .non
  have h1 : atI (tx (h :: n :: rest)) 1 = some (.str n) := at_nat (k := 1) rfl
  refine run_set (d := .str n) ok (by walk_at "ev") ?_
  match j, hj, hrest, fin with
  | 0, _, hrest, fin =>
    match rest, hrest, hrl, hne, fin with
    | [x], hrest, _, _, fin =>
    refine run_take ok (et_eqI ok rfl (by decide)) ?_
    refine run_append (p := a'.l0) (d := .tup [.str n, .int (numV x)]) ok (ev_op ok (ev_var ok rfl) (ev_int ok) (rv_ixT ok rfl)) (ev_tup ok (ea_cons ok (ev_var ok rfl) (ea_cons ok (ev_intW ok (ev_op ok (ev_var ok rfl) (ev_int ok) (rv_ixL ok (at_nat (k := 2) rfl))) (num6 hrest)) (ea_nil ok))) (Nat.le_of_ble_eq_true rfl)) (law_shapes hh) (by simp only [Told.shapesD, Told.marksD, Told.pointsD, Told.lettersD, Told.classesD, Told.featuresD, Told.rulesD, tx, List.length_map]; show _ < 16000000; omega) (fun G1 σ1 H1 k1 s1 H2 mu st => ?_)
    have hnew : LawAt a' ({ t with shapes := t.shapes ++ [(n, numV x)] }) G1 H2 := k1.2.set_shapes st (by first | exact mu | simpa [Told.shapesD, Told.marksD, Told.pointsD, Told.lettersD, Told.classesD, Told.featuresD, Told.rulesD, tx] using mu)
    have hc : CL a' ({ t with shapes := t.shapes ++ [(n, numV x)] }) a'.S G H G1 H2 := ⟨k1.1.trans (st.mono fun b hb => hb ▸ by simp [LA.S, LA.list]), hnew⟩
    refine (run_nx (D := D) ?_ : Run tNext (CL a' ({ t with shapes := t.shapes ++ [(n, numV x)] }) a'.S G H) _ _) G1 σ1 H2 hc s1
    have ok2 : Cok (CL a' ({ t with shapes := t.shapes ++ [(n, numV x)] }) a'.S G H) := CL.ok
    refine run_skip ok2 (et_eqI ok2 rfl (by decide)) ?_
    refine run_skip ok2 (et_eqI ok2 rfl (by decide)) ?_
    refine run_skip ok2 (et_eqI ok2 rfl (by decide)) ?_
    refine run_skip ok2 (et_eqI ok2 rfl (by decide)) ?_
    refine run_skip ok2 (et_eqI ok2 rfl (by decide)) ?_
    refine run_skip ok2 (et_eqI ok2 rfl (by decide)) ?_
    exact run_last ok2 (et_eqI ok2 rfl (by decide)) (run_sub (fin _) fun _ _ k => k)
    | [], hrest, _, _, _ => cases hrest
    | _ :: _ :: _, hrest, _, _, _ => cases hrest
  | 1, _, hrest, fin =>
    match rest, hrest, hrl, hne, fin with
    | [s', a, b, c, d], hrest, _, _, fin =>
    have hs := ((Bool.and_eq_true _ _).mp (show (isSide s' && [a, b, c, d].all isSigned) = true from hrest)).2
    simp only [List.all_cons, List.all_nil, Bool.and_true, Bool.and_eq_true] at hs
    obtain ⟨ia, ib, ic, id'⟩ := hs
    refine run_skip ok (et_eqI ok rfl (by decide)) ?_
    refine run_take ok (et_eqI ok rfl (by decide)) ?_
    refine run_append (p := a'.l1) (d := .tup [.str n, .str s', ptD (sgnV a, sgnV b), ptD (sgnV c, sgnV d)]) ok (ev_op ok (ev_var ok rfl) (ev_int ok) (rv_ixT ok rfl)) (ev_tup ok (ea_cons ok (ev_var ok rfl) (ea_cons ok (ev_op ok (ev_var ok rfl) (ev_int ok) (rv_ixL ok (at_nat (k := 2) rfl))) (ea_cons ok (ev_tup ok (ea_cons ok (ev_intW ok (ev_op ok (ev_var ok rfl) (ev_int ok) (rv_ixL ok (at_nat (k := 3) rfl))) (isSigned_int ia)) (ea_cons ok (ev_intW ok (ev_op ok (ev_var ok rfl) (ev_int ok) (rv_ixL ok (at_nat (k := 4) rfl))) (isSigned_int ib)) (ea_nil ok))) (Nat.le_of_ble_eq_true rfl)) (ea_cons ok (ev_tup ok (ea_cons ok (ev_intW ok (ev_op ok (ev_var ok rfl) (ev_int ok) (rv_ixL ok (at_nat (k := 5) rfl))) (isSigned_int ic)) (ea_cons ok (ev_intW ok (ev_op ok (ev_var ok rfl) (ev_int ok) (rv_ixL ok (at_nat (k := 6) rfl))) (isSigned_int id')) (ea_nil ok))) (Nat.le_of_ble_eq_true rfl)) (ea_nil ok))))) (Nat.le_of_ble_eq_true rfl)) (law_marks hh) (by simp only [Told.shapesD, Told.marksD, Told.pointsD, Told.lettersD, Told.classesD, Told.featuresD, Told.rulesD, tx, List.length_map]; show _ < 16000000; omega) (fun G1 σ1 H1 k1 s1 H2 mu st => ?_)
    have hnew : LawAt a' ({ t with marks := t.marks ++ [(n, s', (sgnV a, sgnV b), (sgnV c, sgnV d))] }) G1 H2 := k1.2.set_marks st (by first | exact mu | simpa [Told.shapesD, Told.marksD, Told.pointsD, Told.lettersD, Told.classesD, Told.featuresD, Told.rulesD, tx] using mu)
    have hc : CL a' ({ t with marks := t.marks ++ [(n, s', (sgnV a, sgnV b), (sgnV c, sgnV d))] }) a'.S G H G1 H2 := ⟨k1.1.trans (st.mono fun b hb => hb ▸ by simp [LA.S, LA.list]), hnew⟩
    refine (run_nx (D := D) ?_ : Run tNext (CL a' ({ t with marks := t.marks ++ [(n, s', (sgnV a, sgnV b), (sgnV c, sgnV d))] }) a'.S G H) _ _) G1 σ1 H2 hc s1
    have ok2 : Cok (CL a' ({ t with marks := t.marks ++ [(n, s', (sgnV a, sgnV b), (sgnV c, sgnV d))] }) a'.S G H) := CL.ok
    refine run_skip ok2 (et_eqI ok2 rfl (by decide)) ?_
    refine run_skip ok2 (et_eqI ok2 rfl (by decide)) ?_
    refine run_skip ok2 (et_eqI ok2 rfl (by decide)) ?_
    refine run_skip ok2 (et_eqI ok2 rfl (by decide)) ?_
    refine run_skip ok2 (et_eqI ok2 rfl (by decide)) ?_
    exact run_last ok2 (et_eqI ok2 rfl (by decide)) (run_sub (fin _) fun _ _ k => k)
    | [], hrest, _, _, _ => cases hrest
    | [_], hrest, _, _, _ => cases hrest
    | [_, _], hrest, _, _, _ => cases hrest
    | [_, _, _], hrest, _, _, _ => cases hrest
    | [_, _, _, _], hrest, _, _, _ => cases hrest
    | _ :: _ :: _ :: _ :: _ :: _ :: _, hrest, _, _, _ => cases hrest
  | 2, _, hrest, fin =>
    match rest, hrest, hrl, hne, fin with
    | [s', a, b], hrest, _, _, fin =>
    have hs := ((Bool.and_eq_true _ _).mp (show (isSide s' && [a, b].all isSigned) = true from hrest)).2
    simp only [List.all_cons, List.all_nil, Bool.and_true, Bool.and_eq_true] at hs
    obtain ⟨ia, ib⟩ := hs
    refine run_skip ok (et_eqI ok rfl (by decide)) ?_
    refine run_skip ok (et_eqI ok rfl (by decide)) ?_
    refine run_take ok (et_eqI ok rfl (by decide)) ?_
    refine run_append (p := a'.l2) (d := .tup [.str n, .str s', ptD (sgnV a, sgnV b)]) ok (ev_op ok (ev_var ok rfl) (ev_int ok) (rv_ixT ok rfl)) (ev_tup ok (ea_cons ok (ev_var ok rfl) (ea_cons ok (ev_op ok (ev_var ok rfl) (ev_int ok) (rv_ixL ok (at_nat (k := 2) rfl))) (ea_cons ok (ev_tup ok (ea_cons ok (ev_intW ok (ev_op ok (ev_var ok rfl) (ev_int ok) (rv_ixL ok (at_nat (k := 3) rfl))) (isSigned_int ia)) (ea_cons ok (ev_intW ok (ev_op ok (ev_var ok rfl) (ev_int ok) (rv_ixL ok (at_nat (k := 4) rfl))) (isSigned_int ib)) (ea_nil ok))) (Nat.le_of_ble_eq_true rfl)) (ea_nil ok)))) (Nat.le_of_ble_eq_true rfl)) (law_points hh) (by simp only [Told.shapesD, Told.marksD, Told.pointsD, Told.lettersD, Told.classesD, Told.featuresD, Told.rulesD, tx, List.length_map]; show _ < 16000000; omega) (fun G1 σ1 H1 k1 s1 H2 mu st => ?_)
    have hnew : LawAt a' ({ t with points := t.points ++ [(n, s', (sgnV a, sgnV b))] }) G1 H2 := k1.2.set_points st (by first | exact mu | simpa [Told.shapesD, Told.marksD, Told.pointsD, Told.lettersD, Told.classesD, Told.featuresD, Told.rulesD, tx] using mu)
    have hc : CL a' ({ t with points := t.points ++ [(n, s', (sgnV a, sgnV b))] }) a'.S G H G1 H2 := ⟨k1.1.trans (st.mono fun b hb => hb ▸ by simp [LA.S, LA.list]), hnew⟩
    refine (run_nx (D := D) ?_ : Run tNext (CL a' ({ t with points := t.points ++ [(n, s', (sgnV a, sgnV b))] }) a'.S G H) _ _) G1 σ1 H2 hc s1
    have ok2 : Cok (CL a' ({ t with points := t.points ++ [(n, s', (sgnV a, sgnV b))] }) a'.S G H) := CL.ok
    refine run_skip ok2 (et_eqI ok2 rfl (by decide)) ?_
    refine run_skip ok2 (et_eqI ok2 rfl (by decide)) ?_
    refine run_skip ok2 (et_eqI ok2 rfl (by decide)) ?_
    refine run_skip ok2 (et_eqI ok2 rfl (by decide)) ?_
    exact run_last ok2 (et_eqI ok2 rfl (by decide)) (run_sub (fin _) fun _ _ k => k)
    | [], hrest, _, _, _ => cases hrest
    | [_], hrest, _, _, _ => cases hrest
    | [_, _], hrest, _, _, _ => cases hrest
    | _ :: _ :: _ :: _ :: _, hrest, _, _, _ => cases hrest
  | 3, _, hrest, fin =>
    match rest, hrest, hrl, hne, fin with
    | j' :: w' :: fs, hrest, _, _, fin =>
    refine run_skip ok (et_eqI ok rfl (by decide)) ?_
    refine run_skip ok (et_eqI ok rfl (by decide)) ?_
    refine run_skip ok (et_eqI ok rfl (by decide)) ?_
    refine run_take ok (et_eqI ok rfl (by decide)) ?_
    refine run_append (p := a'.l3) (d := .tup [.str n, .str j', .str w', .tup (tx fs)]) ok (ev_op ok (ev_var ok rfl) (ev_int ok) (rv_ixT ok rfl)) (ev_tup ok (ea_cons ok (ev_var ok rfl) (ea_cons ok (ev_op ok (ev_var ok rfl) (ev_int ok) (rv_ixL ok (at_nat (k := 2) rfl))) (ea_cons ok (ev_op ok (ev_var ok rfl) (ev_int ok) (rv_ixL ok (at_nat (k := 3) rfl))) (ea_cons ok (ev_cb ok (ea_cons ok (ev_drop (ws := h :: n :: j' :: w' :: fs) 4 ok (ev_var ok rfl)) (ea_nil ok)) (rc_tupOf ok)) (ea_nil ok))))) (Nat.le_of_ble_eq_true rfl)) (law_letters hh) (by simp only [Told.shapesD, Told.marksD, Told.pointsD, Told.lettersD, Told.classesD, Told.featuresD, Told.rulesD, tx, List.length_map]; show _ < 16000000; omega) (fun G1 σ1 H1 k1 s1 H2 mu st => ?_)
    have hnew : LawAt a' ({ t with letters := t.letters ++ [(n, j', w', fs)] }) G1 H2 := k1.2.set_letters st (by first | exact mu | simpa [Told.shapesD, Told.marksD, Told.pointsD, Told.lettersD, Told.classesD, Told.featuresD, Told.rulesD, tx] using mu)
    have hc : CL a' ({ t with letters := t.letters ++ [(n, j', w', fs)] }) a'.S G H G1 H2 := ⟨k1.1.trans (st.mono fun b hb => hb ▸ by simp [LA.S, LA.list]), hnew⟩
    refine (run_nx (D := D) ?_ : Run tNext (CL a' ({ t with letters := t.letters ++ [(n, j', w', fs)] }) a'.S G H) _ _) G1 σ1 H2 hc s1
    have ok2 : Cok (CL a' ({ t with letters := t.letters ++ [(n, j', w', fs)] }) a'.S G H) := CL.ok
    refine run_skip ok2 (et_eqI ok2 rfl (by decide)) ?_
    refine run_skip ok2 (et_eqI ok2 rfl (by decide)) ?_
    refine run_skip ok2 (et_eqI ok2 rfl (by decide)) ?_
    exact run_last ok2 (et_eqI ok2 rfl (by decide)) (run_sub (fin _) fun _ _ k => k)
    | [], hrest, _, _, _ => cases hrest
    | [_], hrest, _, _, _ => cases hrest
  | 4, _, hrest, fin =>
    refine run_skip ok (et_eqI ok rfl (by decide)) ?_
    refine run_skip ok (et_eqI ok rfl (by decide)) ?_
    refine run_skip ok (et_eqI ok rfl (by decide)) ?_
    refine run_skip ok (et_eqI ok rfl (by decide)) ?_
    refine run_take ok (et_eqI ok rfl (by decide)) ?_
    refine run_append (p := a'.l4) (d := .str n) ok (ev_op ok (ev_var ok rfl) (ev_int ok) (rv_ixT ok rfl)) (ev_var ok rfl) (law_gaps hh) (by simp only [Told.shapesD, Told.marksD, Told.pointsD, Told.lettersD, Told.classesD, Told.featuresD, Told.rulesD, tx, List.length_map]; show _ < 16000000; omega) (fun G1 σ1 H1 k1 s1 H2 mu st => ?_)
    have hnew : LawAt a' ({ t with gaps := t.gaps ++ [n] }) G1 H2 := k1.2.set_gaps st (by first | exact mu | simpa [Told.shapesD, Told.marksD, Told.pointsD, Told.lettersD, Told.classesD, Told.featuresD, Told.rulesD, tx] using mu)
    have hc : CL a' ({ t with gaps := t.gaps ++ [n] }) a'.S G H G1 H2 := ⟨k1.1.trans (st.mono fun b hb => hb ▸ by simp [LA.S, LA.list]), hnew⟩
    refine (run_nx (D := D) ?_ : Run tNext (CL a' ({ t with gaps := t.gaps ++ [n] }) a'.S G H) _ _) G1 σ1 H2 hc s1
    have ok2 : Cok (CL a' ({ t with gaps := t.gaps ++ [n] }) a'.S G H) := CL.ok
    refine run_skip ok2 (et_eqI ok2 rfl (by decide)) ?_
    refine run_skip ok2 (et_eqI ok2 rfl (by decide)) ?_
    exact run_last ok2 (et_eqI ok2 rfl (by decide)) (run_sub (fin _) fun _ _ k => k)
  | 5, _, hrest, fin =>
    refine run_skip ok (et_eqI ok rfl (by decide)) ?_
    refine run_skip ok (et_eqI ok rfl (by decide)) ?_
    refine run_skip ok (et_eqI ok rfl (by decide)) ?_
    refine run_skip ok (et_eqI ok rfl (by decide)) ?_
    refine run_skip ok (et_eqI ok rfl (by decide)) ?_
    refine run_take ok (et_eqI ok rfl (by decide)) ?_
    refine run_append (p := a'.l5) (d := .tup [.str n, .tup (tx rest)]) ok (ev_op ok (ev_var ok rfl) (ev_int ok) (rv_ixT ok rfl)) (ev_tup ok (ea_cons ok (ev_var ok rfl) (ea_cons ok (ev_cb ok (ea_cons ok (ev_drop (ws := h :: n :: rest) 2 ok (ev_var ok rfl)) (ea_nil ok)) (rc_tupOf ok)) (ea_nil ok))) (Nat.le_of_ble_eq_true rfl)) (law_classes hh) (by simp only [Told.shapesD, Told.marksD, Told.pointsD, Told.lettersD, Told.classesD, Told.featuresD, Told.rulesD, tx, List.length_map]; show _ < 16000000; omega) (fun G1 σ1 H1 k1 s1 H2 mu st => ?_)
    have hnew : LawAt a' ({ t with classes := t.classes ++ [(n, rest)] }) G1 H2 := k1.2.set_classes st (by first | exact mu | simpa [Told.shapesD, Told.marksD, Told.pointsD, Told.lettersD, Told.classesD, Told.featuresD, Told.rulesD, tx] using mu)
    have hc : CL a' ({ t with classes := t.classes ++ [(n, rest)] }) a'.S G H G1 H2 := ⟨k1.1.trans (st.mono fun b hb => hb ▸ by simp [LA.S, LA.list]), hnew⟩
    refine (run_nx (D := D) ?_ : Run tNext (CL a' ({ t with classes := t.classes ++ [(n, rest)] }) a'.S G H) _ _) G1 σ1 H2 hc s1
    have ok2 : Cok (CL a' ({ t with classes := t.classes ++ [(n, rest)] }) a'.S G H) := CL.ok
    refine run_skip ok2 (et_eqI ok2 rfl (by decide)) ?_
    exact run_last ok2 (et_eqI ok2 rfl (by decide)) (run_sub (fin _) fun _ _ k => by rw [show putL t 5 n rest = _ from by unfold putL; rfl]; exact k)
  | 6, _, hrest, fin =>
    match rest, hrest, hrl, hne, fin with
    | [s'], hrest, _, _, fin =>
    refine run_skip ok (et_eqI ok rfl (by decide)) ?_
    refine run_skip ok (et_eqI ok rfl (by decide)) ?_
    refine run_skip ok (et_eqI ok rfl (by decide)) ?_
    refine run_skip ok (et_eqI ok rfl (by decide)) ?_
    refine run_skip ok (et_eqI ok rfl (by decide)) ?_
    refine run_skip ok (et_eqI ok rfl (by decide)) ?_
    refine run_take ok (et_eqI ok rfl (by decide)) ?_
    refine run_append (p := a'.l6) (d := .tup [.str n, .bl (decide (s' = "on"))]) ok (ev_op ok (ev_var ok rfl) (ev_int ok) (rv_ixT ok rfl)) (ev_tup ok (ea_cons ok (ev_var ok rfl) (ea_cons ok (ev_op ok (ev_op ok (ev_var ok rfl) (ev_int ok) (rv_ixL ok (at_nat (k := 2) rfl))) (ev_str ok) (rv_eq ok rfl)) (ea_nil ok))) (Nat.le_of_ble_eq_true rfl)) (law_features hh) (by simp only [Told.shapesD, Told.marksD, Told.pointsD, Told.lettersD, Told.classesD, Told.featuresD, Told.rulesD, tx, List.length_map]; show _ < 16000000; omega) (fun G1 σ1 H1 k1 s1 H2 mu st => ?_)
    have hnew : LawAt a' ({ t with features := t.features ++ [(n, decide (s' = "on"))] }) G1 H2 := k1.2.set_features st (by first | exact mu | simpa [Told.shapesD, Told.marksD, Told.pointsD, Told.lettersD, Told.classesD, Told.featuresD, Told.rulesD, tx] using mu)
    have hc : CL a' ({ t with features := t.features ++ [(n, decide (s' = "on"))] }) a'.S G H G1 H2 := ⟨k1.1.trans (st.mono fun b hb => hb ▸ by simp [LA.S, LA.list]), hnew⟩
    refine (run_nx (D := D) ?_ : Run tNext (CL a' ({ t with features := t.features ++ [(n, decide (s' = "on"))] }) a'.S G H) _ _) G1 σ1 H2 hc s1
    have ok2 : Cok (CL a' ({ t with features := t.features ++ [(n, decide (s' = "on"))] }) a'.S G H) := CL.ok
    exact run_last ok2 (et_eqI ok2 rfl (by decide)) (run_sub (fin _) fun _ _ k => k)
    | [], hrest, _, _, _ => cases hrest
    | _ :: _ :: _, hrest, _, _, _ => cases hrest
  | 7, _, hrest, fin =>
    obtain ⟨f', r2, a, b, c, d, rfl, hf', hr2⟩ := rest7 hrest
    have hput : putL t 7 n (f' :: r2) = { t with rules := t.rules ++ [(n, f', (a, b, c, d))] } := by
      show (match rulePartsOf r2 with | some q => _ | none => t) = _
      rw [hr2]
    have hne2 : ∀ w ∈ r2, w ≠ "" := fun w hw => hne w (List.mem_cons_of_mem _ hw)
    have hr2l : r2.length ≤ 1000001 := by simp only [List.length_cons] at hrl; omega
    refine run_skip ok (et_eqI ok rfl (by decide)) ?_
    refine run_skip ok (et_eqI ok rfl (by decide)) ?_
    refine run_skip ok (et_eqI ok rfl (by decide)) ?_
    refine run_skip ok (et_eqI ok rfl (by decide)) ?_
    refine run_skip ok (et_eqI ok rfl (by decide)) ?_
    refine run_skip ok (et_eqI ok rfl (by decide)) ?_
    refine run_skip ok (et_eqI ok rfl (by decide)) ?_
    refine run_if (b := true) ok (et_eqI ok rfl (by decide)) (fun _ => ?_) (fun e => by cases e)
    refine run_append (p := a'.l7) (d := ruleD (n, f', (a, b, c, d))) ok (ev_op ok (ev_var ok rfl) (ev_int ok) (rv_ixT ok rfl)) (EvD.is (ev_op ok (ev_tup ok (ea_cons ok (ev_var ok rfl) (ea_cons ok (ev_op ok (ev_var ok rfl) (ev_int ok) (rv_ixL ok (at_nat (k := 2) rfl))) (ea_nil ok))) (Nat.le_of_ble_eq_true rfl)) (ev_cb ok (ea_cons ok (EvN.ev ok (en_map1 [a, b, c, d] (fun y => Dt.lst (tx y)) (fun y => Dt.tup (tx y)) ok (ev_call ok (ea_cons ok (ev_drop (ws := h :: n :: f' :: r2) 3 ok (ev_var ok rfl)) (ea_nil ok)) rfl (fun _ _ _ => ⟨r2, rfl, hr2l, hne2, by rw [hr2]; rfl⟩)) (fun y hy => by walk_at "ev") (Nat.le_of_ble_eq_true rfl))) (ea_nil ok)) (rc_tupOf ok)) (rv_catT ok (by simp) (by simp) (Nat.le_of_ble_eq_true rfl))) rfl) (law_rules hh) (by simp only [Told.shapesD, Told.marksD, Told.pointsD, Told.lettersD, Told.classesD, Told.featuresD, Told.rulesD, tx, List.length_map]; show _ < 16000000; omega) (fun G1 σ1 H1 k1 s1 H2 mu st => ?_)
    have hnew : LawAt a' ({ t with rules := t.rules ++ [(n, f', (a, b, c, d))] }) G1 H2 := k1.2.set_rules st (by first | exact mu | simpa [Told.shapesD, Told.marksD, Told.pointsD, Told.lettersD, Told.classesD, Told.featuresD, Told.rulesD, tx] using mu)
    have hc : CL a' ({ t with rules := t.rules ++ [(n, f', (a, b, c, d))] }) a'.S G H G1 H2 := ⟨k1.1.trans (st.mono fun b hb => hb ▸ by simp [LA.S, LA.list]), hnew⟩
    exact fin _ G1 σ1 H2 (by rw [hput]; exact hc) s1
end
end Kx

namespace Kx
open PySem L2
/-! ### what is told stays of the right kind -/
theorem val_lt : ∀ (l : List Nat) (a : Nat), (∀ c ∈ l, 48 ≤ c ∧ c ≤ 57) → l.foldl (fun acc c => acc * 10 + (c - 48)) a + 1 ≤ (a + 1) * 10 ^ l.length
  | [], a, _ => by simp
  | c :: l, a, h => by
    have ih := val_lt l (a * 10 + (c - 48)) fun d hd => h d (List.mem_cons_of_mem _ hd)
    have hc := h c List.mem_cons_self
    rw [List.foldl_cons, List.length_cons, Nat.pow_succ]
    refine Nat.le_trans ih ?_
    have e : (a + 1) * (10 ^ l.length * 10) = ((a + 1) * 10) * 10 ^ l.length := by rw [Nat.mul_comm (10 ^ l.length) 10, ← Nat.mul_assoc]
    rw [e]
    exact Nat.mul_le_mul_right _ (by omega)
theorem numV_small {w : Str} (h : isNum w = true) : 0 ≤ numV w ∧ numV w < 100000 := by
  unfold isNum at h
  simp only [Bool.and_eq_true, decide_eq_true_eq] at h
  have al := digs_all h.1.2
  have := val_lt (tl w) 0 (fun c hc => by have := al c hc; omega)
  have hl : (tl w).length ≤ 5 := by rw [← len_tl]; exact h.1.1.2
  have hp : 10 ^ (tl w).length ≤ 10 ^ 5 := Nat.pow_le_pow_right (by decide) hl
  unfold numV NumText.digitsVal
  refine ⟨Int.natCast_nonneg _, ?_⟩
  have h3 : (tl w).foldl (fun acc c => acc * 10 + (c - 48)) 0 + 1 ≤ 100000 := by
    refine Nat.le_trans this ?_
    rw [Nat.zero_add, Nat.one_mul]; exact hp
  omega
theorem sgnV_small {w : Str} (h : isSigned w = true) : small (sgnV w) := by
  unfold isSigned at h
  unfold sgnV small
  cases hn : isNeg w with
  | false =>
    rw [hn, if_neg Bool.false_ne_true] at h
    have := numV_small h
    rw [if_neg Bool.false_ne_true]; omega
  | true =>
    rw [hn, if_pos rfl, Bool.and_eq_true] at h
    have := numV_small h.1
    rw [if_pos rfl]; omega
theorem mem_snoc {α : Type} {l : List α} {x : α} {Q : α → Prop} (h : ∀ p ∈ l, Q p) (hx : Q x) : ∀ p ∈ l ++ [x], Q p := fun p hp => by
  rcases List.mem_append.mp hp with hp | hp
  · exact h p hp
  · rw [List.mem_singleton.mp hp]; exact hx
theorem faces_four (j : Str) : facesDue j ≤ 4 := by
  unfold facesDue
  repeat' split
  all_goals decide
theorem fit_put {t : Told} {j : Nat} {n : Str} {rest : List Str} (F : Fit t) (hj : j < 8) (hn : isName n = true) (hr : restOk j rest = true) : Fit (putL t j n rest) := by
  match j, rest, hj, hr with
  | 0, [x], _, hr => exact ⟨mem_snoc F.s ⟨hn, by have := numV_small (w := x) hr; unfold small; dsimp only; omega⟩, F.m, F.p, F.l, F.g, F.c, F.f, F.r⟩
  | 1, [s, a, b, c, d], _, hr =>
    obtain ⟨h1, h2⟩ := (Bool.and_eq_true _ _).mp (show (isSide s && [a, b, c, d].all isSigned) = true from hr)
    simp only [List.all_cons, List.all_nil, Bool.and_true, Bool.and_eq_true] at h2
    exact ⟨F.s, mem_snoc F.m ⟨hn, h1, ⟨sgnV_small h2.1, sgnV_small h2.2.1⟩, ⟨sgnV_small h2.2.2.1, sgnV_small h2.2.2.2⟩⟩, F.p, F.l, F.g, F.c, F.f, F.r⟩
  | 2, [s, a, b], _, hr =>
    obtain ⟨h1, h2⟩ := (Bool.and_eq_true _ _).mp (show (isSide s && [a, b].all isSigned) = true from hr)
    simp only [List.all_cons, List.all_nil, Bool.and_true, Bool.and_eq_true] at h2
    exact ⟨F.s, F.m, mem_snoc F.p ⟨hn, h1, ⟨sgnV_small h2.1, sgnV_small h2.2⟩⟩, F.l, F.g, F.c, F.f, F.r⟩
  | 3, jn :: w :: fs, _, hr =>
    replace hr : (((decide (1 ≤ fs.length) && isWay w) && decide ((fs.length : Int) = facesDue jn)) && fs.all isName) = true := hr
    simp only [Bool.and_eq_true, decide_eq_true_eq] at hr
    obtain ⟨⟨⟨h1, h2⟩, h3⟩, h4⟩ := hr
    have h5 := faces_four jn
    have h6 : jn.length ≤ 5 := by
      unfold facesDue at h3
      have k1 : ("none" : Str).length ≤ 5 := by decide +kernel
      have k2 : ("clear" : Str).length ≤ 5 := by decide +kernel
      have k3 : ("back" : Str).length ≤ 5 := by decide +kernel
      have k4 : ("both" : Str).length ≤ 5 := by decide +kernel
      split at h3
      · rename_i h; rcases h with rfl | rfl
        · exact k1
        · exact k2
      · split at h3
        · rename_i h; subst h; exact k3
        · split at h3
          · rename_i h; subst h; exact k4
          · omega
    exact ⟨F.s, F.m, F.p, mem_snoc F.l ⟨hn, h6, decide_eq_true h2, by dsimp only; omega, h4⟩, F.g, F.c, F.f, F.r⟩
  | 4, r, _, hr => exact ⟨F.s, F.m, F.p, F.l, mem_snoc F.g hn, F.c, F.f, F.r⟩
  | 5, fs, _, hr =>
    have e0 : restOk 5 fs = ((decide (1 ≤ fs.length) && decide (fs.length ≤ 20)) && fs.all isName) := by unfold restOk; rfl
    have e1 : putL t 5 n fs = { t with classes := t.classes ++ [(n, fs)] } := by unfold putL; rfl
    rw [e0] at hr
    simp only [Bool.and_eq_true, decide_eq_true_eq] at hr
    rw [e1]
    exact ⟨F.s, F.m, F.p, F.l, F.g, mem_snoc F.c ⟨hn, hr.1.2, hr.2⟩, F.f, F.r⟩
  | 6, [s], _, hr => exact ⟨F.s, F.m, F.p, F.l, F.g, F.c, mem_snoc F.f hn, F.r⟩
  | 7, f :: r2, _, hr =>
    obtain ⟨f', r2', a, b, c, d, e, hf, hp⟩ := rest7 hr
    obtain ⟨rfl, rfl⟩ := List.cons.inj e
    have hput : putL t 7 n (f :: r2) = { t with rules := t.rules ++ [(n, f, (a, b, c, d))] } := by
      show (match rulePartsOf r2 with | some q => _ | none => t) = _
      rw [hp]
    rw [hput]
    exact ⟨F.s, F.m, F.p, F.l, F.g, F.c, F.f, mem_snoc F.r ⟨hn, hf, (parts_some hp).2⟩⟩
theorem fit_row {t : Told} {h : Str} {ws : List Str} (F : Fit t) (hz : t.size < 300) : Fit (hallRow t h ws).2 := by
  cases ws with
  | nil => rw [row_one]; exact F
  | cons n rest =>
    rw [row_eq F hz]
    cases hj : headIx h with
    | none => exact F
    | some j =>
      show Fit (if isName n && restOk j rest then lawRow t j n rest else (("row" : Str), t)).2
      cases hb : isName n && restOk j rest with
      | false => exact F
      | true =>
        obtain ⟨h1, h2⟩ := (Bool.and_eq_true _ _).mp hb
        rw [if_pos rfl]
        unfold lawRow fin
        split
        · exact fit_put F (headIx_some hj).2.2 h1 h2
        · exact F
theorem fit_nil : Fit {} := ⟨fun _ h => (by cases h), fun _ h => (by cases h), fun _ h => (by cases h), fun _ h => (by cases h), fun _ h => (by cases h), fun _ h => (by cases h), fun _ h => (by cases h), fun _ h => (by cases h)⟩
theorem fit_told : ∀ (rs : List Str) (t : Told), Fit t → t.size + rs.length < 300 → Fit (toldBy t rs)
  | [], _, F, _ => F
  | r :: rs, t, F, h => by
    have h1 := step_size t r
    rw [List.length_cons] at h
    refine fit_told rs (rowStep t r).2 ?_ (by omega)
    unfold rowStep; split
    · exact F
    · exact fit_row F (by omega)
/-! ### more rules -/
section
variable {C C' : Hp → Hp → Prop} {ds : List (Option Dt)} {K : PySem.W.Frag} {c : TT} {te te2 : TE} {tl' : TA} {u : TS} {D : Ends} {d d1 d2 : Dt} {as : List Dt} {n : Nat} {pre : Hp → Hp → List Dt → (Hp → Hp → Dt → Prop) → Prop} {E : XK}
theorem Slots.same {G : Hp} : ∀ {σ : St} {ds : List (Option Dt)} (i : Nat), Slots G σ ds → ds[i]? = some (some d) → Slots G σ (ds.set i (some d))
  | _, _, _, .nil, e => by simp at e
  | _, _, 0, .any r, e => by simp at e
  | _, _, 0, .val q r, e => by
    have e' := Option.some.inj (Option.some.inj (show some (some _) = some (some d) from e))
    subst e'; exact .val q r
  | _, _, i + 1, .any r, e => .any (Slots.same i r e)
  | _, _, i + 1, .val q r, e => .val q (Slots.same i r e)
theorem run_whenSet {i : Nat} {b : Bool} (ok : Cok C) (h : EvT c C ds b) (h1 : b = true → EvD te C ds d) (h2 : b = false → ds[i]? = some (some d)) (q : Run u C (ds.set i (some d)) D) : Run (tSeq (tIfS c (tAsg te (gName i)) tNext) u) C ds D :=
  run_when ok h (fun e => run_asg ok (h1 e) (run_nx q)) fun e G σ H k s => q G σ H k (s.same i (h2 e))
theorem run_whenSet2 {i j : Nat} {b : Bool} (ok : Cok C) (h : EvT c C ds b) (h1 : b = true → EvD te C ds d1) (h1' : b = true → EvD te2 C (ds.set i (some d1)) d2) (h2 : b = false → ds[i]? = some (some d1)) (h2' : b = false → (ds.set i (some d1))[j]? = some (some d2)) (q : Run u C ((ds.set i (some d1)).set j (some d2)) D) :
    Run (tSeq (tIfS c (tSeq (tAsg te (gName i)) (tAsg te2 (gName j))) tNext) u) C ds D :=
  run_when ok h (fun e => run_set ok (h1 e) (run_asg ok (h1' e) (run_nx q))) fun e G σ H k s => q G σ H k ((s.same i (h2 e)).same j (h2' e))
theorem run_dropX (ok : Cok C) (ha : EvA tl' C ds as) (hn : as.length = n) (hp : ∀ G H, C G H → ∃ post, pre G H as post ∧ ∀ G' H' r, post G' H' r → Same G G' ∧ C' G' H') (q : Run u C' ds D) : Run (tSeq (tDrop (tCall (SpX n pre) [] E tl')) u) C ds D := fun G σ H k s =>
  ha G σ H k s _ fun vs G1 H1 p1 r1 => by
    obtain ⟨post, h1, h2⟩ := hp G1 H1 (ok.stp k p1)
    exact ⟨G1, as, post, p1.gh, by rw [List.append_nil]; exact r1, hn, h1, fun v G' H' r po re => by
      obtain ⟨h3, h4⟩ := h2 G' H' r po
      exact q G' σ H' h4 ((s.mono p1.gg).mono h3)⟩
end
end Kx

namespace Kx
open PySem L2
/-- the names that a row's own one is looked for among -/
def namesD (a : LA) (t : Told) (j : Nat) : Dt := if j = 4 then .obj a.l4 else .lst (tx (t.names j))
def firstsD (a : LA) (t : Told) (j : Nat) : Dt := if j = 2 then .lst (tx (t.points.map (·.1))) else namesD a t j
section
variable {C : Hp → Hp → Prop} {K : PySem.W.Frag} {a : LA} {t : Told}
theorem rv_inNames {x : Str} {j : Nat} (ok : Cok C) (hh : ∀ G H, C G H → LawAt a t G H) : RV (rIn K false) C (.str x) (namesD a t j) (.bl (hasN (t.names j) x)) := by
  unfold namesD
  by_cases e : j = 4
  · subst e; rw [if_pos rfl]; exact rv_inM ok (law_gaps hh)
  · rw [if_neg e]; exact rv_inT ok (.inl rfl)
theorem rc_lenNames {j : Nat} (ok : Cok C) (hh : ∀ G H, C G H → LawAt a t G H) : RC (rLen K) C [namesD a t j] (.int ((t.names j).length : Nat)) := by
  unfold namesD
  by_cases e : j = 4
  · subst e
    rw [if_pos rfl]
    have := rc_lenM (K := K) ok (law_gaps hh)
    rw [List.length_map] at this; exact this
  · rw [if_neg e]
    have := rc_lenL (K := K) (xs := tx (t.names j)) ok
    rw [List.length_map] at this; exact this
end
theorem form_neg {t : Told} {h : Str} {ws : List Str} (F : Fit t) (hz : t.size < 300) (e : formOf (h :: ws) < 0) : hallRow t h ws = (("row" : Str), t) := by
  cases ws with
  | nil => exact row_one
  | cons n rest =>
    rw [row_eq F hz]
    replace e : (match headIx h with | some j => (if isName n && restOk j rest then ((j : Nat) : Int) else -1) | none => -1) < 0 := e
    cases hj : headIx h with
    | none => rfl
    | some j =>
      rw [hj] at e
      show (if isName n && restOk j rest then lawRow t j n rest else (("row" : Str), t)) = _
      cases hb : isName n && restOk j rest with
      | false => rfl
      | true =>
        replace e : (if isName n && restOk j rest then ((j : Nat) : Int) else -1) < 0 := e
        rw [hb, if_pos rfl] at e
        omega
theorem form_pos {t : Told} {h : Str} {ws : List Str} (F : Fit t) (hz : t.size < 300) (e : ¬ formOf (h :: ws) < 0) : ∃ j n rest, ws = n :: rest ∧ headIx h = some j ∧ j < 8 ∧ isName n = true ∧ restOk j rest = true ∧ formOf (h :: ws) = (j : Nat) ∧ hallRow t h ws = lawRow t j n rest := by
  cases ws with
  | nil => exact absurd (show formOf [h] < 0 by show (-1 : Int) < 0; decide) e
  | cons n rest =>
    rw [row_eq F hz]
    have ef : formOf (h :: n :: rest) = (match headIx h with | some j => (if isName n && restOk j rest then ((j : Nat) : Int) else -1) | none => -1) := rfl
    rw [ef] at e ⊢
    cases hj : headIx h with
    | none => rw [hj] at e; exact absurd (show (-1 : Int) < 0 by decide) e
    | some j =>
      rw [hj] at e
      replace e : ¬ (if isName n && restOk j rest then ((j : Nat) : Int) else -1) < 0 := e
      cases hb : isName n && restOk j rest with
      | false => rw [hb] at e; exact absurd (show (-1 : Int) < 0 by decide) e
      | true =>
        obtain ⟨h1, h2⟩ := (Bool.and_eq_true _ _).mp hb
        refine ⟨j, n, rest, rfl, rfl, (headIx_some hj).2.2, h1, h2, ?_, ?_⟩
        · show (if isName n && restOk j rest then ((j : Nat) : Int) else -1) = _
          rw [hb, if_pos rfl]
        · show (if isName n && restOk j rest then lawRow t j n rest else (("row" : Str), t)) = _
          rw [hb, if_pos rfl]
theorem side_len {s : Str} (h : isSide s = true) : s.length ≤ 5 := by
  have m : s ∈ (["above", "below"] : List Str) := of_decide_eq_true h
  simp only [List.mem_cons, List.not_mem_nil, or_false] at m
  rcases m with rfl | rfl <;> decide +kernel
theorem name_len {s : Str} (h : isName s = true) : s.length ≤ 12 := by
  unfold isName at h
  simp only [Bool.and_eq_true, decide_eq_true_eq] at h
  exact h.1.2
section
variable {P : Program} {w : World} {K : PySem.W.Frag} {mg : Str → Option Value} {base : Heap}
local macro_rules | `(tactic| walk_at "ev") => `(tactic| with_reducible first
  | (show EvD _ _ _ _; first
    | exact ev_var (by assumption) rfl
    | exact ev_int (by assumption)
    | exact ev_str (by assumption)
    | exact ev_non (by assumption)
    | exact ev_bl (by assumption)
    | (refine' ev_call (by assumption) ?_ ?_ ?_ <;> (try walk_at "ev"))
    | (refine' ev_op (by assumption) ?_ ?_ ?_ <;> (try walk_at "ev"))
    | (refine' ev_un (by assumption) ?_ rfl <;> (try walk_at "ev"))
    | (refine' ev_andV (by assumption) ?_ (fun _ => ?_) <;> (try walk_at "ev"))
    | (refine' ev_orV (by assumption) ?_ (fun _ => ?_) <;> (try walk_at "ev"))
    | (refine' ev_notV (by assumption) ?_ <;> (try walk_at "ev"))
    | (refine' ev_chain (by assumption) ?_ ?_ ?_ ?_ ?_ <;> (try walk_at "ev"))
    | (refine' ev_cb (by assumption) ?_ ?_ <;> (try walk_at "ev"))
    | (refine' ev_bm (by assumption) ?_ ?_ ?_ <;> (try walk_at "ev"))
    | (refine' ev_m1 (by assumption) ?_ ?_ ?_ <;> (try walk_at "ev"))
    | (refine' ev_sliceS (by assumption) ?_ ?_ ?_ <;> (try walk_at "ev"))
    | (refine' ev_slice (by assumption) ?_ ?_ ?_ <;> (try walk_at "ev"))
    | (refine' ev_tup (by assumption) ?_ ?_ <;> (try walk_at "ev"))
    | (refine' ev_lst (by assumption) ?_ ?_ <;> (try walk_at "ev"))
    | exact ev_h_shapes (by assumption) (by assumption) (by assumption) (ev_var (by assumption) rfl)
    | exact ev_h_marks (by assumption) (by assumption) (by assumption) (ev_var (by assumption) rfl)
    | exact ev_h_points (by assumption) (by assumption) (by assumption) (ev_var (by assumption) rfl)
    | exact ev_h_letters (by assumption) (by assumption) (by assumption) (ev_var (by assumption) rfl)
    | exact ev_h_gaps (by assumption) (by assumption) (by assumption) (ev_var (by assumption) rfl)
    | exact ev_h_classes (by assumption) (by assumption) (by assumption) (ev_var (by assumption) rfl)
    | exact ev_h_features (by assumption) (by assumption) (by assumption) (ev_var (by assumption) rfl)
    | exact ev_h_rules (by assumption) (by assumption) (by assumption) (ev_var (by assumption) rfl)
    | (refine' ev_dinK (by assumption) ?_ ?_ ?_ <;> (try walk_at "ev"))
    | (refine' ev_dniK (by assumption) ?_ ?_ ?_ <;> (try walk_at "ev"))
    | (refine' ev_dinT (by assumption) ?_ ?_ ?_ <;> (try walk_at "ev")))
  | (show EvA _ _ _ _; first
    | exact ea_nil (by assumption)
    | (refine' ea_cons (by assumption) ?_ ?_ <;> (try walk_at "ev")))
  | (show RV _ _ _ _ _; first
    | exact rv_int (by assumption)
    | exact rv_cmp (by assumption)
    | exact rv_eq (by assumption) rfl
    | exact rv_ne (by assumption) rfl
    | exact rv_isN (by assumption) rfl
    | exact rv_notN (by assumption) rfl
    | exact rv_inT (by assumption) (.inl rfl)
    | exact rv_inT (by assumption) (.inr rfl)
    | exact rv_niT (by assumption) (.inl rfl)
    | exact rv_niT (by assumption) (.inr rfl)
    | exact rv_inS (by assumption)
    | exact rv_niS (by assumption)
    | exact rv_ixS (by assumption) (by assumption)
    | exact rv_ixL (by assumption) (by assumption)
    | exact rv_ixT (by assumption) (by assumption)
    | exact rv_ixT (by assumption) rfl
    | exact rv_ixL (by assumption) rfl
    | (refine' rv_inM (by assumption) ?_ <;> (try walk_at "ev"))
    | (refine' rv_niM (by assumption) ?_ <;> (try walk_at "ev"))
    | (refine' rv_inX (by assumption) ?_ (.inl rfl) <;> (try walk_at "ev"))
    | (refine' rv_inX (by assumption) ?_ (.inr rfl) <;> (try walk_at "ev"))
    | (refine' rv_niX (by assumption) ?_ (.inl rfl) <;> (try walk_at "ev"))
    | (refine' rv_niX (by assumption) ?_ (.inr rfl) <;> (try walk_at "ev"))
    | exact rv_in (neg := false) (by assumption) rfl rfl (.inr rfl)
    | exact rv_in (neg := true) (by assumption) rfl rfl (.inr rfl)
    | exact rv_intC (g := fun i j => i % j) (by assumption) (by decide)
    | exact rv_intC (g := fun i j => i / j) (by assumption) (cdiv_ok (by decide)))
  | (show EvT _ _ _ _; first
    | exact et_yes (by assumption)
    | (refine' et_and (by assumption) ?_ (fun _ => ?_) <;> (try walk_at "ev"))
    | (refine' et_or (by assumption) ?_ (fun _ => ?_) <;> (try walk_at "ev"))
    | (refine' et_not ?_ <;> (try walk_at "ev"))
    | (refine' et_test ?_ <;> (try walk_at "ev"))
    | (refine' et_B ?_ <;> (try walk_at "ev")))
  | (show RC _ _ _ _; first
    | exact rc_lenL (by assumption)
    | exact rc_lenT (by assumption)
    | exact rc_lenS (by assumption)
    | exact rc_all (by assumption)
    | exact rc_intB (by assumption)
    | exact rc_strS (by assumption)
    | exact rc_listOf (by assumption) (.inl rfl)
    | exact rc_listOf (by assumption) (.inr rfl)
    | exact rc_tupOf (by assumption)
    | (refine' rc_lenD (by assumption) ?_ <;> (try walk_at "ev"))
    | (refine' rc_lenM (by assumption) ?_ <;> (try walk_at "ev")))
  | (show RM _ _ _ _ _; first
    | exact rm_strip' (by assumption))
  | (show EvO _ _ _ _; first
    | exact eo_none (by assumption)
    | (refine' eo_some ?_ <;> (try walk_at "ev")))
  | (show List.length _ ≤ Lim; with_unfolding_all exact Nat.le_of_ble_eq_true rfl)
  | (show List.length _ = _; with_unfolding_all rfl)
  | exact (fun _ _ _ => ⟨_, rfl, rfl⟩)
  | exact (fun _ _ _ => ⟨_, _, rfl, rfl⟩)
  | exact (fun _ _ _ => ⟨_, _, _, rfl, rfl⟩)
  | exact (fun _ _ _ => ⟨_, rfl, by assumption, rfl⟩)
  | exact hall_s (by assumption)
  | exact hall_m (by assumption)
  | exact hall_p (by assumption)
  | exact hall_l (by assumption)
  | exact hall_g (by assumption)
  | exact hall_c (by assumption)
  | exact hall_f (by assumption)
  | exact hall_r (by assumption)
  | exact TxL.of _
  | exact TxL.nil
  | (refine' TxL.cons ?_ <;> (try walk_at "ev")))


abbrev s_law_word : Stmt := top 60
abbrev N_law_word : List Str := ["_law_told", "_law_words", "_law_sort", "_law_names", "_law_own", "_law_one"]
abbrev P_law_word : List Str := ["_law_told", "_law_words"]
theorem sc_law_word : FnScope N_law_word P_law_word (defScope s_law_word) := ⟨rfl, rfl, rfl, by decide +kernel, rfl, by decide +kernel, by decide +kernel⟩

def preWord : Hp → Hp → List Dt → (Hp → Hp → Dt → Prop) → Prop := fun G H as post => ∃ (a : LA) (t : Told) (h : Str) (ws : List Str), as = [a.D, .lst (tx (h :: ws))] ∧ LawAt a t G H ∧ Fit t ∧ t.size < 300 ∧ ws.length ≤ 90000 ∧ (∀ w ∈ h :: ws, w ≠ "" ∧ PyData.strOk w = true) ∧
  post = fun G' H' r => CL a (hallRow t h ws).2 a.S G H G' H' ∧ r = .str (hallRow t h ws).1
theorem cal_law_word (B : Blt mg) (D : Dfn K mg "_law_word" s_law_word) (C_law_form : Cal P w K mg base "_law_form" 3 P_law_form spForm) (C_law_lacks : Cal P w K mg base "_law_lacks" 3 P_law_lacks (SpF 3 preLacks)) (C_law_put : Cal P w K mg base "_law_put" 3 P_law_put (SpX 3 prePut)) :
    Cal P w K mg base "_law_word" 4 P_law_word (SpX 2 preWord) := by
  have sc := sc_law_word
  refine cal_of D (fun f fd F => fnokX F sc fun cdv A outer s H E hr => have hr1 := hr; ⟨_, (pss_cons (ps_set (i := 2) sc.nd rfl (Or.inl rfl) (pe_callC C_law_form hr1 rfl (pa_cons (pv 1) pa_nil)))
      (pss_cons (ps_if (pt_cmpR op_lt (pv 2) pe_int (nomark _)) (pss_one (ps_ret pe_str)) pss_nil)
      (pss_cons (ps_set (i := 3) sc.nd rfl (Or.inl rfl) (pe_ix (r := rIxT K) ix_tup (pv 0) pe_int (fun _ _ => rfl)))
      (pss_cons (ps_set (i := 4) sc.nd rfl (Or.inl rfl) (pe_ix (r := rIxL K) ix_list (pv 1) pe_int (fun _ _ => rfl)))
      (pss_cons (ps_if (pt_cmpR op_ne (pv 2) pe_int (nomark _)) (pss_one (ps_setLc (i := 3) (own := [("_law_one", 5)]) (by rfl) sc.nd rfl rfl (sw_true rfl rfl rfl (by decide +kernel)) (pi_list (pe_ix (r := rIxT K) ix_tup (pv 0) (pv 2) (fun _ _ => rfl))) (blkOk_by (N := N_law_word) (sc := defScope s_law_word) (by decide +kernel)) (fun _ _ _ _ _ => (pg_name (i := 5) sc.nd rfl (Or.inl rfl))) (fun _ _ _ _ _ => pts_nil) (fun _ _ _ _ _ => (pe_ix (r := rIxT K) ix_tup (pv 5) pe_int (fun _ _ => rfl))))) pss_nil)
      (pss_cons (ps_if (pt_cmpR op_eq (pv 2) pe_int (nomark _)) (pss_cons (ps_setLc (i := 3) (own := [("_law_one", 5)]) (by rfl) sc.nd rfl rfl (sw_true rfl rfl rfl (by decide +kernel)) (pi_list (pe_ix (r := rIxT K) ix_tup (pv 0) pe_int (fun _ _ => rfl))) (blkOk_by (N := N_law_word) (sc := defScope s_law_word) (by decide +kernel)) (fun _ _ _ _ _ => (pg_name (i := 5) sc.nd rfl (Or.inl rfl))) (fun _ _ _ _ _ => pts_nil) (fun _ _ _ _ _ => (pe_op op_addT (pe_op op_addT (pe_ix (r := rIxT K) ix_tup (pv 5) pe_int (fun _ _ => rfl)) pe_str) (pe_ix (r := rIxT K) ix_tup (pv 5) pe_int (fun _ _ => rfl)))))
      (pss_one (ps_set (i := 4) sc.nd rfl (Or.inl rfl) (pe_op op_addT (pe_op op_addT (pe_ix (r := rIxL K) ix_list (pv 1) pe_int (fun _ _ => rfl)) pe_str) (pe_ix (r := rIxL K) ix_list (pv 1) pe_int (fun _ _ => rfl)))))) pss_nil)
      (pss_cons (ps_if (pt_cmpR (r := rIn K false) op_in_seq (pv 4) (pv 3) rfl) (pss_one (ps_ret pe_str)) pss_nil)
      (pss_cons (ps_if (pt_val (pe_callC C_law_lacks hr1 rfl (pa_cons (pv 0) (pa_cons (pv 2) (pa_cons (pv 1) pa_nil))))) (pss_one (ps_ret pe_str)) pss_nil)
      (pss_cons (ps_if (pt_cmpR op_ge (pe_callB (r := rLen K) call_lenK (by rfl) B.len_ (by decide +kernel) (pa_cons (pv 3) pa_nil)) (pe_ix (r := rIxL K) ix_list (pe_lst (pa_cons pe_int (pa_cons pe_int (pa_cons pe_int (pa_cons pe_int (pa_cons pe_int (pa_cons pe_int (pa_cons pe_int (pa_cons pe_int pa_nil))))))))) (pv 2) (fun _ _ => rfl)) (nomark _)) (pss_one (ps_ret pe_str)) pss_nil)
      (pss_cons (ps_expr (pe_callC C_law_put hr1 rfl (pa_cons (pv 0) (pa_cons (pv 2) (pa_cons (pv 1) pa_nil)))))
      (pss_one (ps_ret pe_str)))))))))))), fun G as post D hl sm hp hq hx => ?_⟩) (fun _ _ _ _ _ _ us hl => match us, hl with | [_, _], _ => rfl)
  obtain ⟨a, t, h, ws, rfl, ha, F, hz, hw, hok, rfl⟩ := hp
  refine fun σ sl => (?_ : Run _ (CL a t a.S G H) _ D) G σ H ⟨Stp.refl sm, ha⟩ sl
  have ok : Cok (CL a t a.S G H) := CL.ok
  have hh := @CL.law a t a.S G H
  have sz := size_names t
  have rt : ∀ f, hallRow t h ws = (f, t) → Rt D (CL a t a.S G H) (.str f) := fun f e v G1 H1 k r => hq v G1 H1 _ ⟨by rw [e]; exact k, by rw [e]⟩ r
  refine run_set (d := .int (formOf (h :: ws))) ok (ev_call ok (by walk_at "ev") rfl (fun _ _ _ => ⟨h :: ws, rfl, by simp, by simp only [List.length_cons]; omega, hok, rfl⟩)) ?_
  refine run_when ok (by walk_at "ev") (fun e => run_ret ok (ev_str ok) rfl (rt _ (form_neg F hz (of_decide_eq_true e)))) (fun e => ?_)
  obtain ⟨j, n, rest, rfl, hj, hj8, hn, hr2, ef, er⟩ := form_pos F hz (of_decide_eq_false e)
  rw [ef]
  have hrl : rest.length ≤ 100000 := by simp only [List.length_cons] at hw; omega
  have hne : ∀ w ∈ rest, w ≠ "" := fun w hw' => (hok w (List.mem_cons_of_mem _ (List.mem_cons_of_mem _ hw'))).1
  have h1 : atI (tx (h :: n :: rest)) 1 = some (.str n) := at_nat (k := 1) rfl
  refine run_set (d := .obj a.l4) ok (ev_op ok (ev_var ok rfl) (ev_int ok) (rv_ixT ok rfl)) ?_
  refine run_set (d := .str n) ok (by walk_at "ev") ?_
  refine run_whenSet (d := firstsD a t j) (b := !decide (j = 4)) ok (EvT.is (by walk_at "ev") (by
    congr 1
    exact decide_eq_decide.mpr (by omega))) (fun e => ?_) (fun e => ?_) ?_
  · match j, hj8, e with
    | 0, _, _ => exact ev_firsts (f := fun p : Str × Int => p.1) ok (ev_op ok (ev_var ok rfl) (ev_var ok rfl) (rv_ixT ok rfl)) (law_shapes hh) (fun y hy => ⟨_, rfl⟩) (by show 5 < 6; decide) (by show _ ≤ 16000000; omega)
    | 1, _, _ => exact ev_firsts (f := fun p : Str × Str × Pt × Pt => p.1) ok (ev_op ok (ev_var ok rfl) (ev_var ok rfl) (rv_ixT ok rfl)) (law_marks hh) (fun y hy => ⟨_, rfl⟩) (by show 5 < 6; decide) (by show _ ≤ 16000000; omega)
    | 2, _, _ => exact ev_firsts (f := fun p : Str × Str × Pt => p.1) ok (ev_op ok (ev_var ok rfl) (ev_var ok rfl) (rv_ixT ok rfl)) (law_points hh) (fun y hy => ⟨_, rfl⟩) (by show 5 < 6; decide) (by show _ ≤ 16000000; omega)
    | 3, _, _ => exact ev_firsts (f := fun p : Str × Str × Str × List Str => p.1) ok (ev_op ok (ev_var ok rfl) (ev_var ok rfl) (rv_ixT ok rfl)) (law_letters hh) (fun y hy => ⟨_, rfl⟩) (by show 5 < 6; decide) (by show _ ≤ 16000000; omega)
    | 5, _, _ => exact ev_firsts (f := fun p : Str × List Str => p.1) ok (ev_op ok (ev_var ok rfl) (ev_var ok rfl) (rv_ixT ok rfl)) (law_classes hh) (fun y hy => ⟨_, rfl⟩) (by show 5 < 6; decide) (by show _ ≤ 16000000; omega)
    | 6, _, _ => exact ev_firsts (f := fun p : Str × Bool => p.1) ok (ev_op ok (ev_var ok rfl) (ev_var ok rfl) (rv_ixT ok rfl)) (law_features hh) (fun y hy => ⟨_, rfl⟩) (by show 5 < 6; decide) (by show _ ≤ 16000000; omega)
    | 7, _, _ => exact ev_firsts (f := fun p : Str × Str × Pts => p.1) ok (ev_op ok (ev_var ok rfl) (ev_var ok rfl) (rv_ixT ok rfl)) (law_rules hh) (fun y hy => ⟨y.2.1 |> fun _ => _, rfl⟩) (by show 5 < 6; decide) (by show _ ≤ 16000000; omega)
  · have e4 : j = 4 := by simpa using e
    subst e4; rfl
  have r2 : j = 2 → ∃ s' b c, rest = [s', b, c] ∧ isSide s' = true := fun e2 => by
    subst e2
    match rest, hr2 with
    | [], h => cases h
    | [_], h => cases h
    | [_, _], h => cases h
    | [s', b, c], h => exact ⟨s', b, c, rfl, ((Bool.and_eq_true _ _).mp (show (isSide s' && [b, c].all isSigned) = true from h)).1⟩
    | _ :: _ :: _ :: _ :: _, h => cases h
  refine run_whenSet2 (d1 := namesD a t j) (d2 := .str (ownName j n rest)) (b := decide (j = 2)) ok (EvT.is (by walk_at "ev") (decide_eq_decide.mpr (by omega))) (fun e => ?_) (fun e => ?_) (fun e => ?_) (fun e => ?_) ?_
  · have e2 := of_decide_eq_true e
    subst e2
    exact EvD.is (EvN.ev ok (en_map t.points (fun p => Dt.tup [.str p.1, .str p.2.1, ptD p.2.2]) (fun p => [(5, Dt.tup [.str p.1, .str p.2.1, ptD p.2.2])]) (fun p => Dt.str ((p.1 ++ " ") ++ p.2.1)) ok (ei_mu ok (ev_op ok (ev_var ok rfl) (ev_int ok) (rv_ixT ok rfl)) (law_points hh) (fun z => z)) (fun _ _ => tg_name) (fun _ _ i hi => by simpa using hi)
      (fun p hp => by
        have fp := F.p p hp
        have l1 := name_len fp.1
        have l2 := side_len fp.2.1
        have l3 : (" " : Str).length = 1 := by decide +kernel
        exact ev_op ok (ev_op ok (ev_op ok (ev_var ok rfl) (ev_int ok) (rv_ixT ok rfl)) (ev_str ok) (rv_addT ok (by rw [l3]; show _ ≤ 16000000; omega))) (ev_op ok (ev_var ok rfl) (ev_int ok) (rv_ixT ok rfl)) (rv_addT ok (by rw [len_app, l3]; show _ ≤ 16000000; omega))) (by show _ ≤ 16000000; omega)))
      (show _ = Dt.lst (tx (t.points.map fun p => (p.1 ++ " ") ++ p.2.1)) by rw [tx, List.map_map]; rfl)
  · have e2 := of_decide_eq_true e
    subst e2
    obtain ⟨s', b, c, rfl, hs⟩ := r2 rfl
    have h2 : atI (tx (h :: n :: [s', b, c])) 2 = some (.str s') := at_nat (k := 2) rfl
    have l1 := name_len hn
    have l2 := side_len hs
    have l3 : (" " : Str).length = 1 := by decide +kernel
    exact ev_op ok (ev_op ok (ev_op ok (ev_var ok rfl) (ev_int ok) (rv_ixL ok h1)) (ev_str ok) (rv_addT ok (by rw [l3]; show _ ≤ 16000000; omega))) (ev_op ok (ev_var ok rfl) (ev_int ok) (rv_ixL ok h2)) (rv_addT ok (by rw [len_app, l3]; show _ ≤ 16000000; omega))
  · have e2 : ¬ j = 2 := of_decide_eq_false e
    show some (some (firstsD a t j)) = _
    unfold firstsD; rw [if_neg e2]
  · have e2 : ¬ j = 2 := of_decide_eq_false e
    show some (some (Dt.str n)) = _
    unfold ownName; rw [if_neg e2]
  have hrow : hallRow t h (n :: rest) = fin t (firstDue (hasN (t.names j) (ownName j n rest)) (lacksL t j n rest) (decide (limit j ≤ (t.names j).length))) (putL t j n rest) := er
  refine run_when ok (et_test (ev_op ok (ev_var ok rfl) (ev_var ok rfl) (rv_inNames ok hh))) (fun e => run_ret ok (ev_str ok) rfl (rt _ (by rw [hrow, e]; unfold firstDue fin; rw [if_pos rfl, if_neg (by decide +kernel)]))) (fun e => ?_)
  rw [e] at hrow
  refine run_when ok (et_B (ev_call ok (by walk_at "ev") rfl (fun G1 H1 k => ⟨a, t, j, h, n, rest, rfl, k.2, by omega, hj8, hr2, hrl, hne, rfl⟩))) (fun e2 => run_ret ok (ev_str ok) rfl (rt _ (by rw [hrow, e2]; unfold firstDue fin; rw [if_neg Bool.false_ne_true, if_pos rfl, if_neg (by decide +kernel)]))) (fun e2 => ?_)
  rw [e2] at hrow
  have hlim : atI [Dt.int 60, .int 300, .int 300, .int 24, .int 300, .int 20, .int 10, .int 30] (j : Int) = some (.int (limit j : Nat)) := by
    match j, hj8 with
    | 0, _ => rfl
    | 1, _ => rfl
    | 2, _ => rfl
    | 3, _ => rfl
    | 4, _ => rfl
    | 5, _ => rfl
    | 6, _ => rfl
    | 7, _ => rfl
  refine run_when (b := decide (limit j ≤ (t.names j).length)) ok (EvT.is (et_test (ev_op ok (ev_cb ok (ea_cons ok (ev_var ok rfl) (ea_nil ok)) (rc_lenNames ok hh)) (ev_op ok (by walk_at "ev") (ev_var ok rfl) (rv_ixL ok hlim)) (rv_cmp ok))) (decide_eq_decide.mpr (by omega))) (fun e3 => run_ret ok (ev_str ok) rfl (rt _ (by rw [hrow, e3]; unfold firstDue fin; rw [if_neg Bool.false_ne_true, if_neg Bool.false_ne_true, if_pos rfl, if_neg (by decide +kernel)]))) (fun e3 => ?_)
  rw [e3] at hrow
  have hfin : hallRow t h (n :: rest) = (("" : Str), putL t j n rest) := by
    rw [hrow]; unfold firstDue fin; rw [if_neg Bool.false_ne_true, if_neg Bool.false_ne_true, if_neg Bool.false_ne_true, if_pos rfl]
  refine run_dropX (C' := CL a (putL t j n rest) a.S G H) ok (by walk_at "ev") rfl (fun G1 H1 k => ⟨_, ⟨a, t, j, h, n, rest, rfl, k.2, by omega, hj8, hr2, hrl, hne, rfl⟩, fun G2 H2 r po => ⟨po.1.1.gg, k.1.trans po.1.1, po.1.2⟩⟩) ?_
  exact run_ret CL.ok (ev_str CL.ok) rfl (fun v G1 H1 k r => hq v G1 H1 _ ⟨by rw [hfin]; exact k, by rw [hfin]⟩ r)
end
end Kx

namespace Kx
open PySem L2
structure News (H0 H1 : Hp) (l : List Addr) : Prop where
  at_ : ∀ p ∈ l, H1 p = some (.lst []) ∧ H0 p = none
  nd : l.Nodup
  oth : ∀ b, b ∉ l → H1 b = H0 b
theorem News.nil {H : Hp} : News H H [] := ⟨fun _ h => (by cases h), List.nodup_nil, fun _ _ => rfl⟩
theorem News.step {H0 H1 : Hp} {l : List Addr} {p : Addr} (N : News H0 H1 l) (hp : H1 p = none) : News H0 (upd H1 p (.lst [])) (l ++ [p]) := by
  have pl : p ∉ l := fun z => by have := (N.at_ p z).1; rw [hp] at this; cases this
  refine ⟨fun q hq => ?_, ?_, fun b hb => ?_⟩
  · rcases List.mem_append.mp hq with hq | hq
    · obtain ⟨h1, h2⟩ := N.at_ q hq
      exact ⟨by rw [upd_ne (fun z => pl (by rw [← z]; exact hq))]; exact h1, h2⟩
    · rw [List.mem_singleton.mp hq]
      exact ⟨upd_same, by rw [← N.oth p pl]; exact hp⟩
  · rw [List.nodup_append]; exact ⟨N.nd, by simp, fun a ha b hb z => pl (by rw [← List.mem_singleton.mp hb, ← z]; exact ha)⟩
  · have h1 : b ∉ l := fun z => hb (List.mem_append_left _ z)
    have h2 : b ≠ p := fun z => hb (List.mem_append_right _ (by simp [z]))
    rw [upd_ne h2]; exact N.oth b h1
def faultD (p : Nat × Str) : Dt := .tup [.int (p.1 : Nat), .str p.2]
def toldDt (t : Told) : Dt := .tup [.lst t.shapesD, .lst t.marksD, .lst t.pointsD, .lst t.lettersD, .lst (tx t.gaps), .lst t.classesD, .lst t.featuresD, .lst t.rulesD]
theorem run_setN {C : Hp → Hp → Prop} {ds : List (Option Dt)} {te : TE} {u : TS} {D : Ends} {i : Nat} {xs : List Dt} {Z : Addr → Prop} (ok : Cok C) (h : EvN te C ds xs) (hZ : ∀ G H p, C G H → H p = none → Z p) (q : ∀ p, Z p → Run u (fun G H => C G H ∧ Mu p xs G H) (ds.set i (some (.obj p))) D) : Run (tSeq (tAsg te (gName i)) u) C ds D := fun G σ H k s =>
  h G σ H k s _ fun p vs G1 H1 p1 hp g1 e r => q p (hZ G H p k hp) G1 _ H1 ⟨ok.stp k p1, g1, vs, e, r⟩ ((s.mono p1.gg).set (.obj p) i)
section
variable {P : Program} {w : World} {K : PySem.W.Frag} {mg : Str → Option Value} {base : Heap}
local macro_rules | `(tactic| walk_at "ev") => `(tactic| with_reducible first
  | (show EvD _ _ _ _; first
    | exact ev_var (by assumption) rfl
    | exact ev_int (by assumption)
    | exact ev_str (by assumption)
    | exact ev_non (by assumption)
    | exact ev_bl (by assumption)
    | (refine' ev_call (by assumption) ?_ ?_ ?_ <;> (try walk_at "ev"))
    | (refine' ev_op (by assumption) ?_ ?_ ?_ <;> (try walk_at "ev"))
    | (refine' ev_un (by assumption) ?_ rfl <;> (try walk_at "ev"))
    | (refine' ev_andV (by assumption) ?_ (fun _ => ?_) <;> (try walk_at "ev"))
    | (refine' ev_orV (by assumption) ?_ (fun _ => ?_) <;> (try walk_at "ev"))
    | (refine' ev_notV (by assumption) ?_ <;> (try walk_at "ev"))
    | (refine' ev_chain (by assumption) ?_ ?_ ?_ ?_ ?_ <;> (try walk_at "ev"))
    | (refine' ev_cb (by assumption) ?_ ?_ <;> (try walk_at "ev"))
    | (refine' ev_bm (by assumption) ?_ ?_ ?_ <;> (try walk_at "ev"))
    | (refine' ev_m1 (by assumption) ?_ ?_ ?_ <;> (try walk_at "ev"))
    | (refine' ev_sliceS (by assumption) ?_ ?_ ?_ <;> (try walk_at "ev"))
    | (refine' ev_slice (by assumption) ?_ ?_ ?_ <;> (try walk_at "ev"))
    | (refine' ev_tup (by assumption) ?_ ?_ <;> (try walk_at "ev"))
    | (refine' ev_lst (by assumption) ?_ ?_ <;> (try walk_at "ev"))
    | exact ev_h_shapes (by assumption) (by assumption) (by assumption) (ev_var (by assumption) rfl)
    | exact ev_h_marks (by assumption) (by assumption) (by assumption) (ev_var (by assumption) rfl)
    | exact ev_h_points (by assumption) (by assumption) (by assumption) (ev_var (by assumption) rfl)
    | exact ev_h_letters (by assumption) (by assumption) (by assumption) (ev_var (by assumption) rfl)
    | exact ev_h_gaps (by assumption) (by assumption) (by assumption) (ev_var (by assumption) rfl)
    | exact ev_h_classes (by assumption) (by assumption) (by assumption) (ev_var (by assumption) rfl)
    | exact ev_h_features (by assumption) (by assumption) (by assumption) (ev_var (by assumption) rfl)
    | exact ev_h_rules (by assumption) (by assumption) (by assumption) (ev_var (by assumption) rfl)
    | (refine' ev_dinK (by assumption) ?_ ?_ ?_ <;> (try walk_at "ev"))
    | (refine' ev_dniK (by assumption) ?_ ?_ ?_ <;> (try walk_at "ev"))
    | (refine' ev_dinT (by assumption) ?_ ?_ ?_ <;> (try walk_at "ev")))
  | (show EvA _ _ _ _; first
    | exact ea_nil (by assumption)
    | (refine' ea_cons (by assumption) ?_ ?_ <;> (try walk_at "ev")))
  | (show RV _ _ _ _ _; first
    | exact rv_int (by assumption)
    | exact rv_cmp (by assumption)
    | exact rv_eq (by assumption) rfl
    | exact rv_ne (by assumption) rfl
    | exact rv_isN (by assumption) rfl
    | exact rv_notN (by assumption) rfl
    | exact rv_inT (by assumption) (.inl rfl)
    | exact rv_inT (by assumption) (.inr rfl)
    | exact rv_niT (by assumption) (.inl rfl)
    | exact rv_niT (by assumption) (.inr rfl)
    | exact rv_inS (by assumption)
    | exact rv_niS (by assumption)
    | exact rv_ixS (by assumption) (by assumption)
    | exact rv_ixL (by assumption) (by assumption)
    | exact rv_ixT (by assumption) (by assumption)
    | exact rv_ixT (by assumption) rfl
    | exact rv_ixL (by assumption) rfl
    | (refine' rv_inM (by assumption) ?_ <;> (try walk_at "ev"))
    | (refine' rv_niM (by assumption) ?_ <;> (try walk_at "ev"))
    | (refine' rv_inX (by assumption) ?_ (.inl rfl) <;> (try walk_at "ev"))
    | (refine' rv_inX (by assumption) ?_ (.inr rfl) <;> (try walk_at "ev"))
    | (refine' rv_niX (by assumption) ?_ (.inl rfl) <;> (try walk_at "ev"))
    | (refine' rv_niX (by assumption) ?_ (.inr rfl) <;> (try walk_at "ev"))
    | exact rv_in (neg := false) (by assumption) rfl rfl (.inr rfl)
    | exact rv_in (neg := true) (by assumption) rfl rfl (.inr rfl)
    | exact rv_intC (g := fun i j => i % j) (by assumption) (by decide)
    | exact rv_intC (g := fun i j => i / j) (by assumption) (cdiv_ok (by decide)))
  | (show EvT _ _ _ _; first
    | exact et_yes (by assumption)
    | (refine' et_and (by assumption) ?_ (fun _ => ?_) <;> (try walk_at "ev"))
    | (refine' et_or (by assumption) ?_ (fun _ => ?_) <;> (try walk_at "ev"))
    | (refine' et_not ?_ <;> (try walk_at "ev"))
    | (refine' et_test ?_ <;> (try walk_at "ev"))
    | (refine' et_B ?_ <;> (try walk_at "ev")))
  | (show RC _ _ _ _; first
    | exact rc_lenL (by assumption)
    | exact rc_lenT (by assumption)
    | exact rc_lenS (by assumption)
    | exact rc_all (by assumption)
    | exact rc_intB (by assumption)
    | exact rc_strS (by assumption)
    | exact rc_listOf (by assumption) (.inl rfl)
    | exact rc_listOf (by assumption) (.inr rfl)
    | exact rc_tupOf (by assumption)
    | (refine' rc_lenD (by assumption) ?_ <;> (try walk_at "ev"))
    | (refine' rc_lenM (by assumption) ?_ <;> (try walk_at "ev")))
  | (show RM _ _ _ _ _; first
    | exact rm_strip' (by assumption))
  | (show EvO _ _ _ _; first
    | exact eo_none (by assumption)
    | (refine' eo_some ?_ <;> (try walk_at "ev")))
  | (show List.length _ ≤ Lim; with_unfolding_all exact Nat.le_of_ble_eq_true rfl)
  | (show List.length _ = _; with_unfolding_all rfl)
  | exact (fun _ _ _ => ⟨_, rfl, rfl⟩)
  | exact (fun _ _ _ => ⟨_, _, rfl, rfl⟩)
  | exact (fun _ _ _ => ⟨_, _, _, rfl, rfl⟩)
  | exact (fun _ _ _ => ⟨_, rfl, by assumption, rfl⟩)
  | exact hall_s (by assumption)
  | exact hall_m (by assumption)
  | exact hall_p (by assumption)
  | exact hall_l (by assumption)
  | exact hall_g (by assumption)
  | exact hall_c (by assumption)
  | exact hall_f (by assumption)
  | exact hall_r (by assumption)
  | exact TxL.of _
  | exact TxL.nil
  | (refine' TxL.cons ?_ <;> (try walk_at "ev")))

theorem run_told {C : Hp → Hp → Prop} {ds : List (Option Dt)} {u : TS} {D : Ends} {i : Nat} {Z : LA → Prop} (ok : Cok C) (hZ : ∀ G H (a : LA), C G H → (∀ p ∈ a.list, H p = none) → Z a) (q : ∀ a : LA, Z a → Run u (fun G H => C G H ∧ LawAt a {} G H) (ds.set i (some a.D)) D) :
    Run (tSeq (tAsg (tTup (tCons (tLst tNil) (tCons (tLst tNil) (tCons (tLst tNil) (tCons (tLst tNil) (tCons (tLst tNil) (tCons (tLst tNil) (tCons (tLst tNil) (tCons (tLst tNil) tNil))))))))) (gName i)) u) C ds D := fun G σ H k s => by
  have sub := ok.sub k
  refine ⟨Nat.zero_le _, fun p0 h0 => ⟨Nat.zero_le _, fun p1 h1 => ⟨Nat.zero_le _, fun p2 h2 => ⟨Nat.zero_le _, fun p3 h3 => ⟨Nat.zero_le _, fun p4 h4 => ⟨Nat.zero_le _, fun p5 h5 => ⟨Nat.zero_le _, fun p6 h6 => ⟨Nat.zero_le _, fun p7 h7 => ⟨by show 8 ≤ sizeLine; rw [sizeLine_eq]; decide, fun p hp => ?_⟩⟩⟩⟩⟩⟩⟩⟩⟩
  have N : News H _ ([p0, p1, p2, p3, p4, p5, p6, p7] : List Addr) := (((((((News.nil.step h0).step h1).step h2).step h3).step h4).step h5).step h6).step h7
  let a : LA := ⟨p0, p1, p2, p3, p4, p5, p6, p7⟩
  have hl : a.list = [p0, p1, p2, p3, p4, p5, p6, p7] := rfl
  generalize hH1 : upd (upd (upd (upd (upd (upd (upd (upd H p0 (.lst [])) p1 (.lst [])) p2 (.lst [])) p3 (.lst [])) p4 (.lst [])) p5 (.lst [])) p6 (.lst [])) p7 (.lst []) = H1 at hp N ⊢
  have hH : ∀ b ∈ a.list, H b = none := fun b hb => (N.at_ b hb).2
  have keep : ∀ b o, H b = some o → H1 b = some o := fun b o e => by
    rw [N.oth b (fun z => by rw [(N.at_ b z).2] at e; cases e)]; exact e
  have st1 : Pu G H G H1 := ⟨Same.refl _, fun b o e => keep b o (sub b o e), fun b o _ e => keep b o e, fun b e => (by
    cases z : H b with
    | none => rfl
    | some o => rw [keep b o z] at e; cases e), fun _ _ _ g => .inl g⟩
  have st2 := st1.trans (Pu.new (o := .tup [.ref p0, .ref p1, .ref p2, .ref p3, .ref p4, .ref p5, .ref p6, .ref p7]) st1.gh hp)
  have gp : G p = none := st1.gh.free hp
  have mu : ∀ b ∈ a.list, Mu b [] (upd G p (.tup [.ref p0, .ref p1, .ref p2, .ref p3, .ref p4, .ref p5, .ref p6, .ref p7])) (upd H1 p (.tup [.ref p0, .ref p1, .ref p2, .ref p3, .ref p4, .ref p5, .ref p6, .ref p7])) := fun b hb => by
    have nb : b ≠ p := fun z => by rw [← z, (N.at_ b hb).1] at hp; cases hp
    exact ⟨by rw [upd_ne nb]; exact sub.free (hH b hb), [], by rw [upd_ne nb]; exact (N.at_ b hb).1, .nil⟩
  have la : LawAt a {} (upd G p (.tup [.ref p0, .ref p1, .ref p2, .ref p3, .ref p4, .ref p5, .ref p6, .ref p7])) (upd H1 p (.tup [.ref p0, .ref p1, .ref p2, .ref p3, .ref p4, .ref p5, .ref p6, .ref p7])) :=
    ⟨N.nd, mu _ (by simp [hl, a]), mu _ (by simp [hl, a]), mu _ (by simp [hl, a]), mu _ (by simp [hl, a]), mu _ (by simp [hl, a]), mu _ (by simp [hl, a]), mu _ (by simp [hl, a]), mu _ (by simp [hl, a])⟩
  exact q a (hZ G H a k hH) _ _ _ ⟨ok.stp k st2, la⟩ ((s.mono st2.gg).set (.tup upd_same (.cons (.obj _) (.cons (.obj _) (.cons (.obj _) (.cons (.obj _) (.cons (.obj _) (.cons (.obj _) (.cons (.obj _) (.cons (.obj _) .nil))))))))) i)

abbrev s_law_judged : Stmt := top 61
abbrev N_law_judged : List Str := ["_law_lines", "_law_told", "_law_faults", "_law_place", "_law_line", "_law_words", "_law_word_here"]
abbrev P_law_judged : List Str := ["_law_lines"]
theorem sc_law_judged : FnScope N_law_judged P_law_judged (defScope s_law_judged) := ⟨rfl, rfl, rfl, by decide +kernel, rfl, by decide +kernel, by decide +kernel⟩

abbrev spJudged : Sp := SpF 1 fun _ _ as r => ∃ lines : List Str, as = [.lst (tx lines)] ∧ lines.length < 290 ∧ (∀ l ∈ lines, l.length ≤ 80000 ∧ ∀ w ∈ wordsOf l, PyData.strOk w = true) ∧ r = .tup [toldDt (toldBy {} lines), .lst ((faultsBy {} 0 lines).map faultD)]
theorem cal_law_judged (B : Blt mg) (D : Dfn K mg "_law_judged" s_law_judged) (C_law_word : Cal P w K mg base "_law_word" 4 P_law_word (SpX 2 preWord)) : Cal P w K mg base "_law_judged" 5 P_law_judged spJudged := by
  have sc := sc_law_judged
  refine cal_of D (fun f fd F => fnok F sc fun cdv A outer s H E hr => have hr1 := hr; ⟨_, (pss_cons (ps_set (i := 1) sc.nd rfl (Or.inl rfl) (pe_tup (pa_cons (pe_lst pa_nil) (pa_cons (pe_lst pa_nil) (pa_cons (pe_lst pa_nil) (pa_cons (pe_lst pa_nil) (pa_cons (pe_lst pa_nil) (pa_cons (pe_lst pa_nil) (pa_cons (pe_lst pa_nil) (pa_cons (pe_lst pa_nil) pa_nil))))))))))
      (pss_cons (ps_set (i := 2) sc.nd rfl (Or.inl rfl) (pe_lst pa_nil))
      (pss_cons (ps_for PassesOwn.never rfl (pi_enum (by rfl) B.enumerate_ (pa_cons (pv 0) pa_nil)) (pg_tupK (K := K) (n := 2) rfl rfl (pgs_cons (pg_name (i := 3) sc.nd rfl (Or.inl rfl)) (pgs_cons (pg_name (i := 4) sc.nd rfl (Or.inl rfl)) pgs_nil))) (pss_cons (ps_setLc (i := 5) (own := [("_law_word_here", 6)]) (by rfl) sc.nd rfl rfl (sw_true rfl rfl rfl (by decide +kernel)) (pi_list (pe_m1 (r := rSplit) PySem.F.slot_str_split PySem.F.type_str_split mt_split (pv 4) pe_str)) (blkOk_by (N := N_law_judged) (sc := defScope s_law_judged) (by decide +kernel)) (fun _ _ _ _ _ => (pg_name (i := 6) sc.nd rfl (Or.inl rfl))) (fun _ _ _ _ _ => (pts_one (pt_cmpR op_ne (pv 6) pe_str (nomark _)))) (fun _ _ _ _ _ => (pv 6)))
      (pss_one (ps_if (pt_cmpR op_gt (pe_callB (r := rLen K) call_lenK (by rfl) B.len_ (by decide +kernel) (pa_cons (pv 5) pa_nil)) pe_int (nomark _)) (pss_cons (ps_set (i := 6) sc.nd rfl (Or.inl rfl) (pe_callC C_law_word hr1 rfl (pa_cons (pv 1) (pa_cons (pv 5) pa_nil))))
      (pss_one (ps_if (pt_cmpR op_ne (pv 6) pe_str (nomark _)) (pss_one (ps_expr (pe_bm PySem.F.plainAttrs_list PySem.F.slot_list_append PySem.F.type_list_append mt_append (pv 2) (pa_cons (pe_tup (pa_cons (pv 3) (pa_cons (pv 6) pa_nil))) pa_nil)))) pss_nil))) pss_nil))))
      (pss_one (ps_ret (pe_tup (pa_cons (pv 1) (pa_cons (pv 2) pa_nil)))))))), fun G as r D hl sm hp hq hx => ?_⟩) (fun _ _ _ _ _ _ us hl => match us, hl with | [_], _ => rfl)
  obtain ⟨lines, rfl, hln, hlg, rfl⟩ := hp
  have ok : Cok (Bs No G H) := Bs.ok
  refine run_told (Z := fun a => ∀ p ∈ a.list, H p = none) ok (fun G1 H1 a k h p hp => k.th p (h p hp)) fun a ha => ?_
  have ok1 : Cok (fun G1 H1 => Bs No G H G1 H1 ∧ LawAt a {} G1 H1) := ⟨fun c => ok.sub c.1, fun c p => ⟨ok.stp c.1 p, c.2.stp p fun _ _ z => z⟩⟩
  refine run_setN (Z := fun p => H p = none ∧ p ∉ a.list) ok1 (en_lst ok1 (ea_nil ok1) (Nat.le_of_ble_eq_true rfl)) (fun G1 H1 p k h => ⟨k.1.th p h, fun z => ?_⟩) fun fl hfl => ?_
  · simp only [LA.list, List.mem_cons, List.not_mem_nil, or_false] at z
    have no : ∀ {b xs}, Mu b xs G1 H1 → p ≠ b := fun m e => by
      obtain ⟨_, vs, e2, _⟩ := m
      rw [← e, h] at e2; cases e2
    rcases z with z | z | z | z | z | z | z | z
    · exact no k.2.m0 z
    · exact no k.2.m1 z
    · exact no k.2.m2 z
    · exact no k.2.m3 z
    · exact no k.2.m4 z
    · exact no k.2.m5 z
    · exact no k.2.m6 z
    · exact no k.2.m7 z
  let S : Addr → Prop := fun b => H b = none
  let Cf : Nat → Hp → Hp → Prop := fun i G1 H1 => Bs No G H G1 H1 ∧ LawAt a (toldBy {} (lines.take i)) G1 H1 ∧ Mu fl ((faultsBy {} 0 (lines.take i)).map faultD) G1 H1
  have okf : ∀ i, Cok (Cf i) := fun i => ⟨fun c => ok.sub c.1, fun c p => ⟨ok.stp c.1 p, c.2.1.stp p fun _ _ z => z, c.2.2.stp p⟩⟩
  have ok2 : Cok (fun G1 H1 => (Bs No G H G1 H1 ∧ LawAt a {} G1 H1) ∧ Mu fl [] G1 H1) := ⟨fun c => ok.sub c.1.1, fun c p => ⟨ok1.stp c.1 p, c.2.stp p⟩⟩
  refine run_seq (run_for (S := S) (idx 0 lines) (fun p => Dt.tup [.int (p.1 : Nat), .str p.2]) (fun p => [(3, .int (p.1 : Nat)), (4, .str p.2)]) Cf (fun _ => [some (.lst (tx lines)), some a.D, some (.obj fl), none, none, none, none]) ok2 okf
    (by rw [← enum_idx]; exact ei_enum (ea_cons ok2 (ev_var ok2 rfl) (ea_nil ok2)))
    (fun _ _ => tg_tup (tgs_cons tg_name (tgs_cons tg_name tgs_nil)) rfl) (fun G1 H1 k => ⟨k.1.1, k.1.2, k.2⟩) (Less.refl _) (fun i y hy Ga Ha ca => ?_) ?_)
  · obtain ⟨k, r⟩ := y
    obtain ⟨hk, hr'⟩ := idx_at lines 0 i (k, r) hy
    rw [Nat.zero_add] at hk
    replace hk : k = i := hk
    replace hr' : lines[i]? = some r := hr'
    subst hk
    have hrm : r ∈ lines := List.mem_of_getElem? hr'
    obtain ⟨hlr, hws⟩ := hlg r hrm
    have ok3 : Cok (In (Cf k) S Ga Ha) := In.ok (okf k)
    have htk : lines.take (k + 1) = lines.take k ++ [r] := take_get hr'
    have hki : k < lines.length := (List.getElem?_eq_some_iff.mp hr').1
    have hlen : (lines.take k).length = k := by rw [List.length_take]; omega
    have hsz : (toldBy {} (lines.take k)).size < 300 := by
      have := toldBy_size (lines.take k) {}
      have e0 : (({} : Told)).size = 0 := rfl
      omega
    have hF : Fit (toldBy {} (lines.take k)) := fit_told _ _ fit_nil (by
      have e0 : (({} : Told)).size = 0 := rfl
      omega)
    have back : ∀ {G1 H1}, Stp S Ga Ha G1 H1 → Bs No G H G1 H1 := fun b => stp_absorb ca.1 b fun p hp => hp
    refine run_set ok3 (d := .lst (tx (wordsOf r))) (EvD.is (EvN.ev ok3 (en_filter1 (Txt.split r " ") Dt.str (fun w => !decide (w = "")) Dt.str ok3 (wordsExpr (b := .non) ok3 (ev_var ok3 rfl) (ev_str ok3) (by omega)) (fun y hy => by walk_at "ev") (fun y hy _ => by walk_at "ev") (by
      have := (split_pieces (x := r) (y := " ") (by decide +kernel) (by decide +kernel)).2
      show _ ≤ 16000000; omega))) rfl) ?_
    cases hw : wordsOf r with
    | nil =>
      have hst : rowStep (toldBy {} (lines.take k)) r = (("" : Str), toldBy {} (lines.take k)) := by unfold rowStep; rw [hw]
      refine run_if (b := false) ok3 (EvT.is (by walk_at "ev") (by simp)) (fun e => by cases e) (fun _ G1 σ1 H1 k1 s1 => ?_)
      refine ⟨G1, k1.2, ⟨k1.1.1, ?_, ?_⟩, s1.less (.keep (.keep (.keep (.gone (.gone (.gone (.keep .nil)))))))⟩
      · rw [htk, toldBy_app]
        show LawAt a (rowStep (toldBy {} (lines.take k)) r).2 _ _
        rw [hst]; exact k1.1.2.1
      · rw [htk, faultsBy_app]
        show Mu fl (List.map faultD (_ ++ (if (rowStep (toldBy {} (lines.take k)) r).1 = "" then faultsBy _ _ [] else _))) _ _
        rw [hst, if_pos rfl]
        show Mu fl (List.map faultD (_ ++ [])) _ _
        rw [List.append_nil]; exact k1.1.2.2
    | cons h ws =>
      have hst : rowStep (toldBy {} (lines.take k)) r = hallRow (toldBy {} (lines.take k)) h ws := by unfold rowStep; rw [hw]
      have hwl : (h :: ws).length ≤ 80001 := by
        have := wordsOf_count r
        rw [hw] at this; omega
      have hok : ∀ w ∈ h :: ws, w ≠ "" ∧ PyData.strOk w = true := fun w hm => by
        rw [← hw] at hm
        exact ⟨wordsOf_ne r w hm, hws w hm⟩
      refine run_if (b := true) ok3 (EvT.is (by walk_at "ev") (by simp)) (fun _ => ?_) (fun e => by cases e)
      refine run_setX (C' := fun G1 H1 => Stp S Ga Ha G1 H1 ∧ LawAt a (rowStep (toldBy {} (lines.take k)) r).2 G1 H1 ∧ Mu fl ((faultsBy {} 0 (lines.take k)).map faultD) G1 H1) (d := .str (rowStep (toldBy {} (lines.take k)) r).1) ok3
        (ea_cons ok3 (ev_var ok3 rfl) (ea_cons ok3 (ev_var ok3 rfl) (ea_nil ok3))) rfl
        (fun G1 H1 k1 => ⟨_, ⟨a, _, h, ws, rfl, k1.1.2.1, hF, hsz, by simp only [List.length_cons] at hwl; omega, hok, rfl⟩, fun G2 H2 d2 po => ⟨po.1.1.gg, ⟨k1.2.trans (po.1.1.mono fun b hb => ha b hb), by rw [hst]; exact po.1.2, k1.1.2.2.stp' po.1.1 hfl.2⟩, by rw [hst]; exact po.2⟩⟩) ?_
      have ok4 : Cok (fun G1 H1 => Stp S Ga Ha G1 H1 ∧ LawAt a (rowStep (toldBy {} (lines.take k)) r).2 G1 H1 ∧ Mu fl ((faultsBy {} 0 (lines.take k)).map faultD) G1 H1) := ⟨fun c => c.1.gh, fun c p => ⟨c.1.trans (Stp.of p), c.2.1.stp p fun _ _ z => z, c.2.2.stp p⟩⟩
      have hfa : faultsBy {} 0 (lines.take (k + 1)) = faultsBy {} 0 (lines.take k) ++ (if (rowStep (toldBy {} (lines.take k)) r).1 = "" then [] else [(k, (rowStep (toldBy {} (lines.take k)) r).1)]) := by
        rw [htk, faultsBy_app, hlen, Nat.zero_add]
        congr 1
      have hta : toldBy {} (lines.take (k + 1)) = (rowStep (toldBy {} (lines.take k)) r).2 := by rw [htk, toldBy_app]; rfl
      refine run_if ok4 (by walk_at "ev") (fun e => ?_) (fun e G1 σ1 H1 k1 s1 => ?_)
      · have e1 : (rowStep (toldBy {} (lines.take k)) r).1 ≠ "" := by simpa using e
        rw [if_neg e1] at hfa
        refine run_append (p := fl) (d := faultD (k, (rowStep (toldBy {} (lines.take k)) r).1)) ok4 (ev_var ok4 rfl) (ev_tup ok4 (ea_cons ok4 (ev_var ok4 rfl) (ea_cons ok4 (ev_var ok4 rfl) (ea_nil ok4))) (Nat.le_of_ble_eq_true rfl)) (fun G1 H1 k1 => k1.2.2) ?_ (fun G1 σ1 H1 k1 s1 H2 mu st => ?_)
        · have hcn : ∀ (xs : List Str) (t : Told) (m : Nat), (faultsBy t m xs).length ≤ xs.length := by
            intro xs
            induction xs with
            | nil => intro t m; exact Nat.le_refl _
            | cons x xs ih =>
              intro t m
              show (if (rowStep t x).1 = "" then faultsBy (rowStep t x).2 (m + 1) xs else (m, (rowStep t x).1) :: faultsBy (rowStep t x).2 (m + 1) xs).length ≤ _
              split
              · exact Nat.le_trans (ih _ _) (by simp)
              · simpa using ih _ _
          rw [List.length_map]
          have := hcn (lines.take k) {} 0
          show _ < 16000000
          omega
        · have st2 : Stp S Ga Ha G1 H2 := k1.1.trans (st.mono fun b hb => by rw [hb]; exact hfl.1)
          refine ⟨G1, st2, ⟨back st2, ?_, ?_⟩, s1.less (.keep (.keep (.keep (.gone (.gone (.gone (.gone .nil)))))))⟩
          · rw [hta]; exact k1.2.1.stp st fun b hb z => hfl.2 (z ▸ hb)
          · rw [hfa, List.map_append]; exact mu
      · have e1 : (rowStep (toldBy {} (lines.take k)) r).1 = "" := by simpa using e
        rw [if_pos e1, List.append_nil] at hfa
        refine ⟨G1, k1.1, ⟨back k1.1, by rw [hta]; exact k1.2.1, by rw [hfa]; exact k1.2.2⟩, s1.less (.keep (.keep (.keep (.gone (.gone (.gone (.gone .nil)))))))⟩
  · have e : (idx 0 lines).length = lines.length := idx_len lines 0
    refine run_nx (run_morph (C' := Bs No G H) (ds' := [some (.lst (tx lines)), some (toldDt (toldBy {} lines)), some (.lst ((faultsBy {} 0 lines).map faultD)), none, none, none, none]) (fun G1 σ1 H1 k1 s1 => ?_) (run_ret ok (ev_tup ok (ea_cons ok (ev_var ok rfl) (ea_cons ok (ev_var ok rfl) (ea_nil ok))) (Nat.le_of_ble_eq_true rfl)) rfl hq))
    rw [e] at k1
    obtain ⟨kb, kl, km⟩ := k1
    rw [List.take_length] at kl km
    have hn : ∀ b ∈ fl :: a.list, H b = none := fun b hb => by
      rcases List.mem_cons.mp hb with rfl | hb
      · exact hfl.1
      · exact ha b hb
    have sm1 := kb.gh
    obtain ⟨x1, hx1, rx1⟩ := s1.get (i := 1) rfl
    obtain ⟨x2, hx2, rx2⟩ := s1.get (i := 2) rfl
    cases rx2
    refine ⟨_, seal_stp (L := fl :: a.list) kb hn, ?_⟩
    have mem : ∀ b ∈ a.list, b ∈ fl :: a.list := fun b hb => List.mem_cons_of_mem _ hb
    have rep1 : Rep (sealL (fl :: a.list) G1 H1) x1 (toldDt (toldBy {} lines)) := by
      cases rx1 with
      | tup et rt =>
        cases rt with
        | cons r0 rt => cases rt with
        | cons r1 rt => cases rt with
        | cons r2 rt => cases rt with
        | cons r3 rt => cases rt with
        | cons r4 rt => cases rt with
        | cons r5 rt => cases rt with
        | cons r6 rt => cases rt with
        | cons r7 rt =>
          cases rt; cases r0; cases r1; cases r2; cases r3; cases r4; cases r5; cases r6; cases r7
          exact .tup (seal_same sm1 _ _ et) (.cons (seal_mu kl.m0 sm1 (mem _ (by simp [LA.list]))) (.cons (seal_mu kl.m1 sm1 (mem _ (by simp [LA.list]))) (.cons (seal_mu kl.m2 sm1 (mem _ (by simp [LA.list]))) (.cons (seal_mu kl.m3 sm1 (mem _ (by simp [LA.list])))
            (.cons (seal_mu kl.m4 sm1 (mem _ (by simp [LA.list]))) (.cons (seal_mu kl.m5 sm1 (mem _ (by simp [LA.list]))) (.cons (seal_mu kl.m6 sm1 (mem _ (by simp [LA.list]))) (.cons (seal_mu kl.m7 sm1 (mem _ (by simp [LA.list]))) .nil))))))))
    exact ((s1.mono (seal_same sm1)).recast rep1 1 hx1).recast (seal_mu km sm1 List.mem_cons_self) 2 hx2
end
end Kx

namespace Kx
open PySem L2
/-! ## isinstance, zip -/
def tyN : Dt → String
  | .non => "NoneType" | .bl _ => "bool" | .int _ => "int" | .str _ => "str" | .lst _ => "list" | .tup _ => "tuple" | .obj _ => "object"
def noObj : Dt → Bool
  | .obj _ => false | _ => true
theorem ty_rep {K : PySem.W.Frag} {G H : Hp} {v : V} {d : Dt} (r : Rep G v d) (h : Same G H) (p : noObj d = true) : TyOf K H v (.type (tyN d)) := by
  cases r with
  | non => exact .non
  | bl b => exact .bl b
  | int i => exact .int i
  | str x _ => exact .str x
  | lst e _ => exact .lst (h _ _ e)
  | tup e _ => exact .tup (h _ _ e)
  | obj a => cases p
theorem ev_isi {C : Hp → Hp → Prop} {ds : List (Option Dt)} {K : PySem.W.Frag} {ta : TE} {d : Dt} {n : String} {b : Bool} (ok : Cok C) (ha : EvD ta C ds d) (p : noObj d = true) (e : kitB (tyN d) n = some b) : EvD (tCB (rIsi K) (tCons ta (tCons (tC (.ty n)) tNil))) C ds (.bl b) := fun G σ H k s Q z =>
  ha G σ H k s _ fun v G1 H1 p1 r1 => ⟨v, .ty n, .type (tyN d), .type n, b, rfl, .ty n, .base (ty_rep r1 p1.gh p), kit_ty e, z _ G1 H1 p1 (.bl b)⟩
theorem pi_zipK {X : Cx} {K : PySem.W.Frag} {e e2 : Expr} {ta : TA} {p pos tpos : Pos} {elts : List Expr} {kk : Nat} (hK : X.K = K) (hg : Gl X "zip") (hm : X.mg "zip" = none) (ha : PA X [e, e2] ta)
    (hs : starEach [e, e2] X.env = (false, eval e X.env) :: starEach [e2] X.env := by rfl) (hpl : (backTo pos (starEach [e2] X.env)).any (·.1) = false := by rfl) :
    PI X (.Tuple elts kk tpos) (.Call (.Name "zip" p) [e, e2] [] pos) (RZ.iZipA K ta) := by
  subst hK
  exact RZ.pi_zipA hg hm ha hs hpl
/-- of two lists (two tuples) of the same data -/
theorem ei_zip {S : Addr → Prop} {C : Hp → Hp → Prop} {ds : List (Option Dt)} {K : PySem.W.Frag} {ta : TA} {b : Dt} {xs : List Dt} (h : EvA ta C ds [b, b]) (hb : b = .lst xs ∨ b = .tup xs) : EvI S (RZ.iZipA K ta) C ds (xs.map fun x => .tup [x, x]) := fun G σ H k s R z => h G σ H k s _ fun vs G1 H1 p1 r1 => by
  cases r1 with
  | cons r1 r2 =>
    cases r2 with
    | cons r2 r3 =>
      cases r3
      rcases hb with rfl | rfl
      · cases r1 with
        | @lst a va _ ea ra =>
          cases r2 with
          | @lst b vb _ eb rb =>
            refine ⟨a, b, va, vb, rfl, .inl ⟨SqL.of (p1.gh _ _ ea), SqL.of (p1.gh _ _ eb), z _ G1 H1 p1 fun i G' H' st => ⟨fun hi => ⟨va, vb, SqL.of (st.gh _ _ (st.gg _ _ ea)), SqL.of (st.gh _ _ (st.gg _ _ eb)), .inl (by rw [ra.length]; rw [List.length_map] at hi; exact hi)⟩, fun d hd => ?_⟩⟩⟩
            rw [List.getElem?_map] at hd
            obtain ⟨x, hx, rfl⟩ := Option.map_eq_some_iff.mp hd
            obtain ⟨u, hu, ru⟩ := ra.get hx
            obtain ⟨u2, hu2, ru2⟩ := rb.get hx
            refine ⟨⟨va, vb, u, u2, SqL.of (st.gh _ _ (st.gg _ _ ea)), SqL.of (st.gh _ _ (st.gg _ _ eb)), hu, hu2⟩, fun v H'' y => ?_⟩
            obtain ⟨T, x1, y1, rfl, hT, rfl, q1, q2⟩ := y
            have e1 := q1 _ (SqL.of (st.gh _ _ (st.gg _ _ ea)))
            have e2 := q2 _ (SqL.of (st.gh _ _ (st.gg _ _ eb)))
            rw [hu] at e1
            rw [hu2] at e2
            cases e1; cases e2
            have pn : Pu G' H' (upd G' T (.tup [u, u2])) (upd H' T (.tup [u, u2])) := Pu.new st.gh hT
            exact ⟨_, pn, .tup upd_same (.cons ((ru.mono st.gg).mono pn.gg) (.cons ((ru2.mono st.gg).mono pn.gg) .nil))⟩
      · cases r1 with
        | @tup a va _ ea ra =>
          cases r2 with
          | @tup b vb _ eb rb =>
            refine ⟨a, b, va, vb, rfl, .inr ⟨SqT.of (p1.gh _ _ ea), SqT.of (p1.gh _ _ eb), z _ G1 H1 p1 fun i G' H' st => ⟨fun hi => ⟨va, vb, SqT.of (st.gh _ _ (st.gg _ _ ea)), SqT.of (st.gh _ _ (st.gg _ _ eb)), .inl (by rw [ra.length]; rw [List.length_map] at hi; exact hi)⟩, fun d hd => ?_⟩⟩⟩
            rw [List.getElem?_map] at hd
            obtain ⟨x, hx, rfl⟩ := Option.map_eq_some_iff.mp hd
            obtain ⟨u, hu, ru⟩ := ra.get hx
            obtain ⟨u2, hu2, ru2⟩ := rb.get hx
            refine ⟨⟨va, vb, u, u2, SqT.of (st.gh _ _ (st.gg _ _ ea)), SqT.of (st.gh _ _ (st.gg _ _ eb)), hu, hu2⟩, fun v H'' y => ?_⟩
            obtain ⟨T, x1, y1, rfl, hT, rfl, q1, q2⟩ := y
            have e1 := q1 _ (SqT.of (st.gh _ _ (st.gg _ _ ea)))
            have e2 := q2 _ (SqT.of (st.gh _ _ (st.gg _ _ eb)))
            rw [hu] at e1
            rw [hu2] at e2
            cases e1; cases e2
            have pn : Pu G' H' (upd G' T (.tup [u, u2])) (upd H' T (.tup [u, u2])) := Pu.new st.gh hT
            exact ⟨_, pn, .tup upd_same (.cons ((ru.mono st.gg).mono pn.gg) (.cons ((ru2.mono st.gg).mono pn.gg) .nil))⟩
/-! ## the law's comparison, of equal data -/
inductive Al : Nat → Dt → Prop
  | bl {n : Nat} (b : Bool) : Al n (.bl b)
  | int {n : Nat} (i : Int) : Al n (.int i)
  | str {n : Nat} (x : Str) : Al n (.str x)
  | lst {n : Nat} {xs : List Dt} (hl : xs.length ≤ Lim) (h : ∀ x ∈ xs, Al n x) : Al (n + 1) (.lst xs)
  | tup {n : Nat} {xs : List Dt} (hl : xs.length ≤ Lim) (h : ∀ x ∈ xs, Al n x) : Al (n + 1) (.tup xs)
theorem Al.up : ∀ {n : Nat} {d : Dt}, Al n d → Al (n + 1) d
  | _, _, .bl b => .bl b
  | _, _, .int i => .int i
  | _, _, .str x => .str x
  | _, _, .lst hl h => .lst hl fun x hx => (h x hx).up
  | _, _, .tup hl h => .tup hl fun x hx => (h x hx).up
section
variable {P : Program} {w : World} {K : PySem.W.Frag} {mg : Str → Option Value} {base : Heap}
local macro_rules | `(tactic| walk_at "ev") => `(tactic| with_reducible first
  | (show EvD _ _ _ _; first
    | exact ev_var (by assumption) rfl
    | exact ev_int (by assumption)
    | exact ev_str (by assumption)
    | exact ev_non (by assumption)
    | exact ev_bl (by assumption)
    | (refine' ev_call (by assumption) ?_ ?_ ?_ <;> (try walk_at "ev"))
    | (refine' ev_op (by assumption) ?_ ?_ ?_ <;> (try walk_at "ev"))
    | (refine' ev_un (by assumption) ?_ rfl <;> (try walk_at "ev"))
    | (refine' ev_andV (by assumption) ?_ (fun _ => ?_) <;> (try walk_at "ev"))
    | (refine' ev_orV (by assumption) ?_ (fun _ => ?_) <;> (try walk_at "ev"))
    | (refine' ev_notV (by assumption) ?_ <;> (try walk_at "ev"))
    | (refine' ev_chain (by assumption) ?_ ?_ ?_ ?_ ?_ <;> (try walk_at "ev"))
    | (refine' ev_cb (by assumption) ?_ ?_ <;> (try walk_at "ev"))
    | (refine' ev_bm (by assumption) ?_ ?_ ?_ <;> (try walk_at "ev"))
    | (refine' ev_m1 (by assumption) ?_ ?_ ?_ <;> (try walk_at "ev"))
    | (refine' ev_sliceS (by assumption) ?_ ?_ ?_ <;> (try walk_at "ev"))
    | (refine' ev_slice (by assumption) ?_ ?_ ?_ <;> (try walk_at "ev"))
    | (refine' ev_tup (by assumption) ?_ ?_ <;> (try walk_at "ev"))
    | (refine' ev_lst (by assumption) ?_ ?_ <;> (try walk_at "ev"))
    | exact ev_h_shapes (by assumption) (by assumption) (by assumption) (ev_var (by assumption) rfl)
    | exact ev_h_marks (by assumption) (by assumption) (by assumption) (ev_var (by assumption) rfl)
    | exact ev_h_points (by assumption) (by assumption) (by assumption) (ev_var (by assumption) rfl)
    | exact ev_h_letters (by assumption) (by assumption) (by assumption) (ev_var (by assumption) rfl)
    | exact ev_h_gaps (by assumption) (by assumption) (by assumption) (ev_var (by assumption) rfl)
    | exact ev_h_classes (by assumption) (by assumption) (by assumption) (ev_var (by assumption) rfl)
    | exact ev_h_features (by assumption) (by assumption) (by assumption) (ev_var (by assumption) rfl)
    | exact ev_h_rules (by assumption) (by assumption) (by assumption) (ev_var (by assumption) rfl)
    | (refine' ev_dinK (by assumption) ?_ ?_ ?_ <;> (try walk_at "ev"))
    | (refine' ev_dniK (by assumption) ?_ ?_ ?_ <;> (try walk_at "ev"))
    | (refine' ev_dinT (by assumption) ?_ ?_ ?_ <;> (try walk_at "ev")))
  | (show EvA _ _ _ _; first
    | exact ea_nil (by assumption)
    | (refine' ea_cons (by assumption) ?_ ?_ <;> (try walk_at "ev")))
  | (show RV _ _ _ _ _; first
    | exact rv_int (by assumption)
    | exact rv_cmp (by assumption)
    | exact rv_eq (by assumption) rfl
    | exact rv_ne (by assumption) rfl
    | exact rv_isN (by assumption) rfl
    | exact rv_notN (by assumption) rfl
    | exact rv_inT (by assumption) (.inl rfl)
    | exact rv_inT (by assumption) (.inr rfl)
    | exact rv_niT (by assumption) (.inl rfl)
    | exact rv_niT (by assumption) (.inr rfl)
    | exact rv_inS (by assumption)
    | exact rv_niS (by assumption)
    | exact rv_ixS (by assumption) (by assumption)
    | exact rv_ixL (by assumption) (by assumption)
    | exact rv_ixT (by assumption) (by assumption)
    | exact rv_ixT (by assumption) rfl
    | exact rv_ixL (by assumption) rfl
    | (refine' rv_inM (by assumption) ?_ <;> (try walk_at "ev"))
    | (refine' rv_niM (by assumption) ?_ <;> (try walk_at "ev"))
    | (refine' rv_inX (by assumption) ?_ (.inl rfl) <;> (try walk_at "ev"))
    | (refine' rv_inX (by assumption) ?_ (.inr rfl) <;> (try walk_at "ev"))
    | (refine' rv_niX (by assumption) ?_ (.inl rfl) <;> (try walk_at "ev"))
    | (refine' rv_niX (by assumption) ?_ (.inr rfl) <;> (try walk_at "ev"))
    | exact rv_in (neg := false) (by assumption) rfl rfl (.inr rfl)
    | exact rv_in (neg := true) (by assumption) rfl rfl (.inr rfl)
    | exact rv_intC (g := fun i j => i % j) (by assumption) (by decide)
    | exact rv_intC (g := fun i j => i / j) (by assumption) (cdiv_ok (by decide)))
  | (show EvT _ _ _ _; first
    | exact et_yes (by assumption)
    | (refine' et_and (by assumption) ?_ (fun _ => ?_) <;> (try walk_at "ev"))
    | (refine' et_or (by assumption) ?_ (fun _ => ?_) <;> (try walk_at "ev"))
    | (refine' et_not ?_ <;> (try walk_at "ev"))
    | (refine' et_test ?_ <;> (try walk_at "ev"))
    | (refine' et_B ?_ <;> (try walk_at "ev")))
  | (show RC _ _ _ _; first
    | exact rc_lenL (by assumption)
    | exact rc_lenT (by assumption)
    | exact rc_lenS (by assumption)
    | exact rc_all (by assumption)
    | exact rc_intB (by assumption)
    | exact rc_strS (by assumption)
    | exact rc_listOf (by assumption) (.inl rfl)
    | exact rc_listOf (by assumption) (.inr rfl)
    | exact rc_tupOf (by assumption)
    | (refine' rc_lenD (by assumption) ?_ <;> (try walk_at "ev"))
    | (refine' rc_lenM (by assumption) ?_ <;> (try walk_at "ev")))
  | (show RM _ _ _ _ _; first
    | exact rm_strip' (by assumption))
  | (show EvO _ _ _ _; first
    | exact eo_none (by assumption)
    | (refine' eo_some ?_ <;> (try walk_at "ev")))
  | (show List.length _ ≤ Lim; with_unfolding_all exact Nat.le_of_ble_eq_true rfl)
  | (show List.length _ = _; with_unfolding_all rfl)
  | exact (fun _ _ _ => ⟨_, rfl, rfl⟩)
  | exact (fun _ _ _ => ⟨_, _, rfl, rfl⟩)
  | exact (fun _ _ _ => ⟨_, _, _, rfl, rfl⟩)
  | exact (fun _ _ _ => ⟨_, rfl, by assumption, rfl⟩)
  | exact hall_s (by assumption)
  | exact hall_m (by assumption)
  | exact hall_p (by assumption)
  | exact hall_l (by assumption)
  | exact hall_g (by assumption)
  | exact hall_c (by assumption)
  | exact hall_f (by assumption)
  | exact hall_r (by assumption)
  | exact TxL.of _
  | exact TxL.nil
  | (refine' TxL.cons ?_ <;> (try walk_at "ev")))


abbrev s_law_alike : Stmt := top 45
abbrev N_law_alike : List Str := ["_law_found", "_law_due", "_law_one", "_law_other"]
abbrev P_law_alike : List Str := ["_law_found", "_law_due"]
theorem sc_law_alike : FnScope N_law_alike P_law_alike (defScope s_law_alike) := ⟨rfl, rfl, rfl, by decide +kernel, rfl, by decide +kernel, by decide +kernel⟩

abbrev SpAl (n : Nat) : Sp := SpF 2 fun _ _ as r => ∃ x, as = [x, x] ∧ Al n x ∧ r = .bl true
def SpAl' : Nat → Sp
  | 0 => fun _ _ _ _ => False
  | n + 1 => SpAl n
theorem alike_step {n k : Nat} (B : Blt mg) (D : Dfn K mg "_law_alike" s_law_alike) (C_law_alike : Cal P w K mg base "_law_alike" k P_law_alike (SpAl' n)) : Cal P w K mg base "_law_alike" (k + 1) P_law_alike (SpAl n) := by
  have sc := sc_law_alike
  refine cal_of D (fun f fd F => fnok F sc fun cdv A outer s H E hr => have hr1 := hr; ⟨_, (pss_cons (ps_if (PW.pt (pw_or (pt_val (pe_callB (r := rIsi K) call_isi (by rfl) B.isinstance_ (by decide +kernel) (pa_cons (pv 1) (pa_cons (pe_bltn (v := .ty "bool") (by rfl) B.bool_ (by decide +kernel) rfl) pa_nil)))) (pw_or1 (pt_val (pe_callB (r := rIsi K) call_isi (by rfl) B.isinstance_ (by decide +kernel) (pa_cons (pv 0) (pa_cons (pe_bltn (v := .ty "bool") (by rfl) B.bool_ (by decide +kernel) rfl) pa_nil))))))) (pss_one (ps_ret (pe_and (pe_callB (r := rIsi K) call_isi (by rfl) B.isinstance_ (by decide +kernel) (pa_cons (pv 1) (pa_cons (pe_bltn (v := .ty "bool") (by rfl) B.bool_ (by decide +kernel) rfl) pa_nil))) (pe_and (pe_callB (r := rIsi K) call_isi (by rfl) B.isinstance_ (by decide +kernel) (pa_cons (pv 0) (pa_cons (pe_bltn (v := .ty "bool") (by rfl) B.bool_ (by decide +kernel) rfl) pa_nil))) (pe_one (pe_cmpR op_eq (pv 0) (pv 1) (nomark _))))))) pss_nil)
      (pss_cons (ps_if (pt_val (pe_callB (r := rIsi K) call_isi (by rfl) B.isinstance_ (by decide +kernel) (pa_cons (pv 1) (pa_cons (pe_bltn (v := .ty "int") (by rfl) B.int_ (by decide +kernel) rfl) pa_nil)))) (pss_one (ps_ret (pe_and (pe_callB (r := rIsi K) call_isi (by rfl) B.isinstance_ (by decide +kernel) (pa_cons (pv 0) (pa_cons (pe_bltn (v := .ty "int") (by rfl) B.int_ (by decide +kernel) rfl) pa_nil))) (pe_one (pe_cmpR op_eq (pv 0) (pv 1) (nomark _)))))) pss_nil)
      (pss_cons (ps_if (pt_val (pe_callB (r := rIsi K) call_isi (by rfl) B.isinstance_ (by decide +kernel) (pa_cons (pv 1) (pa_cons (pe_bltn (v := .ty "str") (by rfl) B.str_ (by decide +kernel) rfl) pa_nil)))) (pss_one (ps_ret (pe_and (pe_callB (r := rIsi K) call_isi (by rfl) B.isinstance_ (by decide +kernel) (pa_cons (pv 0) (pa_cons (pe_bltn (v := .ty "str") (by rfl) B.str_ (by decide +kernel) rfl) pa_nil))) (pe_one (pe_cmpR op_eq (pv 0) (pv 1) (nomark _)))))) pss_nil)
      (pss_cons (ps_if (PW.pt (pw_or (pt_cmpR op_ne (pe_callB (r := rIsi K) call_isi (by rfl) B.isinstance_ (by decide +kernel) (pa_cons (pv 1) (pa_cons (pe_bltn (v := .ty "tuple") (by rfl) B.tuple_ (by decide +kernel) rfl) pa_nil))) (pe_callB (r := rIsi K) call_isi (by rfl) B.isinstance_ (by decide +kernel) (pa_cons (pv 0) (pa_cons (pe_bltn (v := .ty "tuple") (by rfl) B.tuple_ (by decide +kernel) rfl) pa_nil))) (nomark _)) (pw_or1 (pt_cmpR op_ne (pe_callB (r := rIsi K) call_isi (by rfl) B.isinstance_ (by decide +kernel) (pa_cons (pv 1) (pa_cons (pe_bltn (v := .ty "list") (by rfl) B.list_ (by decide +kernel) rfl) pa_nil))) (pe_callB (r := rIsi K) call_isi (by rfl) B.isinstance_ (by decide +kernel) (pa_cons (pv 0) (pa_cons (pe_bltn (v := .ty "list") (by rfl) B.list_ (by decide +kernel) rfl) pa_nil))) (nomark _))))) (pss_one (ps_ret pe_bl)) pss_nil)
      (pss_one (ps_ret (pe_and (pe_cmpR op_eq (pe_callB (r := rLen K) call_lenK (by rfl) B.len_ (by decide +kernel) (pa_cons (pv 0) pa_nil)) (pe_callB (r := rLen K) call_lenK (by rfl) B.len_ (by decide +kernel) (pa_cons (pv 1) pa_nil)) (nomark _)) (pe_one (pe_callB (r := rAll K) (cr_all rfl) (by rfl) B.all_ (by decide +kernel) (pa_cons (pe_lc (own := [("_law_one", 2), ("_law_other", 3)]) (by rfl) sc.nd (pi_zipK (K := K) rfl (by rfl) B.zip_ (pa_cons (pv 0) (pa_cons (pv 1) pa_nil))) (blkOk_by (N := N_law_alike) (sc := defScope s_law_alike) (by decide +kernel)) (fun _ _ _ _ _ => (pg_tupK (K := K) (n := 2) rfl rfl (pgs_cons (pg_name (i := 2) sc.nd rfl (Or.inl rfl)) (pgs_cons (pg_name (i := 3) sc.nd rfl (Or.inl rfl)) pgs_nil)))) (fun _ _ _ _ _ => pts_nil) (fun _ _ _ _ _ => (pe_callC C_law_alike hr1 rfl (pa_cons (pv 2) (pa_cons (pv 3) pa_nil))))) pa_nil)))))))))), fun G as r D hl sm hp hq hx => ?_⟩) (fun _ _ _ _ _ _ us hl => match us, hl with | [_, _], _ => rfl)
  obtain ⟨x, rfl, al, rfl⟩ := hp
  have ok : Cok (Bs No G H) := Bs.ok
  cases al with
  | bl b =>
    exact run_take ok (et_orT (et_B (ev_isi (b := true) ok (ev_var ok rfl) rfl (by show kitB "bool" _ = _; decide +kernel)))) (run_ret ok (ev_andV (p := true) (q := true) ok (ev_isi ok (ev_var ok rfl) rfl (by show kitB "bool" _ = _; decide +kernel)) (fun _ => ev_andV (p := true) (q := true) ok (ev_isi ok (ev_var ok rfl) rfl (by show kitB "bool" _ = _; decide +kernel)) (fun _ => EvD.is (ev_op ok (ev_var ok rfl) (ev_var ok rfl) (rv_eq ok rfl)) (by rw [decide_eq_true rfl])))) rfl hq)
  | int i =>
    refine run_skip ok (et_orF ok (et_B (ev_isi ok (ev_var ok rfl) rfl (by show kitB "int" _ = _; decide +kernel))) (et_B (ev_isi ok (ev_var ok rfl) rfl (by show kitB "int" _ = _; decide +kernel)))) ?_
    exact run_take ok (et_B (ev_isi (b := true) ok (ev_var ok rfl) rfl (by show kitB "int" _ = _; decide +kernel))) (run_ret ok (ev_andV (p := true) (q := true) ok (ev_isi ok (ev_var ok rfl) rfl (by show kitB "int" _ = _; decide +kernel)) (fun _ => EvD.is (ev_op ok (ev_var ok rfl) (ev_var ok rfl) (rv_eq ok rfl)) (by rw [decide_eq_true rfl]))) rfl hq)
  | str y =>
    refine run_skip ok (et_orF ok (et_B (ev_isi ok (ev_var ok rfl) rfl (by show kitB "str" _ = _; decide +kernel))) (et_B (ev_isi ok (ev_var ok rfl) rfl (by show kitB "str" _ = _; decide +kernel)))) ?_
    refine run_skip ok (et_B (ev_isi ok (ev_var ok rfl) rfl (by show kitB "str" _ = _; decide +kernel))) ?_
    exact run_take ok (et_B (ev_isi (b := true) ok (ev_var ok rfl) rfl (by show kitB "str" _ = _; decide +kernel))) (run_ret ok (ev_andV (p := true) (q := true) ok (ev_isi ok (ev_var ok rfl) rfl (by show kitB "str" _ = _; decide +kernel)) (fun _ => EvD.is (ev_op ok (ev_var ok rfl) (ev_var ok rfl) (rv_eq ok rfl)) (by rw [decide_eq_true rfl]))) rfl hq)
  | @lst m xs hl' h =>
    refine run_skip ok (et_orF ok (et_B (ev_isi ok (ev_var ok rfl) rfl (by show kitB "list" _ = _; decide +kernel))) (et_B (ev_isi ok (ev_var ok rfl) rfl (by show kitB "list" _ = _; decide +kernel)))) ?_
    refine run_skip ok (et_B (ev_isi ok (ev_var ok rfl) rfl (by show kitB "list" _ = _; decide +kernel))) ?_
    refine run_skip ok (et_B (ev_isi ok (ev_var ok rfl) rfl (by show kitB "list" _ = _; decide +kernel))) ?_
    refine run_skip ok (et_orF ok (EvT.is (et_test (ev_op ok (ev_isi (b := false) ok (ev_var ok rfl) rfl (by show kitB "list" _ = _; decide +kernel)) (ev_isi (b := false) ok (ev_var ok rfl) rfl (by show kitB "list" _ = _; decide +kernel)) (rv_ne ok rfl))) rfl) (EvT.is (et_test (ev_op ok (ev_isi (b := true) ok (ev_var ok rfl) rfl (by show kitB "list" _ = _; decide +kernel)) (ev_isi (b := true) ok (ev_var ok rfl) rfl (by show kitB "list" _ = _; decide +kernel)) (rv_ne ok rfl))) rfl)) ?_
    refine run_ret ok (ev_andV (p := true) (q := true) ok (EvD.is (ev_op ok (by walk_at "ev") (by walk_at "ev") (rv_eq ok rfl)) (by rw [decide_eq_true rfl])) (fun _ => ev_cb ok (ea_cons ok (EvN.ev ok (en_map xs (fun y => Dt.tup [y, y]) (fun y => [(2, y), (3, y)]) (fun _ => Dt.bl true) ok (ei_zip (ea_cons ok (ev_var ok rfl) (ea_cons ok (ev_var ok rfl) (ea_nil ok))) (.inl rfl)) (fun _ _ => tg_tup (tgs_cons tg_name (tgs_cons tg_name tgs_nil)) rfl) (fun _ _ i hi => by simpa using hi)
      (fun y hy => ev_call ok (ea_cons ok (ev_var ok rfl) (ea_cons ok (ev_var ok rfl) (ea_nil ok))) rfl (fun _ _ _ => ⟨y, rfl, h y hy, rfl⟩)) hl')) (ea_nil ok)) (RC.is2 (rc_all (bs := xs.map fun _ => true) ok) (by rw [List.map_map]; rfl) (show _ = Dt.bl true by rw [List.all_map]; congr 1; exact List.all_eq_true.mpr fun _ _ => rfl)))) rfl hq
  | @tup m xs hl' h =>
    refine run_skip ok (et_orF ok (et_B (ev_isi ok (ev_var ok rfl) rfl (by show kitB "tuple" _ = _; decide +kernel))) (et_B (ev_isi ok (ev_var ok rfl) rfl (by show kitB "tuple" _ = _; decide +kernel)))) ?_
    refine run_skip ok (et_B (ev_isi ok (ev_var ok rfl) rfl (by show kitB "tuple" _ = _; decide +kernel))) ?_
    refine run_skip ok (et_B (ev_isi ok (ev_var ok rfl) rfl (by show kitB "tuple" _ = _; decide +kernel))) ?_
    refine run_skip ok (et_orF ok (EvT.is (et_test (ev_op ok (ev_isi (b := true) ok (ev_var ok rfl) rfl (by show kitB "tuple" _ = _; decide +kernel)) (ev_isi (b := true) ok (ev_var ok rfl) rfl (by show kitB "tuple" _ = _; decide +kernel)) (rv_ne ok rfl))) rfl) (EvT.is (et_test (ev_op ok (ev_isi (b := false) ok (ev_var ok rfl) rfl (by show kitB "tuple" _ = _; decide +kernel)) (ev_isi (b := false) ok (ev_var ok rfl) rfl (by show kitB "tuple" _ = _; decide +kernel)) (rv_ne ok rfl))) rfl)) ?_
    refine run_ret ok (ev_andV (p := true) (q := true) ok (EvD.is (ev_op ok (by walk_at "ev") (by walk_at "ev") (rv_eq ok rfl)) (by rw [decide_eq_true rfl])) (fun _ => ev_cb ok (ea_cons ok (EvN.ev ok (en_map xs (fun y => Dt.tup [y, y]) (fun y => [(2, y), (3, y)]) (fun _ => Dt.bl true) ok (ei_zip (ea_cons ok (ev_var ok rfl) (ea_cons ok (ev_var ok rfl) (ea_nil ok))) (.inr rfl)) (fun _ _ => tg_tup (tgs_cons tg_name (tgs_cons tg_name tgs_nil)) rfl) (fun _ _ i hi => by simpa using hi)
      (fun y hy => ev_call ok (ea_cons ok (ev_var ok rfl) (ea_cons ok (ev_var ok rfl) (ea_nil ok))) rfl (fun _ _ _ => ⟨y, rfl, h y hy, rfl⟩)) hl')) (ea_nil ok)) (RC.is2 (rc_all (bs := xs.map fun _ => true) ok) (by rw [List.map_map]; rfl) (show _ = Dt.bl true by rw [List.all_map]; congr 1; exact List.all_eq_true.mpr fun _ _ => rfl)))) rfl hq
theorem cal_law_alike (B : Blt mg) (D : Dfn K mg "_law_alike" s_law_alike) : ∀ n : Nat, Cal P w K mg base "_law_alike" (n + 1) P_law_alike (SpAl n)
  | 0 => alike_step (n := 0) (k := 0) B D (by
    obtain ⟨f, fd, hm, F⟩ := D.ex
    exact ⟨f, fd, ⟨fun _ _ _ _ h => h.elim, fun _ _ _ _ _ _ _ _ _ _ _ _ _ h => h.elim⟩, hm, F.kp, F.binds (fun _ _ _ _ _ _ us hl => match us, hl with | [_, _], _ => rfl)⟩)
  | n + 1 => alike_step B D (cal_law_alike B D n)
end
end Kx

namespace Kx
open PySem PySem.Spec PyProof.Rows L2
/-! ## items() of a dict whose keys are tuples -/
theorem pairedAt {α β : Type} {F : α → β → Prop} : ∀ {xs : List α} {ys : List β}, Paired F xs ys → ∀ {i : Nat} {x : α}, xs[i]? = some x → ∃ y, ys[i]? = some y ∧ F x y
  | _, _, .nil, i, x, h => by cases h
  | _, _, .cons r t, 0, x, h => ⟨_, rfl, by have e := Option.some.inj h; subst e; exact r⟩
  | _, _, .cons r t, i + 1, x, h => pairedAt t h
/-- the raw entries of a dict with tuple keys -/
theorem rawT {P : Program} {w : World} {H : Hp} {h : Heap} {d : Addr} {kvs : List (List Key × V)} (ok : ObjOk P w H h d (.dT kvs)) :
    (d == sysModules) = false ∧ kvs.length ≤ sizeLine ∧ ∃ es ep, h.DictRaw d es ep ∧ es.size = kvs.length ∧ ∀ (i : Nat) (k : List Key) (v : V), kvs[i]? = some (k, v) → ∀ hi : i < es.size, ∃ q : Addr, es[i].key = .ref q ∧ H q = some (.tup (k.map kV)) ∧ RelV v es[i].val := by
  obtain ⟨hz, hs, xs, pr, o, es, ep, ho, hx, hdt, he, _⟩ := ok
  refine ⟨hs, hz, es, ep, ⟨o, ho, hx, hdt⟩, ?_, fun i k v hk hi => ?_⟩
  · have l1 : es.size = xs.length := size_of_entries he
    have l2 : kvs.length = xs.length := Paired.length pr
    omega
  · obtain ⟨b, hb, e1, e2, e3⟩ := pairedAt pr hk
    have q := entry_at he i
    rw [hb, Array.getElem?_eq_getElem hi] at q
    have q' := Option.some.inj q
    refine ⟨b.2.1, by rw [q']; rfl, e2, ?_⟩
    rw [q']; exact e3
def ItiT (d : Addr) (o : Obj) (kvs : List (List Key × V)) : It :=
  ⟨fun i H => H d = some (.frz o (.dT kvs)) ∧ i < kvs.length, fun i H x H' => ∃ T k v q, kvs[i]? = some (k, v) ∧ x = .ref T ∧ H T = none ∧ H q = some (.tup (k.map kV)) ∧ H' = upd H T (.tup [.ref q, v]), fun i H => H d = some (.frz o (.dT kvs)) ∧ kvs.length ≤ i⟩
theorem frz_at {P : Program} {w : World} {H : Hp} {h : Heap} {d : Addr} {o : Obj} {u : HO} (ok : HOk P w H h) (e : H d = some (.frz o u)) : h.get? d = some o ∧ ObjOk P w H h d u := ok d _ e
theorem turn_itT {P : Program} {w : World} {K : PySem.W.Frag} {o : Obj} {d : Addr} {es : Array DictEntry} {ep : Nat} {kvs : List (List Key × V)} {elts : List Expr} {kk : Nat} {tpos : Pos} (it : Addr) (hod : o.data = .dict es ep) :
    Turn P w K (.Tuple elts kk tpos) (ItiT d o kvs) [it] it (fun i h => ∃ ok ov, IsItemIter h it d i es.size ep ok ov) where
  mem := by simp
  obj := fun i h st b hb => by
    obtain ⟨ok, ov, e⟩ := st
    rw [show b = it by simpa using hb]
    exact ⟨_, e, fun v z => nomatch z⟩
  keep := fun i h h' st k => by
    obtain ⟨ok, ov, e⟩ := st
    exact ⟨ok, ov, k it (by simp) _ e⟩
  item := by
    intro X hP hw hK hc i pins s σ H E I hf st hg
    subst hP hw hK
    obtain ⟨hd, hi⟩ := hg
    obtain ⟨hgd, okd⟩ := frz_at I.hok hd
    obtain ⟨hs, hz, es', ep', raw, hsz, ent⟩ := rawT okd
    obtain ⟨o', g1, g2, g3⟩ := id raw
    rw [hgd] at g1
    cases g1
    obtain ⟨rfl, rfl⟩ := dict_ep hod g3
    obtain ⟨⟨k, v⟩, hkv⟩ : ∃ p, kvs[i]? = some p := ⟨kvs[i], List.getElem?_eq_getElem hi⟩
    have hie : i < es'.size := by omega
    obtain ⟨q, hq1, hq2, hq3⟩ := ent i k v hkv hie
    obtain ⟨ok, ov, he⟩ := st
    have hlt : it < s.heap.objs.size := Heap.lt_size he
    refine wpAny_pyNext_items_item_raw he raw hie fun h' ho hT _ hk => ?_
    refine ⟨_, rfl, wpAny_letOwnedTupleGo_items (s := { s with heap := h' }) ho fun h'' he' sb => ?_⟩
    have hT2 : h''.get? s.heap.objs.size = some { cls := .type "tuple", data := .seq #[es'[i].key, es'[i].val] } := (sb.2 _ (Nat.ne_of_gt hlt)).trans hT
    have new : ObjOk X.prog X.w (upd H s.heap.objs.size (.tup [.ref q, v])) h'' s.heap.objs.size (.tup [.ref q, v]) :=
      ⟨by show 2 ≤ sizeLine; decide, [es'[i].key, es'[i].val], .cons (by rw [hq1]; rfl) (.cons hq3 .nil), ⟨_, hT2, rfl, _, rfl⟩⟩
    have I1 : Inv X pins σ (upd H s.heap.objs.size (.tup [.ref q, v])) { s with heap := h'' } :=
      I.turnedNew (t' := s.toks) (ch := [it]) (fun b ob hb e => (sb.2 b (by simpa using hb)).trans (hk b ob (by simpa using hb) e)) hf (Nat.le_refl _) new
    refine ⟨.ref s.heap.objs.size, _, I1, rfl, ⟨_, k, v, q, hkv, rfl, I.hok.fresh (Nat.le_refl _), hq2, rfl⟩, ⟨_, _, he'⟩, fun b hb => ?_⟩
    rw [show b = it by simpa using hb, upd_ne (Nat.ne_of_lt hlt)]
    exact (hf it (by simp)).1
  done := by
    intro X hP hw hK hc i pins s σ H E I hf st hg
    subst hP hw hK
    obtain ⟨hd, hi⟩ := hg
    obtain ⟨f0, f1, f2, f3, f4, f5⟩ := hf it (by simp)
    obtain ⟨hgd, okd⟩ := frz_at I.hok hd
    obtain ⟨hs, hz, es', ep', raw, hsz, ent⟩ := rawT okd
    obtain ⟨o', g1, g2, g3⟩ := id raw
    rw [hgd] at g1
    cases g1
    obtain ⟨rfl, rfl⟩ := dict_ep hod g3
    obtain ⟨ok, ov, he⟩ := st
    exact wpAny_pyNext_items_end_raw (I.ok.hd hc) he raw (by omega) fun h' eb => ⟨rfl, I.turned (t' := s.toks) (fun b ob hb e => eb b ob hb e) f0 f1 f3 f4 f5⟩
  self := fun A i s Q E st h => by
    obtain ⟨_, _, e⟩ := st
    exact PySem.W.kcp_self e h
def iItemsT (td : TE) : TI := fun σ H R => td σ H fun x H1 => ∃ d o kvs, x = .ref d ∧ H1 d = some (.frz o (.dT kvs)) ∧ R (ItiT d o kvs) H1
section
variable {X : Cx} {e : Expr} {td : TE} {apos cpos : Pos}
theorem pi_itemsT {elts : List Expr} {kk : Nat} {tpos : Pos} (he : PE X e td) (hbase : attributeBase e "items" X.env (eval e X.env) = eval e X.env := by rfl) (hline : (apos.endLine == cpos.line) = true := by rfl) :
    PI X (.Tuple elts kk tpos) (.Call (.Attribute e "items" apos) [] [] cpos) (iItemsT td) := by
  refine ⟨fun pins s σ H R I h => wpAny_Call_method (T := "dict") (id := "dict.items") hbase rfl hline F.plainAttrs_dict F.slot_dict_items F.type_dict_items (thn (he.run pins s σ H _ I h) fun u s1 ⟨x, H1, I1, rx, d, o, kvs, ex, hd, q⟩ => ?_)⟩
  subst ex
  obtain rfl : u = Value.ref d := rx
  obtain ⟨hgd, okd⟩ := frz_at I1.hok hd
  obtain ⟨hs, hz, es, ep, raw, hsz, ent⟩ := rawT okd
  obtain ⟨o', g1, g2, g3⟩ := id raw
  rw [hgd] at g1
  cases g1
  refine ⟨raw.typeIs, fun b hb => by cases hb; exact ⟨_, hgd, g2.2.1⟩, ?_⟩
  have I2 : Inv X pins σ H1 { s1 with heap := s1.heap.push { cls := .type "dict_items", data := .fields #[.ref d] } } := I1.kept (t' := s1.toks) fun b ob q => Heap.get?_push_of_some _ q
  have go : wpAny (model X.prog X.w) X.A (pyIter (.ref s1.heap.objs.size)) (PIE X pins σ (.Tuple elts kk tpos) R) X.xe { s1 with heap := s1.heap.push { cls := .type "dict_items", data := .fields #[.ref d] } } := by
    refine wpAny_pyIter_items_raw (d := d) ⟨_, Heap.get?_push_size _ rfl, rfl, rfl⟩ (raw.at fun o q => Heap.get?_push_of_some _ q) (pi_one (tk := s1.toks) I2 _ (turn_itT _ g3) ⟨.none, .none, ?_⟩ q)
    exact Heap.get?_push_size _ rfl
  show wpAny _ _ (callWith cpos (.builtin "dict.items") [.ref d] [] []) _ X.xe s1
  exact method_meetsIn F.slot_dict_items F.entry_dict_items rfl (PySem.evalArgs_none ⟨rfl, raw.typeIs, F.args_dict_items_1 _, _, meets_dict_items_raw d hs, ⟨es, ep, raw⟩, go⟩)
end
end Kx

namespace Kx
open PySem PySem.Spec PyProof.Rows L2
/-! ## list(d.items()) of a dict whose keys are tuples -/
def putR : Hp → List Addr → List (List V) → Hp
  | H, a :: as, r :: rs => putR (upd H a (.tup r)) as rs
  | H, _, _ => H
theorem putR_off {b : Addr} : ∀ (as : List Addr) (rs : List (List V)) (H : Hp), b ∉ as → putR H as rs b = H b
  | [], _, _, _ => rfl
  | _ :: _, [], _, _ => rfl
  | a :: as, r :: rs, H, h => by
    show putR (upd H a (.tup r)) as rs b = H b
    rw [putR_off as rs _ (fun z => h (List.mem_cons_of_mem _ z)), upd_ne (fun z => h (by rw [z]; exact List.mem_cons_self))]
theorem putR_at : ∀ (as : List Addr) (rs : List (List V)) (H : Hp), as.length = rs.length → as.Nodup → Paired (fun (t : Addr) (r : List V) => putR H as rs t = some (.tup r)) as rs
  | [], [], _, _, _ => .nil
  | [], _ :: _, _, h, _ => by cases h
  | _ :: _, [], _, h, _ => by cases h
  | a :: as, r :: rs, H, h, hn => by
    have hn' := List.nodup_cons.mp hn
    refine .cons ?_ (putR_at as rs (upd H a (.tup r)) (Nat.succ.inj h) hn'.2)
    show putR (upd H a (.tup r)) as rs a = some (.tup r)
    rw [putR_off as rs _ hn'.1, upd_same]
theorem refsV : ∀ as : List Addr, Vals (as.map V.ref) (as.map Value.ref)
  | [] => .nil
  | _ :: as => .cons rfl (refsV as)
theorem pairedMem {α β : Type} {F : α → β → Prop} : ∀ {xs : List α} {ys : List β}, Paired F xs ys → ∀ {x : α}, x ∈ xs → ∃ (j : Nat) (y : β), xs[j]? = some x ∧ ys[j]? = some y ∧ F x y
  | _, _, .cons h t, x, hx => by
    rcases List.mem_cons.mp hx with e | hx
    · rw [e]; exact ⟨0, _, rfl, rfl, h⟩
    · obtain ⟨j, y, e1, e2, e3⟩ := pairedMem t hx
      exact ⟨j + 1, y, e1, e2, e3⟩
section
variable {X : Cx} {e : Expr} {te : TE} {p apos cpos pos : Pos}
theorem rowsLaid {pins : List (Addr × Obj)} {σ : L2.St} {H : Hp} {s : Shared} {h' : Heap} {tk : Nat} {rs : List (List V)} {acc : Array Value} {c : Nat} {as : List Addr} (I : Inv X pins σ H s) (hz : rs.length ≤ sizeLine)
    (hk : ∀ b o, s.heap.get? b = some o → h'.get? b = some o) (hS : h'.get? s.heap.objs.size = some { cls := .type "list", dict := none, data := .seq acc c, slots := #[] }) (hl : as.length = rs.length) (rise : as.Pairwise (· < ·)) (above : ∀ a ∈ as, s.heap.objs.size < a)
    (each : ∀ (j : Nat) a r, as[j]? = some a → rs[j]? = some r → r.length ≤ sizeLine ∧ ∃ its, Vals r its ∧ IsTup h' a its.toArray) (hacc : acc.toList = as.map Value.ref) :
    ∃ H' : Hp, (∀ b o, H b = some o → H' b = some o) ∧ H s.heap.objs.size = none ∧ (∀ t ∈ as, H t = none) ∧ s.heap.objs.size ∉ as ∧ H' s.heap.objs.size = some (.lst (as.map V.ref)) ∧ Paired (fun (t : Addr) (r : List V) => H' t = some (.tup r)) as rs ∧ as.Nodup ∧
      (∀ b, H b = none → b ∉ as → b ≠ s.heap.objs.size → H' b = none) ∧ Inv X pins σ H' { s with heap := h', toks := tk } := by
  have hSn : s.heap.objs.size ∉ as := fun z => Nat.lt_irrefl _ (above _ z)
  have nd : as.Nodup := List.Pairwise.imp (fun {a b} (h : a < b) => Nat.ne_of_lt h) rise
  have new : ∀ t ∈ as, H t = none := fun t ht => I.hok.fresh (Nat.le_of_lt (above t ht))
  have newS : H s.heap.objs.size = none := I.hok.fresh (Nat.le_refl _)
  have atP := putR_at as rs (upd H s.heap.objs.size (.lst (as.map V.ref))) hl nd
  have off : ∀ b, b ∉ as → b ≠ s.heap.objs.size → putR (upd H s.heap.objs.size (.lst (as.map V.ref))) as rs b = H b := fun b h1 h2 => by rw [putR_off as rs _ h1, upd_ne h2]
  have kp : ∀ b u, H b = some u → putR (upd H s.heap.objs.size (.lst (as.map V.ref))) as rs b = some u := fun b u e => by
    rw [off b (fun z => by rw [new b z] at e; cases e) (fun z => by rw [z, newS] at e; cases e)]; exact e
  have eS : putR (upd H s.heap.objs.size (.lst (as.map V.ref))) as rs s.heap.objs.size = some (.lst (as.map V.ref)) := by rw [putR_off as rs _ hSn, upd_same]
  refine ⟨_, kp, newS, new, hSn, eS, atP, nd, fun b n h1 h2 => by rw [off b h1 h2]; exact n, ?_⟩
  refine I.call' (ch := []) rfl ⟨fun b o q _ _ _ => hk b o q, fun b o q _ _ _ => ⟨o.slots, hk b o q⟩, fun b o q n _ => ?_, fun b o q _ => ⟨o, hk b o q⟩, fun b xs q => kp b _ q, fun b o u q => kp b _ q, fun b ps q => ⟨#[], by rw [kp b _ q]; simp⟩⟩ (fun b u q => ?_) I.bare fun b z => by simp at z
  · rw [off b (fun z => absurd (Heap.lt_size q) (Nat.not_lt.mpr (Nat.le_of_lt (above b z)))) (Nat.ne_of_lt (Heap.lt_size q))]; exact n
  · by_cases hb : b ∈ as
    · obtain ⟨j, r, e1, e2, e3⟩ := pairedMem atP hb
      rw [e3] at q
      cases q
      exact each j b r e1 e2
    · by_cases hb2 : b = s.heap.objs.size
      · rw [hb2] at q ⊢
        rw [eS] at q
        cases q
        refine ⟨by rw [List.length_map]; omega, acc.toList, c, by rw [hacc]; exact refsV as, ?_⟩
        rw [Array.toArray_toList]; exact hS
      · rw [off b hb hb2] at q
        exact (I.hok b u q).stay (fun d v _ y => hk d v y) (fun d y => kp d _ y) fun d xs y => kp d _ y
def rItemsT : V → Hp → VK → Prop := fun x H Q => ∃ (d : Addr) (kvs : List (List Key × V)), x = .ref d ∧ H d = some (.dT kvs) ∧
  ∀ (H' : Hp) (p : Addr) (ts : List Addr) (rs : List (List V)), (∀ b o, H b = some o → H' b = some o) → H p = none → (∀ t ∈ ts, H t = none) → p ∉ ts → H' p = some (.lst (ts.map V.ref)) → Paired (fun (t : Addr) (r : List V) => H' t = some (.tup r)) ts rs → rs.length = kvs.length →
    (∀ (j : Nat) k v, kvs[j]? = some (k, v) → ∃ q : Addr, rs[j]? = some [.ref q, v] ∧ H q = some (.tup (k.map kV))) → ts.Nodup → (∀ b, H b = none → b ∉ ts → b ≠ p → H' b = none) → Q (.ref p) H'
def tListItemsT (te : TE) : TE := fun σ H Q => te σ H fun x H1 => rItemsT x H1 Q
theorem chooseRows {H : Hp} : ∀ (kvs : List (List Key × V)) (es : List DictEntry), es.length = kvs.length → (∀ (i : Nat) k v en, kvs[i]? = some (k, v) → es[i]? = some en → ∃ q : Addr, en.key = .ref q ∧ H q = some (.tup (k.map kV)) ∧ RelV v en.val) →
    ∃ rs : List (List V), rs.length = kvs.length ∧ (∀ (j : Nat) k v, kvs[j]? = some (k, v) → ∃ q : Addr, rs[j]? = some [.ref q, v] ∧ H q = some (.tup (k.map kV))) ∧ ∀ (j : Nat) r en, rs[j]? = some r → es[j]? = some en → Vals r [en.key, en.val] ∧ r.length = 2
  | [], es, hl, _ => ⟨[], rfl, fun j k v h => by simp at h, fun j r en h => by simp at h⟩
  | _ :: _, [], hl, _ => by cases hl
  | (k, v) :: kvs, en :: es, hl, h => by
    obtain ⟨rs, h1, h2, h3⟩ := chooseRows kvs es (Nat.succ.inj hl) fun i k v en a b => h (i + 1) k v en a b
    obtain ⟨q, q1, q2, q3⟩ := h 0 k v en rfl rfl
    refine ⟨[.ref q, v] :: rs, by rw [List.length_cons, List.length_cons, h1], fun j k' v' e => ?_, fun j r en' e1 e2 => ?_⟩
    · cases j with
      | zero => cases e; exact ⟨q, rfl, q2⟩
      | succ j => exact h2 j k' v' e
    · cases j with
      | zero => cases e1; cases e2; exact ⟨.cons (by rw [q1]; rfl) (.cons q3 .nil), rfl⟩
      | succ j => exact h3 j r en' e1 e2
theorem pe_listItemsT (hc : X.calm = true) (he : PE X e te) (hg : Gl X "list") (hm : X.mg "list" = none) (hv : bootBuiltins "list" = some (.type "list")) (hbase : attributeBase e "items" X.env (eval e X.env) = eval e X.env := by rfl) (hline : (apos.endLine == cpos.line) = true := by rfl)
    (hs : starEach [.Call (.Attribute e "items" apos) [] [] cpos] X.env = (false, eval (.Call (.Attribute e "items" apos) [] [] cpos) X.env) :: starEach [] X.env := by rfl) :
    PE X (.Call (.Name "list" p) [.Call (.Attribute e "items" apos) [] [] cpos] [] pos) (tListItemsT te) := by
  refine ⟨fun pins s σ H Q I hq => wpAny_Call_Name_kw (ld_blt I hg hm hv (PyProof.Rows.callWith_type1 ?_ hs rfl))⟩
  rw [hs]
  show wpAny _ _ (spliced ((false, eval (.Call (.Attribute e "items" apos) [] [] cpos) X.env) :: backTo pos (starEach [] X.env))) _ _ s
  refine Calls.spliced_cons (wpAny_Call_method (T := "dict") (id := "dict.items") hbase rfl hline F.plainAttrs_dict F.slot_dict_items F.type_dict_items (thn (he.run pins s σ H _ I hq) fun u s1 ⟨x, H1, I1, rx, d, kvs, ex, hd, q⟩ => ?_))
  subst ex
  obtain rfl : u = Value.ref d := rx
  obtain ⟨hs0, hz, es, ep, raw, hsz, ent⟩ := rawT (I1.hok d _ hd)
  obtain ⟨o', g1, g2, g3⟩ := id raw
  have I2 : Inv X pins σ H1 { s1 with heap := s1.heap.push { cls := .type "dict_items", data := .fields #[.ref d] } } := I1.kept (t' := s1.toks) fun b ob q => Heap.get?_push_of_some _ q
  refine ⟨raw.typeIs, fun b hb => by cases hb; exact ⟨_, g1, g2.2.1⟩, ?_⟩
  show wpAny _ _ (callWith cpos (.builtin "dict.items") [.ref d] [] []) _ X.xe s1
  refine method_meetsIn F.slot_dict_items F.entry_dict_items rfl (PySem.evalArgs_none ⟨rfl, raw.typeIs, F.args_dict_items_1 _, _, meets_dict_items_raw d hs0, ⟨es, ep, raw⟩, ?_⟩)
  refine Calls.spliced_nil ?_
  refine PySem.W.dil_call (es := es) (ep := ep) (I1.ok.hd hc) ⟨_, Heap.get?_push_size _ rfl, rfl, rfl⟩ (raw.at fun o q => Heap.get?_push_of_some _ q) (by omega) fun h' tk acc c as hk hS hl hG hacc => ?_
  obtain ⟨rs, r1, r2, r3⟩ := chooseRows (H := H1) kvs es.toList (by simpa using hsz) fun i k v en a b => by
    have hi : i < es.size := by
      have := (List.getElem?_eq_some_iff.mp a).1
      omega
    have eb : es[i] = en := by
      have := (List.getElem?_eq_some_iff.mp b).2
      simpa using this
    rw [← eb]
    exact ent i k v a hi
  obtain ⟨H', k1, k2, k3, k4, k5, k6, k7, k8, J⟩ := rowsLaid (tk := tk) (rs := rs) I2 (by omega) hk hS (by omega) hG.rise hG.above (fun j a r e1 e2 => by
    obtain ⟨hj, hget⟩ := hG.pairs j a e1
    obtain ⟨v1, v2⟩ := r3 j r es[j] e2 (by simp [hj])
    exact ⟨by rw [v2, sizeLine_eq]; decide, _, v1, ⟨_, hget, rfl, _, rfl⟩⟩) hacc
  exact ⟨.ref _, H', J, rfl, q H' _ as rs k1 k2 k3 k4 k5 k6 r1 r2 k7 k8⟩
end
end Kx

namespace Kx
open PySem L2
/-! ## list(d.items()) -/
theorem keep_puT {G H H' : Hp} {L : List Addr} (sub : Same G H) (keep : ∀ b o, H b = some o → H' b = some o) (n : ∀ b ∈ L, H b = none ∨ ∃ xs, H b = some (.tup xs)) : Pu G H (sealL L G H') H' :=
  ⟨seal_same fun b o e => keep b o (sub b o e), seal_gh fun b o e => keep b o (sub b o e), fun b o _ e => keep b o e, fun b e => (by
    cases z : H b with
    | none => rfl
    | some o => rw [keep b o z] at e; cases e), fun b o e g => by
    unfold sealL; split
    · rename_i hb
      rcases n b hb with h | ⟨xs, h⟩
      · rw [h] at e; cases e
      · exact .inr ⟨xs, keep b _ h⟩
    · exact .inl g⟩
theorem keep_pu {G H H' : Hp} {L : List Addr} (sub : Same G H) (keep : ∀ b o, H b = some o → H' b = some o) (n : ∀ b ∈ L, H b = none) : Pu G H (sealL L G H') H' := keep_puT sub keep fun b hb => .inl (n b hb)
theorem seal_in {G H : Hp} {L : List Addr} {b : Addr} {o : HO} (hb : b ∈ L) (e : H b = some o) : sealL L G H b = some o := by unfold sealL; rw [if_pos hb]; exact e
section
variable {C : Hp → Hp → Prop} {ds : List (Option Dt)} {ta : TE} {p : Addr}
theorem rep_rows {G : Hp} : ∀ {ts : List Addr} {kvs : List (Key × V)} {xs : List (Str × Dt)}, RK G kvs xs → (∀ q ∈ xs, q.1.length ≤ Lim) → Paired (fun (t : Addr) (q : Key × V) => G t = some (.tup [kV q.1, q.2])) ts kvs → RepA G (ts.map V.ref) (xs.map fun q => .tup [.str q.1, q.2])
  | _, _, _, .nil, _, .nil => .nil
  | _, _, _, .cons h r, hk, .cons e t => .cons (.tup e (.cons (.str _ (hk _ List.mem_cons_self)) (.cons h .nil))) (rep_rows r (fun q hq => hk q (List.mem_cons_of_mem _ hq)) t)
theorem pairedMono {α β : Type} {F F' : α → β → Prop} (h : ∀ a b, F a b → F' a b) : ∀ {xs : List α} {ys : List β}, Paired F xs ys → Paired F' xs ys
  | _, _, .nil => .nil
  | _, _, .cons r t => .cons (h _ _ r) (pairedMono h t)
theorem pairedIn {β : Type} {F F' : Addr → β → Prop} {L : List Addr} (h : ∀ a b, a ∈ L → F a b → F' a b) : ∀ {xs : List Addr} {ys : List β}, (∀ a ∈ xs, a ∈ L) → Paired F xs ys → Paired F' xs ys
  | _, _, _, .nil => .nil
  | _, _, m, .cons r t => .cons (h _ _ (m _ List.mem_cons_self) r) (pairedIn h (fun a ha => m a (List.mem_cons_of_mem _ ha)) t)
theorem ev_itemsK {xs : List (Str × Dt)} (ok : Cok C) (h : EvD ta C ds (.obj p)) (hf : ∀ G H, C G H → DK p xs G H) (hk : ∀ q ∈ xs, q.1.length ≤ Lim) : EvD (LiI.tListItems ta) C ds (.lst (xs.map fun q => .tup [.str q.1, q.2])) := fun G σ H k s Q z =>
  h G σ H k s _ fun v G1 H1 p1 r1 => by
    cases r1
    obtain ⟨n, kvs, e, r⟩ := hf G1 H1 (ok.stp k p1)
    refine ⟨p, kvs, rfl, e, fun H' l ts keep hl hts hlt el pr => ?_⟩
    have hn : ∀ b ∈ l :: ts, H1 b = none := fun b hb => by
      rcases List.mem_cons.mp hb with rfl | hb
      · exact hl
      · exact hts b hb
    have st := keep_pu (L := l :: ts) p1.gh keep hn
    refine z _ _ H' (p1.trans st) (.lst (seal_in List.mem_cons_self el) ?_)
    exact rep_rows (r.mono st.gg) hk (pairedIn (L := l :: ts) (fun a b ha e => seal_in ha e) (fun a ha => List.mem_cons_of_mem _ ha) pr)
theorem rep_rowsT {G : Hp} : ∀ {ts : List Addr} {rs : List (List V)} {kvs : List (List Key × V)} {xs : List (List Str × Dt)}, RT G kvs xs → (∀ q ∈ xs, ∀ x ∈ q.1, x.length ≤ Lim) → Paired (fun (t : Addr) (r : List V) => G t = some (.tup r)) ts rs → rs.length = kvs.length →
    (∀ (j : Nat) k v, kvs[j]? = some (k, v) → ∃ q : Addr, rs[j]? = some [.ref q, v] ∧ G q = some (.tup (k.map kV))) → RepA G (ts.map V.ref) (xs.map fun q => .tup [.tup (tx q.1), q.2])
  | _, _, _, _, .nil, _, .nil, _, _ => .nil
  | _, _, _, _, .cons _ _, _, .nil, h, _ => by cases h
  | _, _, _, _, .nil, _, .cons _ _, h, _ => by cases h
  | _, _, _, _, .cons (k := k) h r, hk, .cons e t, hl, hq => by
    obtain ⟨q, q1, q2⟩ := hq 0 _ _ rfl
    have q1' := Option.some.inj q1
    subst q1'
    refine .cons (.tup e (.cons ?_ (.cons h .nil))) (rep_rowsT r (fun q hq' => hk q (List.mem_cons_of_mem _ hq')) t (Nat.succ.inj hl) fun j k v a => hq (j + 1) k v a)
    have e2 : (List.map Sum.inr k : List Key).map kV = k.map V.str := by rw [List.map_map]; rfl
    rw [e2] at q2
    exact .tup q2 (RepA.ofStrs (hk _ List.mem_cons_self))
theorem ev_itemsT {xs : List (List Str × Dt)} (ok : Cok C) (h : EvD ta C ds (.obj p)) (hf : ∀ G H, C G H → DT p xs G H) (hk : ∀ q ∈ xs, ∀ x ∈ q.1, x.length ≤ Lim) : EvD (tListItemsT ta) C ds (.lst (xs.map fun q => .tup [.tup (tx q.1), q.2])) := fun G σ H k s Q z =>
  h G σ H k s _ fun v G1 H1 p1 r1 => by
    cases r1
    obtain ⟨n, kvs, e, r⟩ := hf G1 H1 (ok.stp k p1)
    refine ⟨p, kvs, rfl, e, fun H' l ts rs keep hl hts hlt el pr rl rq nd hno => ?_⟩
    let qs : List Addr := rs.filterMap fun r => match r with
      | .ref q :: _ => some q
      | _ => none
    have hqs : ∀ q ∈ qs, ∃ xs, H1 q = some (.tup xs) := fun q hq => by
      obtain ⟨r, hr, e1⟩ := List.mem_filterMap.mp hq
      obtain ⟨j, hj⟩ := List.getElem?_of_mem hr
      have hjl : j < kvs.length := by rw [← rl]; exact (List.getElem?_eq_some_iff.mp hj).1
      obtain ⟨q', q1, q2⟩ := rq j kvs[j].1 kvs[j].2 (List.getElem?_eq_getElem hjl)
      rw [hj] at q1
      cases q1
      cases e1
      exact ⟨_, q2⟩
    have st := keep_puT (L := l :: (ts ++ qs)) p1.gh keep (fun b hb => by
      rcases List.mem_cons.mp hb with rfl | hb
      · exact .inl hl
      · rcases List.mem_append.mp hb with hb | hb
        · exact .inl (hts b hb)
        · exact .inr (hqs b hb))
    refine z _ _ H' (p1.trans st) (.lst (seal_in List.mem_cons_self el) ?_)
    refine rep_rowsT (r.mono st.gg) hk (pairedIn (L := l :: (ts ++ qs)) (fun a b ha e => seal_in ha e) (fun a ha => List.mem_cons_of_mem _ (List.mem_append_left _ ha)) pr) rl fun j k v hj => ?_
    obtain ⟨q, q1, q2⟩ := rq j k v hj
    refine ⟨q, q1, seal_in (List.mem_cons_of_mem _ (List.mem_append_right _ ?_)) (keep _ _ q2)⟩
    exact List.mem_filterMap.mpr ⟨_, List.mem_of_getElem? q1, rfl⟩
end
section
variable {P : Program} {w : World} {K : PySem.W.Frag} {mg : Str → Option Value} {base : Heap}
local macro_rules | `(tactic| walk_at "ev") => `(tactic| with_reducible first
  | (show EvD _ _ _ _; first
    | exact ev_var (by assumption) rfl
    | exact ev_int (by assumption)
    | exact ev_str (by assumption)
    | exact ev_non (by assumption)
    | exact ev_bl (by assumption)
    | (refine' ev_call (by assumption) ?_ ?_ ?_ <;> (try walk_at "ev"))
    | (refine' ev_op (by assumption) ?_ ?_ ?_ <;> (try walk_at "ev"))
    | (refine' ev_un (by assumption) ?_ rfl <;> (try walk_at "ev"))
    | (refine' ev_andV (by assumption) ?_ (fun _ => ?_) <;> (try walk_at "ev"))
    | (refine' ev_orV (by assumption) ?_ (fun _ => ?_) <;> (try walk_at "ev"))
    | (refine' ev_notV (by assumption) ?_ <;> (try walk_at "ev"))
    | (refine' ev_chain (by assumption) ?_ ?_ ?_ ?_ ?_ <;> (try walk_at "ev"))
    | (refine' ev_cb (by assumption) ?_ ?_ <;> (try walk_at "ev"))
    | (refine' ev_bm (by assumption) ?_ ?_ ?_ <;> (try walk_at "ev"))
    | (refine' ev_m1 (by assumption) ?_ ?_ ?_ <;> (try walk_at "ev"))
    | (refine' ev_sliceS (by assumption) ?_ ?_ ?_ <;> (try walk_at "ev"))
    | (refine' ev_slice (by assumption) ?_ ?_ ?_ <;> (try walk_at "ev"))
    | (refine' ev_tup (by assumption) ?_ ?_ <;> (try walk_at "ev"))
    | (refine' ev_lst (by assumption) ?_ ?_ <;> (try walk_at "ev"))
    | exact ev_h_shapes (by assumption) (by assumption) (by assumption) (ev_var (by assumption) rfl)
    | exact ev_h_marks (by assumption) (by assumption) (by assumption) (ev_var (by assumption) rfl)
    | exact ev_h_points (by assumption) (by assumption) (by assumption) (ev_var (by assumption) rfl)
    | exact ev_h_letters (by assumption) (by assumption) (by assumption) (ev_var (by assumption) rfl)
    | exact ev_h_gaps (by assumption) (by assumption) (by assumption) (ev_var (by assumption) rfl)
    | exact ev_h_classes (by assumption) (by assumption) (by assumption) (ev_var (by assumption) rfl)
    | exact ev_h_features (by assumption) (by assumption) (by assumption) (ev_var (by assumption) rfl)
    | exact ev_h_rules (by assumption) (by assumption) (by assumption) (ev_var (by assumption) rfl)
    | (refine' ev_dinK (by assumption) ?_ ?_ ?_ <;> (try walk_at "ev"))
    | (refine' ev_dniK (by assumption) ?_ ?_ ?_ <;> (try walk_at "ev"))
    | (refine' ev_dinT (by assumption) ?_ ?_ ?_ <;> (try walk_at "ev")))
  | (show EvA _ _ _ _; first
    | exact ea_nil (by assumption)
    | (refine' ea_cons (by assumption) ?_ ?_ <;> (try walk_at "ev")))
  | (show RV _ _ _ _ _; first
    | exact rv_int (by assumption)
    | exact rv_cmp (by assumption)
    | exact rv_eq (by assumption) rfl
    | exact rv_ne (by assumption) rfl
    | exact rv_isN (by assumption) rfl
    | exact rv_notN (by assumption) rfl
    | exact rv_inT (by assumption) (.inl rfl)
    | exact rv_inT (by assumption) (.inr rfl)
    | exact rv_niT (by assumption) (.inl rfl)
    | exact rv_niT (by assumption) (.inr rfl)
    | exact rv_inS (by assumption)
    | exact rv_niS (by assumption)
    | exact rv_ixS (by assumption) (by assumption)
    | exact rv_ixL (by assumption) (by assumption)
    | exact rv_ixT (by assumption) (by assumption)
    | exact rv_ixT (by assumption) rfl
    | exact rv_ixL (by assumption) rfl
    | (refine' rv_inM (by assumption) ?_ <;> (try walk_at "ev"))
    | (refine' rv_niM (by assumption) ?_ <;> (try walk_at "ev"))
    | (refine' rv_inX (by assumption) ?_ (.inl rfl) <;> (try walk_at "ev"))
    | (refine' rv_inX (by assumption) ?_ (.inr rfl) <;> (try walk_at "ev"))
    | (refine' rv_niX (by assumption) ?_ (.inl rfl) <;> (try walk_at "ev"))
    | (refine' rv_niX (by assumption) ?_ (.inr rfl) <;> (try walk_at "ev"))
    | exact rv_in (neg := false) (by assumption) rfl rfl (.inr rfl)
    | exact rv_in (neg := true) (by assumption) rfl rfl (.inr rfl)
    | exact rv_intC (g := fun i j => i % j) (by assumption) (by decide)
    | exact rv_intC (g := fun i j => i / j) (by assumption) (cdiv_ok (by decide)))
  | (show EvT _ _ _ _; first
    | exact et_yes (by assumption)
    | (refine' et_and (by assumption) ?_ (fun _ => ?_) <;> (try walk_at "ev"))
    | (refine' et_or (by assumption) ?_ (fun _ => ?_) <;> (try walk_at "ev"))
    | (refine' et_not ?_ <;> (try walk_at "ev"))
    | (refine' et_test ?_ <;> (try walk_at "ev"))
    | (refine' et_B ?_ <;> (try walk_at "ev")))
  | (show RC _ _ _ _; first
    | exact rc_lenL (by assumption)
    | exact rc_lenT (by assumption)
    | exact rc_lenS (by assumption)
    | exact rc_all (by assumption)
    | exact rc_intB (by assumption)
    | exact rc_strS (by assumption)
    | exact rc_listOf (by assumption) (.inl rfl)
    | exact rc_listOf (by assumption) (.inr rfl)
    | exact rc_tupOf (by assumption)
    | (refine' rc_lenD (by assumption) ?_ <;> (try walk_at "ev"))
    | (refine' rc_lenM (by assumption) ?_ <;> (try walk_at "ev")))
  | (show RM _ _ _ _ _; first
    | exact rm_strip' (by assumption))
  | (show EvO _ _ _ _; first
    | exact eo_none (by assumption)
    | (refine' eo_some ?_ <;> (try walk_at "ev")))
  | (show List.length _ ≤ Lim; with_unfolding_all exact Nat.le_of_ble_eq_true rfl)
  | (show List.length _ = _; with_unfolding_all rfl)
  | exact (fun _ _ _ => ⟨_, rfl, rfl⟩)
  | exact (fun _ _ _ => ⟨_, _, rfl, rfl⟩)
  | exact (fun _ _ _ => ⟨_, _, _, rfl, rfl⟩)
  | exact (fun _ _ _ => ⟨_, rfl, by assumption, rfl⟩)
  | exact hall_s (by assumption)
  | exact hall_m (by assumption)
  | exact hall_p (by assumption)
  | exact hall_l (by assumption)
  | exact hall_g (by assumption)
  | exact hall_c (by assumption)
  | exact hall_f (by assumption)
  | exact hall_r (by assumption)
  | exact TxL.of _
  | exact TxL.nil
  | (refine' TxL.cons ?_ <;> (try walk_at "ev")))


abbrev s_law_dict_is : Stmt := top 46
abbrev N_law_dict_is : List Str := ["_law_found", "_law_due"]
abbrev P_law_dict_is : List Str := ["_law_found", "_law_due"]
theorem sc_law_dict_is : FnScope N_law_dict_is P_law_dict_is (defScope s_law_dict_is) := ⟨rfl, rfl, rfl, by decide +kernel, rfl, by decide +kernel, by decide +kernel⟩

abbrev spDictK (n : Nat) : Sp := SpF 2 fun G H as r => ∃ (p : Addr) (xs : List (Str × Dt)) (d : Dt), as = [.obj p, d] ∧ d = .lst (xs.map fun q => .tup [.str q.1, q.2]) ∧ DK p xs G H ∧ (∀ q ∈ xs, q.1.length ≤ Lim) ∧ Al n d ∧ r = .bl true
abbrev spDictT (n : Nat) : Sp := SpF 2 fun G H as r => ∃ (p : Addr) (xs : List (List Str × Dt)) (d : Dt), as = [.obj p, d] ∧ d = .lst (xs.map fun q => .tup [.tup (tx q.1), q.2]) ∧ DT p xs G H ∧ (∀ q ∈ xs, ∀ x ∈ q.1, x.length ≤ Lim) ∧ Al n d ∧ r = .bl true
theorem ev_isDictK {C : Hp → Hp → Prop} {ds : List (Option Dt)} {ta : TE} {p : Addr} {xs : List (Str × Dt)} (ok : Cok C) (ha : EvD ta C ds (.obj p)) (hf : ∀ G H, C G H → DK p xs G H) : EvD (tCB (rIsi K) (tCons ta (tCons (tC (.ty "dict")) tNil))) C ds (.bl true) := fun G σ H k s Q z =>
  ha G σ H k s _ fun v G1 H1 p1 r1 => by
    cases r1
    obtain ⟨_, kvs, e, _⟩ := hf G1 H1 (ok.stp k p1)
    exact ⟨_, .ty "dict", .type "dict", .type "dict", true, rfl, .ty _, .base (.dK e), kit_ty (by decide +kernel), z _ G1 H1 p1 (.bl true)⟩
theorem ev_isDictT {C : Hp → Hp → Prop} {ds : List (Option Dt)} {ta : TE} {p : Addr} {xs : List (List Str × Dt)} (ok : Cok C) (ha : EvD ta C ds (.obj p)) (hf : ∀ G H, C G H → DT p xs G H) : EvD (tCB (rIsi K) (tCons ta (tCons (tC (.ty "dict")) tNil))) C ds (.bl true) := fun G σ H k s Q z =>
  ha G σ H k s _ fun v G1 H1 p1 r1 => by
    cases r1
    obtain ⟨_, kvs, e, _⟩ := hf G1 H1 (ok.stp k p1)
    exact ⟨_, .ty "dict", .type "dict", .type "dict", true, rfl, .ty _, .base (.dT e), kit_ty (by decide +kernel), z _ G1 H1 p1 (.bl true)⟩
theorem cal_law_dict_isK {n : Nat} (B : Blt mg) (D : Dfn K mg "_law_dict_is" s_law_dict_is) (C_law_alike : Cal P w K mg base "_law_alike" (n + 1) P_law_alike (SpAl n)) : Cal P w K mg base "_law_dict_is" (n + 2) P_law_dict_is (spDictK n) := by
  have sc := sc_law_dict_is
  refine cal_of D (fun f fd F => fnok F sc fun cdv A outer s H E hr => have hr1 := hr; ⟨_, (pss_one (ps_ret (pe_and (pe_callB (r := rIsi K) call_isi (by rfl) B.isinstance_ (by decide +kernel) (pa_cons (pv 0) (pa_cons (pe_bltn (v := .ty "dict") (by rfl) B.dict_ (by decide +kernel) rfl) pa_nil))) (pe_one (pe_callC C_law_alike hr1 rfl (pa_cons (LiI.pe_listItems rfl (pv 0) (by rfl) B.list_ (by decide +kernel)) (pa_cons (pv 1) pa_nil))))))), fun G as r D hl sm hp hq hx => ?_⟩) (fun _ _ _ _ _ _ us hl => match us, hl with | [_, _], _ => rfl)
  obtain ⟨p, xs, d, rfl, hd, hdk, hk, al, rfl⟩ := hp
  have ok : Cok (Bs No G H) := Bs.ok
  have hf : ∀ G1 H1, Bs No G H G1 H1 → DK p xs G1 H1 := fun G1 H1 c => hdk.stp c fun z => z
  refine run_ret ok (ev_andV (p := true) (q := true) ok (ev_isDictK ok (ev_var ok rfl) hf) (fun _ => ev_call ok (ea_cons ok (EvD.is (ev_itemsK ok (ev_var ok rfl) hf hk) hd.symm) (ea_cons ok (ev_var ok rfl) (ea_nil ok))) rfl (fun _ _ _ => ⟨d, rfl, al, rfl⟩))) rfl hq
theorem cal_law_dict_isT {n : Nat} (B : Blt mg) (D : Dfn K mg "_law_dict_is" s_law_dict_is) (C_law_alike : Cal P w K mg base "_law_alike" (n + 1) P_law_alike (SpAl n)) : Cal P w K mg base "_law_dict_is" (n + 2) P_law_dict_is (spDictT n) := by
  have sc := sc_law_dict_is
  refine cal_of D (fun f fd F => fnok F sc fun cdv A outer s H E hr => have hr1 := hr; ⟨_, (pss_one (ps_ret (pe_and (pe_callB (r := rIsi K) call_isi (by rfl) B.isinstance_ (by decide +kernel) (pa_cons (pv 0) (pa_cons (pe_bltn (v := .ty "dict") (by rfl) B.dict_ (by decide +kernel) rfl) pa_nil))) (pe_one (pe_callC C_law_alike hr1 rfl (pa_cons (pe_listItemsT rfl (pv 0) (by rfl) B.list_ (by decide +kernel)) (pa_cons (pv 1) pa_nil))))))), fun G as r D hl sm hp hq hx => ?_⟩) (fun _ _ _ _ _ _ us hl => match us, hl with | [_, _], _ => rfl)
  obtain ⟨p, xs, d, rfl, hd, hdk, hk, al, rfl⟩ := hp
  have ok : Cok (Bs No G H) := Bs.ok
  have hf : ∀ G1 H1, Bs No G H G1 H1 → DT p xs G1 H1 := fun G1 H1 c => hdk.stp c fun z => z
  refine run_ret ok (ev_andV (p := true) (q := true) ok (ev_isDictT ok (ev_var ok rfl) hf) (fun _ => ev_call ok (ea_cons ok (EvD.is (ev_itemsT ok (ev_var ok rfl) hf hk) hd.symm) (ea_cons ok (ev_var ok rfl) (ea_nil ok))) rfl (fun _ _ _ => ⟨d, rfl, al, rfl⟩))) rfl hq
end
end Kx

namespace Kx
open PySem L2
/-- what isinstance(.., Hall) asks -/
structure HallI (K : PySem.W.Frag) (cl : Addr) : Prop where
  ha : PySem.W.findIn K (.ref cl) "__class__" = some (some (.builtin "object.__class__"))
  hn : PySem.W.specialIn K (.builtin "object.__class__") "__get__" = some (some (.builtin "getset_descriptor.__get__"))
  ht : PySem.W.takesIn K (.builtin "object.__class__") = some true
  hm : PySem.W.mroIn K cl (.type "object") = some true
  me : PySem.W.kitOne K (.ref cl) (.ref cl) = some true
theorem al_pt (p : Pt) : Al 1 (ptD p) := .tup (Nat.le_of_ble_eq_true rfl) fun x hx => by
  simp only [List.mem_cons, List.not_mem_nil, or_false] at hx
  rcases hx with rfl | rfl <;> exact .int _
theorem al_tx {n : Nat} (l : List Str) : ∀ x ∈ tx l, Al n x := fun x hx => by
  obtain ⟨y, _, rfl⟩ := List.mem_map.mp hx
  exact .str y
section
variable {C : Hp → Hp → Prop} {ds : List (Option Dt)} {K : PySem.W.Frag} {ta : TE} {tl' : TA} {p cl : Addr} {E : XK}
theorem ev_alikeM {n : Nat} {xs : List Dt} (ok : Cok C) (ha : EvA tl' C ds [.obj p, .lst xs]) (hm : ∀ G H, C G H → Mu p xs G H) (al : Al n (.lst xs)) : EvD (tCall (SpAl n) [] E tl') C ds (.bl true) := fun G σ H k s Q z =>
  ha G σ H k s _ fun vs G1 H1 p1 r1 => by
    obtain ⟨_, ws, e, rw⟩ := hm G1 H1 (ok.stp k p1)
    cases r1 with
    | cons r1 r2 =>
      cases r1
      cases r2 with
      | cons r2 r3 =>
        cases r3
        refine ⟨H1, [.lst xs, .lst xs], .bl true, Same.refl _, .cons (.lst e (rw.mono p1.gh)) (.cons (r2.mono p1.gh) .nil), rfl, ⟨_, rfl, al, rfl⟩, fun v G2 H2 p2 r2 => ?_⟩
        cases r2
        exact z _ G1 H2 (p1.trans ⟨Same.refl _, p1.gh.trans (Pu.hs p2), p2.hh, p2.th, fun _ _ _ g => .inl g⟩) (.bl true)
theorem ev_isHall {a : HA} {t : Told} (ok : Cok C) (HK : HallK K cl) (HI : HallI K cl) (ha : EvD ta C ds (.obj a.x)) (hh : ∀ G H, C G H → HallAt cl a t G H) : EvD (tCB (rIsi K) (tCons ta (tCons (tC (.ref cl)) tNil))) C ds (.bl true) := fun G σ H k s Q z =>
  ha G σ H k s _ fun v G1 H1 p1 r1 => by
    cases r1
    have c := ok.stp k p1
    exact ⟨_, .ref cl, .ref cl, .ref cl, true, rfl, .own cl, .base (.ins (ok.sub c _ _ (hh G1 H1 c).ins) HK.c HI.ha HI.hn HI.ht HI.hm), HI.me, z _ G1 H1 p1 (.bl true)⟩
end
section
variable {P : Program} {w : World} {K : PySem.W.Frag} {mg : Str → Option Value} {base : Heap} {cl : Addr}
local macro_rules | `(tactic| walk_at "ev") => `(tactic| with_reducible first
  | (show EvD _ _ _ _; first
    | exact ev_var (by assumption) rfl
    | exact ev_int (by assumption)
    | exact ev_str (by assumption)
    | exact ev_non (by assumption)
    | exact ev_bl (by assumption)
    | (refine' ev_call (by assumption) ?_ ?_ ?_ <;> (try walk_at "ev"))
    | (refine' ev_op (by assumption) ?_ ?_ ?_ <;> (try walk_at "ev"))
    | (refine' ev_un (by assumption) ?_ rfl <;> (try walk_at "ev"))
    | (refine' ev_andV (by assumption) ?_ (fun _ => ?_) <;> (try walk_at "ev"))
    | (refine' ev_orV (by assumption) ?_ (fun _ => ?_) <;> (try walk_at "ev"))
    | (refine' ev_notV (by assumption) ?_ <;> (try walk_at "ev"))
    | (refine' ev_chain (by assumption) ?_ ?_ ?_ ?_ ?_ <;> (try walk_at "ev"))
    | (refine' ev_cb (by assumption) ?_ ?_ <;> (try walk_at "ev"))
    | (refine' ev_bm (by assumption) ?_ ?_ ?_ <;> (try walk_at "ev"))
    | (refine' ev_m1 (by assumption) ?_ ?_ ?_ <;> (try walk_at "ev"))
    | (refine' ev_sliceS (by assumption) ?_ ?_ ?_ <;> (try walk_at "ev"))
    | (refine' ev_slice (by assumption) ?_ ?_ ?_ <;> (try walk_at "ev"))
    | (refine' ev_tup (by assumption) ?_ ?_ <;> (try walk_at "ev"))
    | (refine' ev_lst (by assumption) ?_ ?_ <;> (try walk_at "ev"))
    | exact ev_h_shapes (by assumption) (by assumption) (by assumption) (ev_var (by assumption) rfl)
    | exact ev_h_marks (by assumption) (by assumption) (by assumption) (ev_var (by assumption) rfl)
    | exact ev_h_points (by assumption) (by assumption) (by assumption) (ev_var (by assumption) rfl)
    | exact ev_h_letters (by assumption) (by assumption) (by assumption) (ev_var (by assumption) rfl)
    | exact ev_h_gaps (by assumption) (by assumption) (by assumption) (ev_var (by assumption) rfl)
    | exact ev_h_classes (by assumption) (by assumption) (by assumption) (ev_var (by assumption) rfl)
    | exact ev_h_features (by assumption) (by assumption) (by assumption) (ev_var (by assumption) rfl)
    | exact ev_h_rules (by assumption) (by assumption) (by assumption) (ev_var (by assumption) rfl)
    | (refine' ev_dinK (by assumption) ?_ ?_ ?_ <;> (try walk_at "ev"))
    | (refine' ev_dniK (by assumption) ?_ ?_ ?_ <;> (try walk_at "ev"))
    | (refine' ev_dinT (by assumption) ?_ ?_ ?_ <;> (try walk_at "ev")))
  | (show EvA _ _ _ _; first
    | exact ea_nil (by assumption)
    | (refine' ea_cons (by assumption) ?_ ?_ <;> (try walk_at "ev")))
  | (show RV _ _ _ _ _; first
    | exact rv_int (by assumption)
    | exact rv_cmp (by assumption)
    | exact rv_eq (by assumption) rfl
    | exact rv_ne (by assumption) rfl
    | exact rv_isN (by assumption) rfl
    | exact rv_notN (by assumption) rfl
    | exact rv_inT (by assumption) (.inl rfl)
    | exact rv_inT (by assumption) (.inr rfl)
    | exact rv_niT (by assumption) (.inl rfl)
    | exact rv_niT (by assumption) (.inr rfl)
    | exact rv_inS (by assumption)
    | exact rv_niS (by assumption)
    | exact rv_ixS (by assumption) (by assumption)
    | exact rv_ixL (by assumption) (by assumption)
    | exact rv_ixT (by assumption) (by assumption)
    | exact rv_ixT (by assumption) rfl
    | exact rv_ixL (by assumption) rfl
    | (refine' rv_inM (by assumption) ?_ <;> (try walk_at "ev"))
    | (refine' rv_niM (by assumption) ?_ <;> (try walk_at "ev"))
    | (refine' rv_inX (by assumption) ?_ (.inl rfl) <;> (try walk_at "ev"))
    | (refine' rv_inX (by assumption) ?_ (.inr rfl) <;> (try walk_at "ev"))
    | (refine' rv_niX (by assumption) ?_ (.inl rfl) <;> (try walk_at "ev"))
    | (refine' rv_niX (by assumption) ?_ (.inr rfl) <;> (try walk_at "ev"))
    | exact rv_in (neg := false) (by assumption) rfl rfl (.inr rfl)
    | exact rv_in (neg := true) (by assumption) rfl rfl (.inr rfl)
    | exact rv_intC (g := fun i j => i % j) (by assumption) (by decide)
    | exact rv_intC (g := fun i j => i / j) (by assumption) (cdiv_ok (by decide)))
  | (show EvT _ _ _ _; first
    | exact et_yes (by assumption)
    | (refine' et_and (by assumption) ?_ (fun _ => ?_) <;> (try walk_at "ev"))
    | (refine' et_or (by assumption) ?_ (fun _ => ?_) <;> (try walk_at "ev"))
    | (refine' et_not ?_ <;> (try walk_at "ev"))
    | (refine' et_test ?_ <;> (try walk_at "ev"))
    | (refine' et_B ?_ <;> (try walk_at "ev")))
  | (show RC _ _ _ _; first
    | exact rc_lenL (by assumption)
    | exact rc_lenT (by assumption)
    | exact rc_lenS (by assumption)
    | exact rc_all (by assumption)
    | exact rc_intB (by assumption)
    | exact rc_strS (by assumption)
    | exact rc_listOf (by assumption) (.inl rfl)
    | exact rc_listOf (by assumption) (.inr rfl)
    | exact rc_tupOf (by assumption)
    | (refine' rc_lenD (by assumption) ?_ <;> (try walk_at "ev"))
    | (refine' rc_lenM (by assumption) ?_ <;> (try walk_at "ev")))
  | (show RM _ _ _ _ _; first
    | exact rm_strip' (by assumption))
  | (show EvO _ _ _ _; first
    | exact eo_none (by assumption)
    | (refine' eo_some ?_ <;> (try walk_at "ev")))
  | (show List.length _ ≤ Lim; with_unfolding_all exact Nat.le_of_ble_eq_true rfl)
  | (show List.length _ = _; with_unfolding_all rfl)
  | exact (fun _ _ _ => ⟨_, rfl, rfl⟩)
  | exact (fun _ _ _ => ⟨_, _, rfl, rfl⟩)
  | exact (fun _ _ _ => ⟨_, _, _, rfl, rfl⟩)
  | exact (fun _ _ _ => ⟨_, rfl, by assumption, rfl⟩)
  | exact hall_s (by assumption)
  | exact hall_m (by assumption)
  | exact hall_p (by assumption)
  | exact hall_l (by assumption)
  | exact hall_g (by assumption)
  | exact hall_c (by assumption)
  | exact hall_f (by assumption)
  | exact hall_r (by assumption)
  | exact TxL.of _
  | exact TxL.nil
  | (refine' TxL.cons ?_ <;> (try walk_at "ev")))


abbrev s_law_hall_is : Stmt := top 47
abbrev N_law_hall_is : List Str := ["_law_hall", "_law_h", "_law_name", "_law_side", "_law_own", "_law_past", "_law_spot", "_law_join", "_law_way", "_law_faces"]
abbrev P_law_hall_is : List Str := ["_law_hall", "_law_h"]
theorem sc_law_hall_is : FnScope N_law_hall_is P_law_hall_is (defScope s_law_hall_is) := ⟨rfl, rfl, rfl, by decide +kernel, rfl, by decide +kernel, by decide +kernel⟩

abbrev spHallIs (cl : Addr) : Sp := SpF 2 fun G H as r => ∃ a t, as = [.obj a.x, toldDt t] ∧ HallAt cl a t G H ∧ Fit t ∧ t.size ≤ 1000 ∧ r = .bl true
theorem cal_law_hall_is (B : Blt mg) (HK : HallK K cl) (HI : HallI K cl) (gH : mg "Hall" = some (.ref cl)) (D : Dfn K mg "_law_hall_is" s_law_hall_is) (C_law_alike : Cal P w K mg base "_law_alike" 5 P_law_alike (SpAl 4)) (C_law_dict_isK : Cal P w K mg base "_law_dict_is" 6 P_law_dict_is (spDictK 4)) (C_law_dict_isT : Cal P w K mg base "_law_dict_is" 6 P_law_dict_is (spDictT 4)) :
    Cal P w K mg base "_law_hall_is" 7 P_law_hall_is (spHallIs cl) := by
  have sc := sc_law_hall_is
  replace C_law_alike := C_law_alike.mono (k := 6) (by decide)
  refine cal_of D (fun f fd F => fnok F sc fun cdv A outer s H E hr => have hr1 := hr; ⟨_, (pss_cons (ps_if (PW.pt (pw_or (pt_not (pt_val (pe_callB (r := rIsi K) call_isi (by rfl) B.isinstance_ (by decide +kernel) (pa_cons (pv 0) (pa_cons (pe_glob (v := .ref cl) rfl gH rfl) pa_nil))))) (pw_or (pt_not (pt_val (pe_callC C_law_dict_isK hr1 rfl (pa_cons (pe_fldK (K := K) rfl (pv 0) rfl) (pa_cons (pe_ix (r := rIxT K) ix_tup (pv 1) pe_int (fun _ _ => rfl)) pa_nil))))) (pw_or1 (pt_not (pt_val (pe_callC C_law_dict_isK hr1 rfl (pa_cons (pe_fldK (K := K) rfl (pv 0) rfl) (pa_cons (pe_ix (r := rIxT K) ix_tup (pv 1) pe_int (fun _ _ => rfl)) pa_nil))))))))) (pss_one (ps_ret pe_bl)) pss_nil)
      (pss_cons (ps_if (pt_not (pt_val (pe_callC C_law_dict_isK hr1 rfl (pa_cons (pe_fldK (K := K) rfl (pv 0) rfl) (pa_cons (pe_lc (own := [("_law_name", 2), ("_law_side", 3), ("_law_own", 4), ("_law_past", 5)]) (by rfl) sc.nd (pi_list (pe_ix (r := rIxT K) ix_tup (pv 1) pe_int (fun _ _ => rfl))) (blkOk_by (N := N_law_hall_is) (sc := defScope s_law_hall_is) (by decide +kernel)) (fun _ _ _ _ _ => (pg_tupK (K := K) (n := 4) rfl rfl (pgs_cons (pg_name (i := 2) sc.nd rfl (Or.inl rfl)) (pgs_cons (pg_name (i := 3) sc.nd rfl (Or.inl rfl)) (pgs_cons (pg_name (i := 4) sc.nd rfl (Or.inl rfl)) (pgs_cons (pg_name (i := 5) sc.nd rfl (Or.inl rfl)) pgs_nil)))))) (fun _ _ _ _ _ => pts_nil) (fun _ _ _ _ _ => (pe_tup (pa_cons (pv 2) (pa_cons (pe_tup (pa_cons (pv 3) (pa_cons (pv 4) (pa_cons (pv 5) pa_nil)))) pa_nil))))) pa_nil))))) (pss_one (ps_ret pe_bl)) pss_nil)
      (pss_cons (ps_if (pt_not (pt_val (pe_callC C_law_dict_isT hr1 rfl (pa_cons (pe_fldK (K := K) rfl (pv 0) rfl) (pa_cons (pe_lc (own := [("_law_name", 2), ("_law_side", 3), ("_law_spot", 6)]) (by rfl) sc.nd (pi_list (pe_ix (r := rIxT K) ix_tup (pv 1) pe_int (fun _ _ => rfl))) (blkOk_by (N := N_law_hall_is) (sc := defScope s_law_hall_is) (by decide +kernel)) (fun _ _ _ _ _ => (pg_tupK (K := K) (n := 3) rfl rfl (pgs_cons (pg_name (i := 2) sc.nd rfl (Or.inl rfl)) (pgs_cons (pg_name (i := 3) sc.nd rfl (Or.inl rfl)) (pgs_cons (pg_name (i := 6) sc.nd rfl (Or.inl rfl)) pgs_nil))))) (fun _ _ _ _ _ => pts_nil) (fun _ _ _ _ _ => (pe_tup (pa_cons (pe_tup (pa_cons (pv 2) (pa_cons (pv 3) pa_nil))) (pa_cons (pv 6) pa_nil))))) pa_nil))))) (pss_one (ps_ret pe_bl)) pss_nil)
      (pss_cons (ps_if (pt_not (pt_val (pe_callC C_law_dict_isK hr1 rfl (pa_cons (pe_fldK (K := K) rfl (pv 0) rfl) (pa_cons (pe_lc (own := [("_law_name", 2), ("_law_join", 7), ("_law_way", 8), ("_law_faces", 9)]) (by rfl) sc.nd (pi_list (pe_ix (r := rIxT K) ix_tup (pv 1) pe_int (fun _ _ => rfl))) (blkOk_by (N := N_law_hall_is) (sc := defScope s_law_hall_is) (by decide +kernel)) (fun _ _ _ _ _ => (pg_tupK (K := K) (n := 4) rfl rfl (pgs_cons (pg_name (i := 2) sc.nd rfl (Or.inl rfl)) (pgs_cons (pg_name (i := 7) sc.nd rfl (Or.inl rfl)) (pgs_cons (pg_name (i := 8) sc.nd rfl (Or.inl rfl)) (pgs_cons (pg_name (i := 9) sc.nd rfl (Or.inl rfl)) pgs_nil)))))) (fun _ _ _ _ _ => pts_nil) (fun _ _ _ _ _ => (pe_tup (pa_cons (pv 2) (pa_cons (pe_tup (pa_cons (pv 7) (pa_cons (pv 8) (pa_cons (pv 9) pa_nil)))) pa_nil))))) pa_nil))))) (pss_one (ps_ret pe_bl)) pss_nil)
      (pss_one (ps_ret (pe_and (pe_callC C_law_dict_isK hr1 rfl (pa_cons (pe_fldK (K := K) rfl (pv 0) rfl) (pa_cons (pe_ix (r := rIxT K) ix_tup (pv 1) pe_int (fun _ _ => rfl)) pa_nil))) (pe_and (pe_callC C_law_alike hr1 rfl (pa_cons (pe_fldK (K := K) rfl (pv 0) rfl) (pa_cons (pe_ix (r := rIxT K) ix_tup (pv 1) pe_int (fun _ _ => rfl)) pa_nil))) (pe_one (pe_callC C_law_alike hr1 rfl (pa_cons (pe_fldK (K := K) rfl (pv 0) rfl) (pa_cons (pe_ix (r := rIxT K) ix_tup (pv 1) pe_int (fun _ _ => rfl)) pa_nil)))))))))))), fun G as r D hl sm hp hq hx => ?_⟩) (fun _ _ _ _ _ _ us hl => match us, hl with | [_, _], _ => rfl)
  obtain ⟨a, t, rfl, ha, F, hz, rfl⟩ := hp
  have ok : Cok (Bs No G H) := Bs.ok
  have hh : ∀ G1 H1, Bs No G H G1 H1 → HallAt cl a t G1 H1 := fun G1 H1 k => ha.stp k fun _ _ z => z
  have sz := size_names t
  have nl : ∀ {x : Str}, isName x = true → x.length ≤ Lim := fun h => Nat.le_trans (name_len h) (by decide)
  have call : ∀ {ds : List (Option Dt)} {p : Addr} {xs : List (Str × Dt)} {d : Dt} {ta tb : TE}, EvD ta (Bs No G H) ds (.obj p) → EvD tb (Bs No G H) ds d → d = .lst (xs.map fun q => .tup [.str q.1, q.2]) → (∀ G1 H1, Bs No G H G1 H1 → DK p xs G1 H1) → (∀ q ∈ xs, q.1.length ≤ Lim) → Al 4 d →
      EvD (tCall (spDictK 4) [] E0 (tCons ta (tCons tb tNil))) (Bs No G H) ds (.bl true) := fun h1 h2 e hf hk al => ev_call ok (ea_cons ok h1 (ea_cons ok h2 (ea_nil ok))) rfl (fun G1 H1 k => ⟨_, _, _, rfl, e, hf G1 H1 k, hk, al, rfl⟩)
  have due : ∀ {ds : List (Option Dt)} {k : Nat} {d : Dt}, ds[1]? = some (some (toldDt t)) → atI [.lst t.shapesD, .lst t.marksD, .lst t.pointsD, .lst t.lettersD, .lst (tx t.gaps), .lst t.classesD, .lst t.featuresD, .lst t.rulesD] (k : Int) = some d → EvD (tOp (rIxT K) (tVar 1) (tC (.int (k : Nat)))) (Bs No G H) ds d := fun h e => ev_op ok (ev_var ok h) (ev_int ok) (rv_ixT ok e)
  have nt : ∀ {ds : List (Option Dt)} {te : TE}, EvD te (Bs No G H) ds (.bl true) → EvT (tNot (tB te)) (Bs No G H) ds false := fun h => EvT.is (et_not (et_B h)) rfl
  have s1 := sz.1
  refine run_skip ok (et_orF ok (nt (ev_isHall ok HK HI (ev_var ok rfl) hh)) (et_orF ok (nt (call (xs := t.shapesK) (ev_h_shapes HK ok hh (ev_var ok rfl)) (due (k := 0) rfl rfl) (by rw [Told.shapesD, Told.shapesK, List.map_map]; rfl) (hall_s hh) (fun q hq => by
      obtain ⟨p, hp, rfl⟩ := List.mem_map.mp hq
      exact nl (F.s p hp).1) (.lst (by rw [Told.shapesD, List.length_map]; show _ ≤ 16000000; omega) fun x hx => by
      obtain ⟨p, _, rfl⟩ := List.mem_map.mp hx
      exact .tup (Nat.le_of_ble_eq_true rfl) fun y hy => by
        simp only [List.mem_cons, List.not_mem_nil, or_false] at hy
        rcases hy with rfl | rfl
        · exact .str _
        · exact .int _)))
    (nt (call (xs := t.classesK) (ev_h_classes HK ok hh (ev_var ok rfl)) (due (k := 5) rfl rfl) (by rw [Told.classesD, Told.classesK, List.map_map]; rfl) (hall_c hh) (fun q hq => by
      obtain ⟨p, hp, rfl⟩ := List.mem_map.mp hq
      exact nl (F.c p hp).1) (.lst (by rw [Told.classesD, List.length_map]; show _ ≤ 16000000; omega) fun x hx => by
      obtain ⟨p, hp, rfl⟩ := List.mem_map.mp hx
      exact .tup (Nat.le_of_ble_eq_true rfl) fun y hy => by
        simp only [List.mem_cons, List.not_mem_nil, or_false] at hy
        rcases hy with rfl | rfl
        · exact .str _
        · exact .tup (by rw [List.length_map]; have := (F.c p hp).2.1; show _ ≤ 16000000; omega) (al_tx _)))))) ?_
  -- marks
  refine run_skip ok (nt (call (xs := t.marksK) (ev_h_marks HK ok hh (ev_var ok rfl)) (EvN.ev ok (en_map t.marks (fun p => Dt.tup [.str p.1, .str p.2.1, ptD p.2.2.1, ptD p.2.2.2]) (fun p => [(2, .str p.1), (3, .str p.2.1), (4, ptD p.2.2.1), (5, ptD p.2.2.2)]) (fun p => Dt.tup [.str p.1, .tup [.str p.2.1, ptD p.2.2.1, ptD p.2.2.2]]) ok (ei_list (due (k := 1) rfl rfl)) (fun _ _ => tg_tup (tgs_cons tg_name (tgs_cons tg_name (tgs_cons tg_name (tgs_cons tg_name tgs_nil)))) rfl) (fun _ _ i hi => by simpa using hi)
      (fun p hp => by walk_at "ev") (by show _ ≤ 16000000; omega))) (by rw [Told.marksK, List.map_map]; rfl) (hall_m hh) (fun q hq => by
      obtain ⟨p, hp, rfl⟩ := List.mem_map.mp hq
      exact nl (F.m p hp).1) (.lst (by rw [List.length_map]; show _ ≤ 16000000; omega) fun x hx => by
      obtain ⟨p, _, rfl⟩ := List.mem_map.mp hx
      exact .tup (Nat.le_of_ble_eq_true rfl) fun y hy => by
        simp only [List.mem_cons, List.not_mem_nil, or_false] at hy
        rcases hy with rfl | rfl
        · exact .str _
        · exact .tup (Nat.le_of_ble_eq_true rfl) fun z hz' => by
            simp only [List.mem_cons, List.not_mem_nil, or_false] at hz'
            rcases hz' with rfl | rfl | rfl
            · exact .str _
            · exact al_pt _
            · exact al_pt _))) ?_
  -- points
  refine run_skip ok (nt (ev_call ok (ea_cons ok (ev_h_points HK ok hh (ev_var ok rfl)) (ea_cons ok (EvN.ev ok (en_map t.points (fun p => Dt.tup [.str p.1, .str p.2.1, ptD p.2.2]) (fun p => [(2, .str p.1), (3, .str p.2.1), (6, ptD p.2.2)]) (fun p => Dt.tup [.tup [.str p.1, .str p.2.1], ptD p.2.2]) ok (ei_list (due (k := 2) rfl rfl)) (fun _ _ => tg_tup (tgs_cons tg_name (tgs_cons tg_name (tgs_cons tg_name tgs_nil))) rfl) (fun _ _ i hi => by simpa using hi)
      (fun p hp => by walk_at "ev") (by show _ ≤ 16000000; omega))) (ea_nil ok))) rfl (fun G1 H1 k => ⟨a.dp, t.pointsK, _, rfl, by rw [Told.pointsK, List.map_map]; rfl, (hh G1 H1 k).p, fun q hq x hx' => by
        obtain ⟨p, hp, rfl⟩ := List.mem_map.mp hq
        have fp := F.p p hp
        simp only [List.mem_cons, List.not_mem_nil, or_false] at hx'
        rcases hx' with rfl | rfl
        · exact nl fp.1
        · exact Nat.le_trans (side_len fp.2.1) (by decide), .lst (by rw [List.length_map]; show _ ≤ 16000000; omega) fun x hx => by
        obtain ⟨p, _, rfl⟩ := List.mem_map.mp hx
        exact .tup (Nat.le_of_ble_eq_true rfl) fun y hy => by
          simp only [List.mem_cons, List.not_mem_nil, or_false] at hy
          rcases hy with rfl | rfl
          · exact .tup (Nat.le_of_ble_eq_true rfl) fun z hz' => by
              simp only [List.mem_cons, List.not_mem_nil, or_false] at hz'
              rcases hz' with rfl | rfl <;> exact .str _
          · exact (al_pt _).up, rfl⟩))) ?_
  -- letters
  refine run_skip ok (nt (call (xs := t.lettersK) (ev_h_letters HK ok hh (ev_var ok rfl)) (EvN.ev ok (en_map t.letters (fun p => Dt.tup [.str p.1, .str p.2.1, .str p.2.2.1, .tup (tx p.2.2.2)]) (fun p => [(2, .str p.1), (7, .str p.2.1), (8, .str p.2.2.1), (9, .tup (tx p.2.2.2))]) (fun p => Dt.tup [.str p.1, .tup [.str p.2.1, .str p.2.2.1, .tup (tx p.2.2.2)]]) ok (ei_list (due (k := 3) rfl rfl)) (fun _ _ => tg_tup (tgs_cons tg_name (tgs_cons tg_name (tgs_cons tg_name (tgs_cons tg_name tgs_nil)))) rfl) (fun _ _ i hi => by simpa using hi)
      (fun p hp => by walk_at "ev") (by show _ ≤ 16000000; omega))) (by rw [Told.lettersK, List.map_map]; rfl) (hall_l hh) (fun q hq => by
      obtain ⟨p, hp, rfl⟩ := List.mem_map.mp hq
      exact nl (F.l p hp).1) (.lst (by rw [List.length_map]; show _ ≤ 16000000; omega) fun x hx => by
      obtain ⟨p, hp, rfl⟩ := List.mem_map.mp hx
      exact .tup (Nat.le_of_ble_eq_true rfl) fun y hy => by
        simp only [List.mem_cons, List.not_mem_nil, or_false] at hy
        rcases hy with rfl | rfl
        · exact .str _
        · exact .tup (Nat.le_of_ble_eq_true rfl) fun z hz' => by
            simp only [List.mem_cons, List.not_mem_nil, or_false] at hz'
            rcases hz' with rfl | rfl | rfl
            · exact .str _
            · exact .str _
            · exact .tup (by rw [List.length_map]; have := (F.l p hp).2.2.2.1; show _ ≤ 16000000; omega) (al_tx _)))) ?_
  -- features, gaps, rules
  refine run_ret ok (ev_andV (p := true) (q := true) ok (call (xs := t.featuresK) (ev_h_features HK ok hh (ev_var ok rfl)) (due (k := 6) rfl rfl) (by rw [Told.featuresD, Told.featuresK, List.map_map]; rfl) (hall_f hh) (fun q hq => by
      obtain ⟨p, hp, rfl⟩ := List.mem_map.mp hq
      exact nl (F.f p hp)) (.lst (by rw [Told.featuresD, List.length_map]; show _ ≤ 16000000; omega) fun x hx => by
      obtain ⟨p, _, rfl⟩ := List.mem_map.mp hx
      exact .tup (Nat.le_of_ble_eq_true rfl) fun y hy => by
        simp only [List.mem_cons, List.not_mem_nil, or_false] at hy
        rcases hy with rfl | rfl
        · exact .str _
        · exact .bl _)) (fun _ => ev_andV (p := true) (q := true) ok (ev_alikeM ok (ea_cons ok (ev_h_gaps HK ok hh (ev_var ok rfl)) (ea_cons ok (due (k := 4) rfl rfl) (ea_nil ok))) (hall_g hh) (.lst (by rw [List.length_map]; show _ ≤ 16000000; omega) (al_tx _)))
    (fun _ => ev_alikeM ok (ea_cons ok (ev_h_rules HK ok hh (ev_var ok rfl)) (ea_cons ok (due (k := 7) rfl rfl) (ea_nil ok))) (hall_r hh) (.lst (by rw [Told.rulesD, List.length_map]; show _ ≤ 16000000; omega) fun x hx => by
      obtain ⟨p, hp, rfl⟩ := List.mem_map.mp hx
      obtain ⟨r1, r2, a', b, c, d⟩ := p
      have h4 := (F.r _ hp).2.2
      unfold ok4 at h4
      simp only [Bool.and_eq_true, decide_eq_true_eq] at h4
      exact .tup (Nat.le_of_ble_eq_true rfl) fun y hy => by
        simp only [List.mem_cons, List.not_mem_nil, or_false] at hy
        rcases hy with rfl | rfl | rfl | rfl | rfl | rfl
        · exact .str _
        · exact .str _
        · exact .tup (by rw [List.length_map]; show _ ≤ 16000000; omega) (al_tx _)
        · exact .tup (by rw [List.length_map]; show _ ≤ 16000000; omega) (al_tx _)
        · exact .tup (by rw [List.length_map]; show _ ≤ 16000000; omega) (al_tx _)
        · exact .tup (by rw [List.length_map]; show _ ≤ 16000000; omega) (al_tx _))))) rfl hq
end
end Kx

namespace Kx
open PySem L2
/-! ## plain texts: every sign from the blank to 127 -/
def plain (x : Str) : Bool := (tl x).all fun c => decide (32 ≤ c) && decide (c < 128)
theorem plain_app {x y : Str} (hx : plain x = true) (hy : plain y = true) : plain (x ++ y) = true := by
  unfold plain at *
  rw [tl_app, List.all_append, hx, hy]; rfl
theorem plain_mem {x : Str} (h : plain x = true) {c : Nat} (hc : c ∈ tl x) : 32 ≤ c ∧ c < 128 := by
  have := List.all_eq_true.mp h c hc
  simpa using this
theorem plain_ok {x : Str} (h : plain x = true) : PyData.strOk x = true := by
  show x.cps.all (· < 0x110000) = true
  rw [← Array.all_toList, List.all_eq_true]
  intro c hc
  have := plain_mem h hc
  simpa using show c < 0x110000 by omega
theorem plain_sub {x y : Str} (h : plain x = true) (hs : ∀ c ∈ tl y, c ∈ tl x) : plain y = true := by
  unfold plain
  rw [List.all_eq_true]
  intro c hc
  have := plain_mem h (hs c hc)
  simpa using this
theorem numT_tl (i : Int) : tl (numT i) = (toString i).toList.map Char.toNat := PyProof.Rows.signs_ofString _
theorem numT_chars (i : Int) : ∀ c ∈ tl (numT i), c = 45 ∨ (48 ≤ c ∧ c ≤ 57) := by
  intro c hc
  rw [numT_tl] at hc
  obtain ⟨ch, hch, e⟩ := List.mem_map.mp hc
  rw [Int.toString_eq_repr, Int.repr_eq_if] at hch
  have dig : ∀ n : Nat, ch ∈ (Nat.repr n).toList → 48 ≤ c ∧ c ≤ 57 := fun n h => by
    rw [Nat.toList_repr] at h
    have r := PyProof.Rows.digit_range (Nat.isDigit_of_mem_toDigits (by decide) (by decide) h)
    rw [← e]; exact r
  split at hch
  · exact .inr (dig _ hch)
  · rw [String.toList_append, List.mem_append] at hch
    rcases hch with h | h
    · have h2 : ch = '-' := by simpa using h
      exact .inl (by rw [← e, h2]; rfl)
    · exact .inr (dig _ h)
theorem numT_plain (i : Int) : plain (numT i) = true := by
  unfold plain
  rw [List.all_eq_true]
  intro c hc
  rcases numT_chars i c hc with h | h
  · subst h; rfl
  · simp; omega
theorem numT_len {i : Int} {k : Nat} (hk : 0 < k) (h : i.natAbs < 10 ^ k) : (numT i).length ≤ k + 1 := by
  rw [len_tl, numT_tl, List.length_map, String.length_toList]
  exact int_text_length_le10 hk h
theorem numT_log {i : Int} (h : i.natAbs < 10 ^ 30) : i.natAbs.log2 < 1920 := by
  by_cases h0 : i.natAbs = 0
  · rw [h0]; decide
  · exact (Nat.log2_lt h0).mpr (Nat.lt_of_lt_of_le h (by decide +kernel))
end Kx

namespace Kx
open PySem L2
/-! ## the script, mixed numbers, picked words -/
theorem sq_mono {K : PySem.W.Frag} {H H' : Hp} {a : Addr} {xs : List V} (h : SqL K H a xs) (e : Same H H') : SqL K H' a xs := by
  rcases h with (h | ⟨o, h⟩) | h
  · exact .inl (.inl (e _ _ h))
  · exact .inl (.inr ⟨o, e _ _ h⟩)
  · exact .inr h
section
variable {C : Hp → Hp → Prop} {ds : List (Option Dt)} {K : PySem.W.Frag} {a : Addr} {ns : List Int}
theorem rc_lenQ (ok : Cok C) (hf : ∀ G H, C G H → SqL K H a (ns.map V.int)) : RC (rLen K) C [.obj a] (.int (ns.length : Nat)) := fun G H vs k r Q z => by
  cases r with
  | cons h r =>
    cases r; cases h
    exact ⟨_, _, rfl, .inl ⟨_, hf G H k, (List.length_map ..).symm⟩, z _ G H (Pu.r ok k) (.int _)⟩
theorem rv_ixQ {k : Nat} {i : Int} (ok : Cok C) (hf : ∀ G H, C G H → SqL K H a (ns.map V.int)) (h : ns[k]? = some i) : RV (rIxL K) C (.obj a) (.int (k : Nat)) (.int i) := fun G H v w c r1 r2 Q q => by
  cases r1; cases r2
  exact ⟨_, _, (k : Nat), .int i, rfl, rfl, hf G H c, atI_nat (by rw [List.getElem?_map, h]; rfl), q _ G H (Pu.r ok c) (.int _)⟩
end
theorem cdiv_ok {i j : Int} (h : 0 < j ∧ j < 1073741824) : CDiv i j := h
def mixOf (c k : Int) : Int := ((c % 2305843009213693951 + 1) * (k * k + 48271) * 40692) % 2147483399
theorem mix_pos (c k : Int) : 0 ≤ mixOf c k ∧ mixOf c k < 2147483399 := ⟨Int.emod_nonneg _ (by decide), Int.emod_lt_of_pos _ (by decide)⟩
def someOf (l : List Str) (m : Int) : Str := l.getD (m % (l.length : Nat)).toNat ""
def itemOf (l : List Str) (m : Int) : Str := (["", "", "@"] : List Str).getD (m % 3).toNat "" ++ someOf l (m / 3)
/-- a short plain word -/
def Wd (n : Nat) (s : Str) : Prop := plain s = true ∧ s.length ≤ n
theorem Wd.up {n m : Nat} {s : Str} (h : Wd n s) (l : n ≤ m) : Wd m s := ⟨h.1, Nat.le_trans h.2 l⟩
theorem wd_nil {n : Nat} : Wd n "" := ⟨by decide +kernel, Nat.zero_le _⟩
theorem wd_app {n m : Nat} {s t : Str} (h : Wd n s) (h' : Wd m t) : Wd (n + m) (s ++ t) := ⟨plain_app h.1 h'.1, by rw [len_app]; have := h.2; have := h'.2; omega⟩
theorem wd_getD {n : Nat} {l : List Str} (h : ∀ s ∈ l, Wd n s) (k : Nat) : Wd n (l.getD k "") := by
  rw [List.getD_eq_getElem?_getD]
  cases e : l[k]? with
  | none => exact wd_nil
  | some s => exact h s (List.mem_of_getElem? e)
theorem wd_some {n : Nat} {l : List Str} (h : ∀ s ∈ l, Wd n s) (m : Int) : Wd n (someOf l m) := wd_getD h _
theorem wd_item {n : Nat} {l : List Str} (h : ∀ s ∈ l, Wd n s) (m : Int) : Wd (1 + n) (itemOf l m) := wd_app (wd_getD (by
  intro s hs
  simp only [List.mem_cons, List.not_mem_nil, or_false] at hs
  rcases hs with rfl | rfl | rfl
  · exact wd_nil
  · exact wd_nil
  · exact ⟨by decide +kernel, by decide +kernel⟩) _) (wd_some h _)
/-- an item of a row at a place that is there -/
theorem at_some {xs : List Dt} {i : Int} (h0 : 0 ≤ i) (h1 : i < (xs.length : Nat)) : ∃ d, d ∈ xs ∧ atI xs i = some d := by
  obtain ⟨k, rfl⟩ := Int.eq_ofNat_of_zero_le h0
  have hk : k < xs.length := by omega
  exact ⟨xs[k], List.getElem_mem hk, at_nat (List.getElem?_eq_getElem hk)⟩
theorem at_txt {l : List Str} {i : Int} (h0 : 0 ≤ i) (h1 : i < (l.length : Nat)) : atI (tx l) i = some (.str (l.getD i.toNat "")) := by
  obtain ⟨k, rfl⟩ := Int.eq_ofNat_of_zero_le h0
  have hk : k < l.length := by omega
  refine atI_txt ?_
  rw [List.getD_eq_getElem?_getD, Int.toNat_natCast, List.getElem?_eq_getElem hk]; rfl
section
variable {P : Program} {w : World} {K : PySem.W.Frag} {mg : Str → Option Value} {base : Heap}
local macro_rules | `(tactic| walk_at "ev") => `(tactic| with_reducible first
  | (show EvD _ _ _ _; first
    | exact ev_var (by assumption) rfl
    | exact ev_int (by assumption)
    | exact ev_str (by assumption)
    | exact ev_non (by assumption)
    | exact ev_bl (by assumption)
    | (refine' ev_call (by assumption) ?_ ?_ ?_ <;> (try walk_at "ev"))
    | (refine' ev_op (by assumption) ?_ ?_ ?_ <;> (try walk_at "ev"))
    | (refine' ev_un (by assumption) ?_ rfl <;> (try walk_at "ev"))
    | (refine' ev_andV (by assumption) ?_ (fun _ => ?_) <;> (try walk_at "ev"))
    | (refine' ev_orV (by assumption) ?_ (fun _ => ?_) <;> (try walk_at "ev"))
    | (refine' ev_notV (by assumption) ?_ <;> (try walk_at "ev"))
    | (refine' ev_chain (by assumption) ?_ ?_ ?_ ?_ ?_ <;> (try walk_at "ev"))
    | (refine' ev_cb (by assumption) ?_ ?_ <;> (try walk_at "ev"))
    | (refine' ev_bm (by assumption) ?_ ?_ ?_ <;> (try walk_at "ev"))
    | (refine' ev_m1 (by assumption) ?_ ?_ ?_ <;> (try walk_at "ev"))
    | (refine' ev_sliceS (by assumption) ?_ ?_ ?_ <;> (try walk_at "ev"))
    | (refine' ev_slice (by assumption) ?_ ?_ ?_ <;> (try walk_at "ev"))
    | (refine' ev_tup (by assumption) ?_ ?_ <;> (try walk_at "ev"))
    | (refine' ev_lst (by assumption) ?_ ?_ <;> (try walk_at "ev"))
    | exact ev_h_shapes (by assumption) (by assumption) (by assumption) (ev_var (by assumption) rfl)
    | exact ev_h_marks (by assumption) (by assumption) (by assumption) (ev_var (by assumption) rfl)
    | exact ev_h_points (by assumption) (by assumption) (by assumption) (ev_var (by assumption) rfl)
    | exact ev_h_letters (by assumption) (by assumption) (by assumption) (ev_var (by assumption) rfl)
    | exact ev_h_gaps (by assumption) (by assumption) (by assumption) (ev_var (by assumption) rfl)
    | exact ev_h_classes (by assumption) (by assumption) (by assumption) (ev_var (by assumption) rfl)
    | exact ev_h_features (by assumption) (by assumption) (by assumption) (ev_var (by assumption) rfl)
    | exact ev_h_rules (by assumption) (by assumption) (by assumption) (ev_var (by assumption) rfl)
    | (refine' ev_dinK (by assumption) ?_ ?_ ?_ <;> (try walk_at "ev"))
    | (refine' ev_dniK (by assumption) ?_ ?_ ?_ <;> (try walk_at "ev"))
    | (refine' ev_dinT (by assumption) ?_ ?_ ?_ <;> (try walk_at "ev")))
  | (show EvA _ _ _ _; first
    | exact ea_nil (by assumption)
    | (refine' ea_cons (by assumption) ?_ ?_ <;> (try walk_at "ev")))
  | (show RV _ _ _ _ _; first
    | exact rv_int (by assumption)
    | exact rv_cmp (by assumption)
    | exact rv_eq (by assumption) rfl
    | exact rv_ne (by assumption) rfl
    | exact rv_isN (by assumption) rfl
    | exact rv_notN (by assumption) rfl
    | exact rv_inT (by assumption) (.inl rfl)
    | exact rv_inT (by assumption) (.inr rfl)
    | exact rv_niT (by assumption) (.inl rfl)
    | exact rv_niT (by assumption) (.inr rfl)
    | exact rv_inS (by assumption)
    | exact rv_niS (by assumption)
    | exact rv_ixS (by assumption) (by assumption)
    | exact rv_ixL (by assumption) (by assumption)
    | exact rv_ixT (by assumption) (by assumption)
    | exact rv_ixT (by assumption) rfl
    | exact rv_ixL (by assumption) rfl
    | (refine' rv_inM (by assumption) ?_ <;> (try walk_at "ev"))
    | (refine' rv_niM (by assumption) ?_ <;> (try walk_at "ev"))
    | (refine' rv_inX (by assumption) ?_ (.inl rfl) <;> (try walk_at "ev"))
    | (refine' rv_inX (by assumption) ?_ (.inr rfl) <;> (try walk_at "ev"))
    | (refine' rv_niX (by assumption) ?_ (.inl rfl) <;> (try walk_at "ev"))
    | (refine' rv_niX (by assumption) ?_ (.inr rfl) <;> (try walk_at "ev"))
    | exact rv_in (neg := false) (by assumption) rfl rfl (.inr rfl)
    | exact rv_in (neg := true) (by assumption) rfl rfl (.inr rfl)
    | exact rv_intC (g := fun i j => i % j) (by assumption) (by decide)
    | exact rv_intC (g := fun i j => i / j) (by assumption) (cdiv_ok (by decide)))
  | (show EvT _ _ _ _; first
    | exact et_yes (by assumption)
    | (refine' et_and (by assumption) ?_ (fun _ => ?_) <;> (try walk_at "ev"))
    | (refine' et_or (by assumption) ?_ (fun _ => ?_) <;> (try walk_at "ev"))
    | (refine' et_not ?_ <;> (try walk_at "ev"))
    | (refine' et_test ?_ <;> (try walk_at "ev"))
    | (refine' et_B ?_ <;> (try walk_at "ev")))
  | (show RC _ _ _ _; first
    | exact rc_lenL (by assumption)
    | exact rc_lenT (by assumption)
    | exact rc_lenS (by assumption)
    | exact rc_all (by assumption)
    | exact rc_intB (by assumption)
    | exact rc_strS (by assumption)
    | exact rc_listOf (by assumption) (.inl rfl)
    | exact rc_listOf (by assumption) (.inr rfl)
    | exact rc_tupOf (by assumption)
    | (refine' rc_lenD (by assumption) ?_ <;> (try walk_at "ev"))
    | (refine' rc_lenM (by assumption) ?_ <;> (try walk_at "ev")))
  | (show RM _ _ _ _ _; first
    | exact rm_strip' (by assumption))
  | (show EvO _ _ _ _; first
    | exact eo_none (by assumption)
    | (refine' eo_some ?_ <;> (try walk_at "ev")))
  | (show List.length _ ≤ Lim; with_unfolding_all exact Nat.le_of_ble_eq_true rfl)
  | (show List.length _ = _; with_unfolding_all rfl)
  | exact (fun _ _ _ => ⟨_, rfl, rfl⟩)
  | exact (fun _ _ _ => ⟨_, _, rfl, rfl⟩)
  | exact (fun _ _ _ => ⟨_, _, _, rfl, rfl⟩)
  | exact (fun _ _ _ => ⟨_, rfl, by assumption, rfl⟩)
  | exact hall_s (by assumption)
  | exact hall_m (by assumption)
  | exact hall_p (by assumption)
  | exact hall_l (by assumption)
  | exact hall_g (by assumption)
  | exact hall_c (by assumption)
  | exact hall_f (by assumption)
  | exact hall_r (by assumption)
  | exact TxL.of _
  | exact TxL.nil
  | (refine' TxL.cons ?_ <;> (try walk_at "ev")))


abbrev s_law_cell_at : Stmt := top 40
abbrev N_law_cell_at : List Str := ["_law_script", "_law_k"]
abbrev P_law_cell_at : List Str := ["_law_script", "_law_k"]
theorem sc_law_cell_at : FnScope N_law_cell_at P_law_cell_at (defScope s_law_cell_at) := ⟨rfl, rfl, rfl, by decide +kernel, rfl, by decide +kernel, by decide +kernel⟩

abbrev spCellAt (K : PySem.W.Frag) : Sp := SpF 2 fun _ H as r => ∃ (a : Addr) (ns : List Int) (k : Nat), as = [.obj a, .int (k : Nat)] ∧ SqL K H a (ns.map V.int) ∧ r = .int (ns.getD k 0)
theorem cal_law_cell_at (B : Blt mg) (D : Dfn K mg "_law_cell_at" s_law_cell_at) : Cal P w K mg base "_law_cell_at" 1 P_law_cell_at (spCellAt K) := by
  have sc := sc_law_cell_at
  refine cal_of D (fun f fd F => fnok F sc fun cdv A outer s H E hr => ⟨_, (pss_cons (ps_if (pt_cmpR op_lt (pv 1) (pe_callB (r := rLen K) call_lenK (by rfl) B.len_ (by decide +kernel) (pa_cons (pv 0) pa_nil)) (nomark _)) (pss_one (ps_ret (pe_ix (r := rIxL K) ix_list (pv 0) (pv 1) (fun _ _ => rfl)))) pss_nil)
      (pss_one (ps_ret pe_int))), fun G as r D hl sm hp hq hx => ?_⟩) (fun _ _ _ _ _ _ us hl => match us, hl with | [_, _], _ => rfl)
  obtain ⟨a, ns, k, rfl, hs, rfl⟩ := hp
  have ok : Cok (Bs No G H) := Bs.ok
  have hf : ∀ G1 H1, Bs No G H G1 H1 → SqL K H1 a (ns.map V.int) := fun G1 H1 c => sq_mono hs (Pu.hs c)
  by_cases h : k < ns.length
  · refine run_take ok (EvT.is (et_test (ev_op ok (ev_var ok rfl) (ev_cb ok (ea_cons ok (ev_var ok rfl) (ea_nil ok)) (rc_lenQ ok hf)) (rv_cmp ok))) (decide_eq_true (by omega))) (run_ret ok (ev_op ok (ev_var ok rfl) (ev_var ok rfl) (rv_ixQ ok hf (List.getElem?_eq_getElem h))) ?_ hq)
    rw [List.getD_eq_getElem?_getD, List.getElem?_eq_getElem h]; rfl
  · refine run_skip ok (EvT.is (et_test (ev_op ok (ev_var ok rfl) (ev_cb ok (ea_cons ok (ev_var ok rfl) (ea_nil ok)) (rc_lenQ ok hf)) (rv_cmp ok))) (decide_eq_false (by omega))) (run_ret ok (ev_int ok) ?_ hq)
    rw [List.getD_eq_getElem?_getD, List.getElem?_eq_none (by omega)]; rfl

abbrev s_law_mixed : Stmt := top 41
abbrev N_law_mixed : List Str := ["_law_cell", "_law_k"]
abbrev P_law_mixed : List Str := ["_law_cell", "_law_k"]
theorem sc_law_mixed : FnScope N_law_mixed P_law_mixed (defScope s_law_mixed) := ⟨rfl, rfl, rfl, by decide +kernel, rfl, by decide +kernel, by decide +kernel⟩

abbrev spMixed : Sp := SpF 2 fun _ _ as r => ∃ c k : Int, as = [.int c, .int k] ∧ 0 ≤ k ∧ k ≤ 1000 ∧ r = .int (mixOf c k)
theorem cal_law_mixed (B : Blt mg) (D : Dfn K mg "_law_mixed" s_law_mixed) : Cal P w K mg base "_law_mixed" 1 P_law_mixed spMixed := by
  have sc := sc_law_mixed
  refine cal_of D (fun f fd F => fnok F sc fun cdv A outer s H E hr => ⟨_, (pss_one (ps_ret (pe_op op_mod (pe_op op_mul (pe_op op_mul (pe_op op_add (pe_op op_mod (pv 0) pe_int) pe_int) (pe_op op_add (pe_op op_mul (pv 1) (pv 1)) pe_int)) pe_int) pe_int))), fun G as r D hl sm hp hq hx => ?_⟩) (fun _ _ _ _ _ _ us hl => match us, hl with | [_, _], _ => rfl)
  obtain ⟨c, k, rfl, h0, h1, rfl⟩ := hp
  have ok : Cok (Bs No G H) := Bs.ok
  have hm := Int.emod_nonneg c (show (2305843009213693951 : Int) ≠ 0 by decide)
  have hm2 := Int.emod_lt_of_pos c (show (0 : Int) < 2305843009213693951 by decide)
  refine run_ret ok (ev_op ok (ev_op ok (ev_op ok (ev_op ok (ev_op ok (ev_var ok rfl) (ev_int ok) (rv_intC (g := fun i j => i % j) ok (by decide))) (ev_int ok) (rv_int (g := fun i j => i + j) ok)) (ev_op ok (ev_op ok (ev_var ok rfl) (ev_var ok rfl) (rv_intC (g := fun i j => i * j) ok (.inl ⟨by omega, by omega⟩))) (ev_int ok) (rv_int (g := fun i j => i + j) ok)) (rv_intC (g := fun i j => i * j) ok (.inl ⟨by omega, by omega⟩))) (ev_int ok) (rv_intC (g := fun i j => i * j) ok (.inr ⟨by decide, by decide⟩))) (ev_int ok) (rv_intC (g := fun i j => i % j) ok (by decide))) rfl hq

abbrev s_law_some : Stmt := top 49
abbrev N_law_some : List Str := ["_law_names", "_law_m"]
abbrev P_law_some : List Str := ["_law_names", "_law_m"]
theorem sc_law_some : FnScope N_law_some P_law_some (defScope s_law_some) := ⟨rfl, rfl, rfl, by decide +kernel, rfl, by decide +kernel, by decide +kernel⟩

abbrev spSome : Sp := SpF 2 fun _ _ as r => ∃ (l : List Str) (m : Int), as = [.lst (tx l), .int m] ∧ l ≠ [] ∧ r = .str (someOf l m)
theorem cal_law_some (B : Blt mg) (D : Dfn K mg "_law_some" s_law_some) : Cal P w K mg base "_law_some" 1 P_law_some spSome := by
  have sc := sc_law_some
  refine cal_of D (fun f fd F => fnok F sc fun cdv A outer s H E hr => ⟨_, (pss_one (ps_ret (pe_ix (r := rIxL K) ix_list (pv 0) (pe_op op_mod (pv 1) (pe_callB (r := rLen K) call_lenK (by rfl) B.len_ (by decide +kernel) (pa_cons (pv 0) pa_nil))) (fun _ _ => rfl)))), fun G as r D hl sm hp hq hx => ?_⟩) (fun _ _ _ _ _ _ us hl => match us, hl with | [_, _], _ => rfl)
  obtain ⟨l, m, rfl, hne, rfl⟩ := hp
  have ok : Cok (Bs No G H) := Bs.ok
  have hl0 : 0 < l.length := List.length_pos_iff.mpr hne
  have hL : (tx l).length = l.length := List.length_map ..
  have hp : (0 : Int) < ((tx l).length : Nat) := by rw [hL]; omega
  refine run_ret ok (ev_op ok (ev_var ok rfl) (ev_op ok (ev_var ok rfl) (ev_cb ok (ea_cons ok (ev_var ok rfl) (ea_nil ok)) (rc_lenL ok)) (rv_intC (g := fun i j => i % j) ok hp)) (rv_ixL ok (at_txt (Int.emod_nonneg _ (by omega)) (by rw [← hL]; exact Int.emod_lt_of_pos _ hp)))) (by rw [hL]; rfl) hq

abbrev s_law_item : Stmt := top 50
abbrev N_law_item : List Str := ["_law_names", "_law_m"]
abbrev P_law_item : List Str := ["_law_names", "_law_m"]
theorem sc_law_item : FnScope N_law_item P_law_item (defScope s_law_item) := ⟨rfl, rfl, rfl, by decide +kernel, rfl, by decide +kernel, by decide +kernel⟩

abbrev spItem : Sp := SpF 2 fun _ _ as r => ∃ (l : List Str) (m : Int), as = [.lst (tx l), .int m] ∧ l ≠ [] ∧ (∀ s ∈ l, s.length ≤ 1000) ∧ r = .str (itemOf l m)
theorem cal_law_item (B : Blt mg) (D : Dfn K mg "_law_item" s_law_item) (C_law_some : Cal P w K mg base "_law_some" 1 P_law_some spSome) : Cal P w K mg base "_law_item" 2 P_law_item spItem := by
  have sc := sc_law_item
  refine cal_of D (fun f fd F => fnok F sc fun cdv A outer s H E hr => have hr1 := hr; ⟨_, (pss_one (ps_ret (pe_op op_addT (pe_ix (r := rIxL K) ix_list (pe_lst (pa_cons pe_str (pa_cons pe_str (pa_cons pe_str pa_nil)))) (pe_op op_mod (pv 1) pe_int) (fun _ _ => rfl)) (pe_callC C_law_some hr1 rfl (pa_cons (pv 0) (pa_cons (pe_op op_fdiv (pv 1) pe_int) pa_nil)))))), fun G as r D hl sm hp hq hx => ?_⟩) (fun _ _ _ _ _ _ us hl => match us, hl with | [_, _], _ => rfl)
  obtain ⟨l, m, rfl, hne, hln, rfl⟩ := hp
  have ok : Cok (Bs No G H) := Bs.ok
  have h3 := Int.emod_nonneg m (show (3 : Int) ≠ 0 by decide)
  have h4 := Int.emod_lt_of_pos m (show (0 : Int) < 3 by decide)
  have hs : (someOf l (m / 3)).length ≤ 1000 := by
    unfold someOf
    rw [List.getD_eq_getElem?_getD]
    cases e : l[(m / 3 % (l.length : Nat)).toNat]? with
    | none => exact Nat.zero_le _
    | some s => exact hln s (List.mem_of_getElem? e)
  have h5 : ((["", "", "@"] : List Str).getD (m % 3).toNat "").length ≤ 1 := by
    rcases (show m % 3 = 0 ∨ m % 3 = 1 ∨ m % 3 = 2 by omega) with e | e | e <;> rw [e] <;> decide +kernel
  refine run_ret ok (ev_op ok (ev_op ok (ev_lst ok (ea_cons ok (ev_str ok) (ea_cons ok (ev_str ok) (ea_cons ok (ev_str ok) (ea_nil ok)))) (Nat.le_of_ble_eq_true rfl)) (ev_op ok (ev_var ok rfl) (ev_int ok) (rv_intC (g := fun i j => i % j) ok (by decide))) (rv_ixL ok (at_txt (l := ["", "", "@"]) h3 (by show _ < (3 : Int); omega))))
    (ev_call ok (ea_cons ok (ev_var ok rfl) (ea_cons ok (ev_op ok (ev_var ok rfl) (ev_int ok) (rv_intC (g := fun i j => i / j) ok ⟨by decide, by decide⟩)) (ea_nil ok))) rfl (fun _ _ _ => ⟨l, m / 3, rfl, hne, rfl⟩)) (rv_addT ok (by show _ ≤ 16000000; omega))) rfl hq
end
end Kx

namespace Kx
open PySem L2
/-! ## a drawn row's words: short and plain -/
theorem cut_tx (l : List Str) (lo hi : Option Int) : ∃ l' : List Str, cutD (tx l) lo hi = tx l' ∧ l'.length ≤ l.length ∧ ∀ x ∈ l', x ∈ l := by
  refine ⟨(l.drop (HT.sIx (tx l).length 0 lo)).take (HT.sIx (tx l).length (tx l).length hi - HT.sIx (tx l).length 0 lo), ?_, ?_, fun x hx => List.mem_of_mem_drop (List.mem_of_mem_take hx)⟩
  · unfold cutD
    rw [tx_drop, tx_take]
  · rw [List.length_take, List.length_drop]; omega
theorem ev_takeE {C : Hp → Hp → Prop} {ds : List (Option Dt)} {K : PySem.W.Frag} {te ti : TE} {ws : List Str} {e : Int} (ok : Cok C) (h : EvD te C ds (.lst (tx ws))) (hi : EvD ti C ds (.int e)) (h0 : 0 ≤ e) : EvD (tSl (rSlL K) te tNoPart (tPart ti)) C ds (.lst (tx (ws.take e.toNat))) := by
  have := ev_slice (K := K) ok h (eo_none ok) (eo_some hi)
  obtain ⟨k, rfl⟩ := Int.eq_ofNat_of_zero_le h0
  rw [cutD_L, tx_take] at this
  exact this
theorem ev_cutE {C : Hp → Hp → Prop} {ds : List (Option Dt)} {K : PySem.W.Frag} {te : TE} {t1 t2 : TO} {ws l : List Str} {lo hi : Option Int} (ok : Cok C) (h : EvD te C ds (.lst (tx ws))) (h1 : EvO t1 C ds lo) (h2 : EvO t2 C ds hi) (e : cutD (tx ws) lo hi = tx l) : EvD (tSl (rSlL K) te t1 t2) C ds (.lst (tx l)) :=
  EvD.is (ev_slice (K := K) ok h h1 h2) (by rw [e])
theorem ev_catT {C : Hp → Hp → Prop} {ds : List (Option Dt)} {ta tb : TE} {xs ys : List Str} (ok : Cok C) (h1 : EvD ta C ds (.lst (tx xs))) (h2 : EvD tb C ds (.lst (tx ys))) (hl : xs.length + ys.length ≤ 1000) : EvD (tOp rCat ta tb) C ds (.lst (tx (xs ++ ys))) :=
  EvD.is (ev_op ok h1 h2 (EvN_ev2 ok (rn_cat ok (by rw [List.length_map, List.length_map]; show _ ≤ 16000000; omega)))) (by simp [tx])
/-- good: nonempty, few, short and plain -/
structure Gd (n : Nat) (ws : List Str) : Prop where
  ln : ws.length ≤ n
  wd : ∀ w ∈ ws, Wd 12 w
theorem Gd.app {n m : Nat} {xs ys : List Str} (a : Gd n xs) (b : Gd m ys) : Gd (n + m) (xs ++ ys) := ⟨by rw [List.length_append]; have := a.ln; have := b.ln; omega, fun w h => (List.mem_append.mp h).elim (a.wd w) (b.wd w)⟩
theorem Gd.nil {n : Nat} : Gd n [] := ⟨Nat.zero_le _, fun _ h => (by cases h)⟩
theorem Gd.cons {n : Nat} {x : Str} {xs : List Str} (h : Wd 12 x) (a : Gd n xs) : Gd (n + 1) (x :: xs) := ⟨by rw [List.length_cons]; have := a.ln; omega, fun w hw => (List.mem_cons.mp hw).elim (fun e => e ▸ h) (a.wd w)⟩
theorem Gd.map {n : Nat} {α : Type} {l : List α} {f : α → Str} (hl : l.length ≤ n) (h : ∀ x ∈ l, Wd 12 (f x)) : Gd n (l.map f) := ⟨by rw [List.length_map]; exact hl, fun w hw => by
  obtain ⟨x, hx, rfl⟩ := List.mem_map.mp hw
  exact h x hx⟩
theorem Gd.sub {n : Nat} {xs ys : List Str} (a : Gd n xs) (hl : ys.length ≤ xs.length) (h : ∀ x ∈ ys, x ∈ xs) : Gd n ys := ⟨Nat.le_trans hl a.ln, fun w hw => a.wd w (h w hw)⟩
theorem Gd.up {n m : Nat} {xs : List Str} (a : Gd n xs) (h : n ≤ m) : Gd m xs := ⟨Nat.le_trans a.ln h, a.wd⟩
section
variable {P : Program} {w : World} {K : PySem.W.Frag} {mg : Str → Option Value} {base : Heap}
local macro_rules | `(tactic| walk_at "ev") => `(tactic| with_reducible first
  | (show EvD _ _ _ _; first
    | exact ev_var (by assumption) rfl
    | exact ev_int (by assumption)
    | exact ev_str (by assumption)
    | exact ev_non (by assumption)
    | exact ev_bl (by assumption)
    | (refine' ev_call (by assumption) ?_ ?_ ?_ <;> (try walk_at "ev"))
    | (refine' ev_op (by assumption) ?_ ?_ ?_ <;> (try walk_at "ev"))
    | (refine' ev_un (by assumption) ?_ rfl <;> (try walk_at "ev"))
    | (refine' ev_andV (by assumption) ?_ (fun _ => ?_) <;> (try walk_at "ev"))
    | (refine' ev_orV (by assumption) ?_ (fun _ => ?_) <;> (try walk_at "ev"))
    | (refine' ev_notV (by assumption) ?_ <;> (try walk_at "ev"))
    | (refine' ev_chain (by assumption) ?_ ?_ ?_ ?_ ?_ <;> (try walk_at "ev"))
    | (refine' ev_cb (by assumption) ?_ ?_ <;> (try walk_at "ev"))
    | (refine' ev_bm (by assumption) ?_ ?_ ?_ <;> (try walk_at "ev"))
    | (refine' ev_m1 (by assumption) ?_ ?_ ?_ <;> (try walk_at "ev"))
    | (refine' ev_sliceS (by assumption) ?_ ?_ ?_ <;> (try walk_at "ev"))
    | (refine' ev_slice (by assumption) ?_ ?_ ?_ <;> (try walk_at "ev"))
    | (refine' ev_tup (by assumption) ?_ ?_ <;> (try walk_at "ev"))
    | (refine' ev_lst (by assumption) ?_ ?_ <;> (try walk_at "ev"))
    | exact ev_h_shapes (by assumption) (by assumption) (by assumption) (ev_var (by assumption) rfl)
    | exact ev_h_marks (by assumption) (by assumption) (by assumption) (ev_var (by assumption) rfl)
    | exact ev_h_points (by assumption) (by assumption) (by assumption) (ev_var (by assumption) rfl)
    | exact ev_h_letters (by assumption) (by assumption) (by assumption) (ev_var (by assumption) rfl)
    | exact ev_h_gaps (by assumption) (by assumption) (by assumption) (ev_var (by assumption) rfl)
    | exact ev_h_classes (by assumption) (by assumption) (by assumption) (ev_var (by assumption) rfl)
    | exact ev_h_features (by assumption) (by assumption) (by assumption) (ev_var (by assumption) rfl)
    | exact ev_h_rules (by assumption) (by assumption) (by assumption) (ev_var (by assumption) rfl)
    | (refine' ev_dinK (by assumption) ?_ ?_ ?_ <;> (try walk_at "ev"))
    | (refine' ev_dniK (by assumption) ?_ ?_ ?_ <;> (try walk_at "ev"))
    | (refine' ev_dinT (by assumption) ?_ ?_ ?_ <;> (try walk_at "ev")))
  | (show EvA _ _ _ _; first
    | exact ea_nil (by assumption)
    | (refine' ea_cons (by assumption) ?_ ?_ <;> (try walk_at "ev")))
  | (show RV _ _ _ _ _; first
    | exact rv_int (by assumption)
    | exact rv_cmp (by assumption)
    | exact rv_eq (by assumption) rfl
    | exact rv_ne (by assumption) rfl
    | exact rv_isN (by assumption) rfl
    | exact rv_notN (by assumption) rfl
    | exact rv_inT (by assumption) (.inl rfl)
    | exact rv_inT (by assumption) (.inr rfl)
    | exact rv_niT (by assumption) (.inl rfl)
    | exact rv_niT (by assumption) (.inr rfl)
    | exact rv_inS (by assumption)
    | exact rv_niS (by assumption)
    | exact rv_ixS (by assumption) (by assumption)
    | exact rv_ixL (by assumption) (by assumption)
    | exact rv_ixT (by assumption) (by assumption)
    | exact rv_ixT (by assumption) rfl
    | exact rv_ixL (by assumption) rfl
    | (refine' rv_inM (by assumption) ?_ <;> (try walk_at "ev"))
    | (refine' rv_niM (by assumption) ?_ <;> (try walk_at "ev"))
    | (refine' rv_inX (by assumption) ?_ (.inl rfl) <;> (try walk_at "ev"))
    | (refine' rv_inX (by assumption) ?_ (.inr rfl) <;> (try walk_at "ev"))
    | (refine' rv_niX (by assumption) ?_ (.inl rfl) <;> (try walk_at "ev"))
    | (refine' rv_niX (by assumption) ?_ (.inr rfl) <;> (try walk_at "ev"))
    | exact rv_in (neg := false) (by assumption) rfl rfl (.inr rfl)
    | exact rv_in (neg := true) (by assumption) rfl rfl (.inr rfl)
    | exact rv_intC (g := fun i j => i % j) (by assumption) (by decide)
    | exact rv_intC (g := fun i j => i / j) (by assumption) (cdiv_ok (by decide)))
  | (show EvT _ _ _ _; first
    | exact et_yes (by assumption)
    | (refine' et_and (by assumption) ?_ (fun _ => ?_) <;> (try walk_at "ev"))
    | (refine' et_or (by assumption) ?_ (fun _ => ?_) <;> (try walk_at "ev"))
    | (refine' et_not ?_ <;> (try walk_at "ev"))
    | (refine' et_test ?_ <;> (try walk_at "ev"))
    | (refine' et_B ?_ <;> (try walk_at "ev")))
  | (show RC _ _ _ _; first
    | exact rc_lenL (by assumption)
    | exact rc_lenT (by assumption)
    | exact rc_lenS (by assumption)
    | exact rc_all (by assumption)
    | exact rc_intB (by assumption)
    | exact rc_strS (by assumption)
    | exact rc_listOf (by assumption) (.inl rfl)
    | exact rc_listOf (by assumption) (.inr rfl)
    | exact rc_tupOf (by assumption)
    | (refine' rc_lenD (by assumption) ?_ <;> (try walk_at "ev"))
    | (refine' rc_lenM (by assumption) ?_ <;> (try walk_at "ev")))
  | (show RM _ _ _ _ _; first
    | exact rm_strip' (by assumption))
  | (show EvO _ _ _ _; first
    | exact eo_none (by assumption)
    | (refine' eo_some ?_ <;> (try walk_at "ev")))
  | (show List.length _ ≤ Lim; with_unfolding_all exact Nat.le_of_ble_eq_true rfl)
  | (show List.length _ = _; with_unfolding_all rfl)
  | exact (fun _ _ _ => ⟨_, rfl, rfl⟩)
  | exact (fun _ _ _ => ⟨_, _, rfl, rfl⟩)
  | exact (fun _ _ _ => ⟨_, _, _, rfl, rfl⟩)
  | exact (fun _ _ _ => ⟨_, rfl, by assumption, rfl⟩)
  | exact hall_s (by assumption)
  | exact hall_m (by assumption)
  | exact hall_p (by assumption)
  | exact hall_l (by assumption)
  | exact hall_g (by assumption)
  | exact hall_c (by assumption)
  | exact hall_f (by assumption)
  | exact hall_r (by assumption)
  | exact TxL.of _
  | exact TxL.nil
  | (refine' TxL.cons ?_ <;> (try walk_at "ev")))


abbrev s_law_spoilt : Stmt := top 52
abbrev N_law_spoilt : List Str := ["_law_words", "_law_m", "_law_at", "_law_word_here"]
abbrev P_law_spoilt : List Str := ["_law_words", "_law_m"]
theorem sc_law_spoilt : FnScope N_law_spoilt P_law_spoilt (defScope s_law_spoilt) := ⟨rfl, rfl, rfl, by decide +kernel, rfl, by decide +kernel, by decide +kernel⟩

def preSpoilt : Hp → Hp → List Dt → (Hp → Hp → Dt → Prop) → Prop := fun G H as post => ∃ (ws : List Str) (m : Int), as = [.lst (tx ws), .int m] ∧ ws ≠ [] ∧ Gd 40 ws ∧ 0 ≤ m ∧ post = fun G' H' r => Pu G H G' H' ∧ ∃ vs, r = .lst (tx vs) ∧ Gd 81 vs
theorem cal_law_spoilt (B : Blt mg) (D : Dfn K mg "_law_spoilt" s_law_spoilt) : Cal P w K mg base "_law_spoilt" 1 P_law_spoilt (SpX 2 preSpoilt) := by
  have sc := sc_law_spoilt
  refine cal_of D (fun f fd F => fnokX F sc fun cdv A outer s H E hr => ⟨_, (pss_cons (ps_set (i := 2) sc.nd rfl (Or.inl rfl) (pe_op op_mod (pe_op op_fdiv (pv 1) pe_int) (pe_callB (r := rLen K) call_lenK (by rfl) B.len_ (by decide +kernel) (pa_cons (pv 0) pa_nil))))
      (pss_cons (ps_set (i := 3) sc.nd rfl (Or.inl rfl) (pe_ix (r := rIxL K) ix_list (pe_lst (pa_cons pe_str (pa_cons pe_str (pa_cons pe_str (pa_cons pe_str (pa_cons pe_str (pa_cons pe_str (pa_cons pe_str (pa_cons pe_str (pa_cons pe_str (pa_cons pe_str (pa_cons pe_str (pa_cons pe_str (pa_cons pe_str pa_nil)))))))))))))) (pe_op op_mod (pe_op op_fdiv (pv 1) pe_int) pe_int) (fun _ _ => rfl)))
      (pss_cons (ps_if (pt_cmpR op_eq (pe_op op_mod (pv 1) pe_int) pe_int (nomark _)) (pss_one (ps_ret (pe_op op_cat (pe_slice (r := rSlL K) sl_list (pv 0) po_none (po_some (pv 2))) (pe_slice (r := rSlL K) sl_list (pv 0) (po_some (pe_op op_add (pv 2) pe_int)) po_none)))) pss_nil)
      (pss_cons (ps_if (pt_cmpR op_eq (pe_op op_mod (pv 1) pe_int) pe_int (nomark _)) (pss_one (ps_ret (pe_op op_cat (pe_op op_cat (pe_slice (r := rSlL K) sl_list (pv 0) po_none (po_some (pv 2))) (pe_lst (pa_cons (pv 3) pa_nil))) (pe_slice (r := rSlL K) sl_list (pv 0) (po_some (pv 2)) po_none)))) pss_nil)
      (pss_one (ps_ret (pe_op op_cat (pe_op op_cat (pe_slice (r := rSlL K) sl_list (pv 0) po_none (po_some (pv 2))) (pe_lst (pa_cons (pv 3) pa_nil))) (pe_slice (r := rSlL K) sl_list (pv 0) (po_some (pe_op op_add (pv 2) pe_int)) po_none)))))))), fun G as post D hl sm hp hq hx => ?_⟩) (fun _ _ _ _ _ _ us hl => match us, hl with | [_, _], _ => rfl)
  obtain ⟨ws, m, rfl, hne, hg, h0, rfl⟩ := hp
  refine fun σ sl => (?_ : Run _ (Bs No G H) _ D) G σ H (Stp.refl sm) sl
  have ok : Cok (Bs No G H) := Bs.ok
  have fin : ∀ vs, Gd 81 vs → Rt D (Bs No G H) (.lst (tx vs)) := fun vs hv v G1 H1 k r => hq v G1 H1 _ ⟨k, vs, rfl, hv⟩ r
  have hl0 : 0 < ws.length := List.length_pos_iff.mpr hne
  have hln := hg.ln
  have hL : (tx ws).length = ws.length := List.length_map ..
  have hp : (0 : Int) < ((tx ws).length : Nat) := by rw [hL]; omega
  refine run_set ok (ev_op ok (ev_op ok (ev_var ok rfl) (ev_int ok) (rv_intC (g := fun i j => i / j) ok ⟨by decide, by decide⟩)) (ev_cb ok (ea_cons ok (ev_var ok rfl) (ea_nil ok)) (rc_lenL ok)) (rv_intC (g := fun i j => i % j) ok hp)) ?_
  generalize m / 4 % ((tx ws).length : Nat) = at_
  have h13 : Wd 12 ((["on", "/", "@", "zz", "-0", "above", ">", "", "both", "7", "007", "@a0", "Z"] : List Str).getD (m / 64 % 13).toNat "") := wd_getD (by
    intro s hs
    simp only [List.mem_cons, List.not_mem_nil, or_false] at hs
    rcases hs with rfl | rfl | rfl | rfl | rfl | rfl | rfl | rfl | rfl | rfl | rfl | rfl | rfl <;> exact ⟨by decide +kernel, by decide +kernel⟩) _
  have h3 := Int.emod_nonneg (m / 64) (show (13 : Int) ≠ 0 by decide)
  have h4 := Int.emod_lt_of_pos (m / 64) (show (0 : Int) < 13 by decide)
  refine run_set (d := .str ((["on", "/", "@", "zz", "-0", "above", ">", "", "both", "7", "007", "@a0", "Z"] : List Str).getD (m / 64 % 13).toNat "")) ok (ev_op ok (ev_lst ok (ea_cons ok (ev_str ok) (ea_cons ok (ev_str ok) (ea_cons ok (ev_str ok) (ea_cons ok (ev_str ok) (ea_cons ok (ev_str ok) (ea_cons ok (ev_str ok) (ea_cons ok (ev_str ok) (ea_cons ok (ev_str ok) (ea_cons ok (ev_str ok) (ea_cons ok (ev_str ok) (ea_cons ok (ev_str ok) (ea_cons ok (ev_str ok) (ea_cons ok (ev_str ok) (ea_nil ok)))))))))))))) (Nat.le_of_ble_eq_true rfl))
    (ev_op ok (ev_op ok (ev_var ok rfl) (ev_int ok) (rv_intC (g := fun i j => i / j) ok ⟨by decide, by decide⟩)) (ev_int ok) (rv_intC (g := fun i j => i % j) ok (by decide))) (rv_ixL ok (at_txt (l := ["on", "/", "@", "zz", "-0", "above", ">", "", "both", "7", "007", "@a0", "Z"]) h3 (by show _ < (13 : Int); omega)))) ?_
  generalize ((["on", "/", "@", "zz", "-0", "above", ">", "", "both", "7", "007", "@a0", "Z"] : List Str).getD (m / 64 % 13).toNat "") = wh at h13
  obtain ⟨l1, c1, n1, m1⟩ := cut_tx ws none (some at_)
  obtain ⟨l2, c2, n2, m2⟩ := cut_tx ws (some (at_ + 1)) none
  obtain ⟨l3, c3, n3, m3⟩ := cut_tx ws (some at_) none
  have g1 : Gd 40 l1 := hg.sub n1 m1
  have g2 : Gd 40 l2 := hg.sub n2 m2
  have g3 : Gd 40 l3 := hg.sub n3 m3
  have e1 : ∀ {ds : List (Option Dt)}, ds[0]? = some (some (.lst (tx ws))) → ds[2]? = some (some (.int at_)) → EvD (tSl (rSlL K) (tVar 0) tNoPart (tPart (tVar 2))) (Bs No G H) ds (.lst (tx l1)) := fun a b => ev_cutE ok (ev_var ok a) (eo_none ok) (eo_some (ev_var ok b)) c1
  have e2 : ∀ {ds : List (Option Dt)}, ds[0]? = some (some (.lst (tx ws))) → ds[2]? = some (some (.int at_)) → EvD (tSl (rSlL K) (tVar 0) (tPart (tOp (rI0 fun i j => .int (i + j)) (tVar 2) (tC (.int 1)))) tNoPart) (Bs No G H) ds (.lst (tx l2)) := fun a b => ev_cutE ok (ev_var ok a) (eo_some (ev_op ok (ev_var ok b) (ev_int ok) (rv_int (g := fun i j => i + j) ok))) (eo_none ok) c2
  have e3 : ∀ {ds : List (Option Dt)}, ds[0]? = some (some (.lst (tx ws))) → ds[2]? = some (some (.int at_)) → EvD (tSl (rSlL K) (tVar 0) (tPart (tVar 2)) tNoPart) (Bs No G H) ds (.lst (tx l3)) := fun a b => ev_cutE ok (ev_var ok a) (eo_some (ev_var ok b)) (eo_none ok) c3
  have l40 : ∀ {l : List Str}, Gd 40 l → l.length ≤ 40 := fun g => g.ln
  have w1 : ∀ {ds : List (Option Dt)}, ds[3]? = some (some (.str wh)) → EvD (tLst (tCons (tVar 3) tNil)) (Bs No G H) ds (.lst (tx [wh])) := fun a => ev_lst ok (ea_cons ok (ev_var ok a) (ea_nil ok)) (Nat.le_of_ble_eq_true rfl)
  have x1 := l40 g1
  have x2 := l40 g2
  have x3 := l40 g3
  refine run_when ok (by walk_at "ev") (fun _ => run_ret ok (ev_catT ok (e1 rfl rfl) (e2 rfl rfl) (by omega)) rfl (fin _ ((g1.app g2).up (by decide)))) (fun _ => ?_)
  have g4 : Gd 1 [wh] := Gd.cons h13 Gd.nil
  refine run_when ok (by walk_at "ev") (fun _ => run_ret ok (ev_catT ok (ev_catT ok (e1 rfl rfl) (w1 rfl) (by simp only [List.length_cons, List.length_nil]; omega)) (e3 rfl rfl) (by simp only [List.length_append, List.length_cons, List.length_nil]; omega)) rfl (fin _ (((g1.app g4).app g3).up (by decide)))) (fun _ => ?_)
  exact run_ret ok (ev_catT ok (ev_catT ok (e1 rfl rfl) (w1 rfl) (by simp only [List.length_cons, List.length_nil]; omega)) (e2 rfl rfl) (by simp only [List.length_append, List.length_cons, List.length_nil]; omega)) rfl (fin _ (((g1.app g4).app g2).up (by decide)))
end
end Kx

namespace Kx
open PySem L2
theorem numT_wd {i : Int} {k : Nat} (hk : 0 < k) (h : i.natAbs < 10 ^ k) (h11 : k ≤ 11) : Wd 12 (numT i) := ⟨numT_plain i, by have := numT_len hk h; omega⟩
theorem ev_numT {C : Hp → Hp → Prop} {ds : List (Option Dt)} {te : TE} {i : Int} (ok : Cok C) (h : EvD te C ds (.int i)) (hi : i.natAbs < 10 ^ 10) : EvD (tCB rStrI (tCons te tNil)) C ds (.str (numT i)) :=
  ev_cb ok (ea_cons ok h (ea_nil ok)) (rc_strI ok (numT_log (Nat.lt_of_lt_of_le hi (by decide))) (by have := numT_len (by decide : 0 < 10) hi; show _ ≤ 16000000; omega))
/-- a number picked from a short row -/
theorem at_int {xs : List Dt} {i : Int} (h0 : 0 ≤ i) (h1 : i < (xs.length : Nat)) {Q : Int → Prop} (h : ∀ d ∈ xs, ∃ z, d = .int z ∧ Q z) : ∃ z, atI xs i = some (.int z) ∧ Q z := by
  obtain ⟨d, hd, e⟩ := at_some h0 h1
  obtain ⟨z, rfl, q⟩ := h d hd
  exact ⟨z, e, q⟩
section
variable {P : Program} {w : World} {K : PySem.W.Frag} {mg : Str → Option Value} {base : Heap}
local macro_rules | `(tactic| walk_at "ev") => `(tactic| with_reducible first
  | (show EvD _ _ _ _; first
    | exact ev_var (by assumption) rfl
    | exact ev_int (by assumption)
    | exact ev_str (by assumption)
    | exact ev_non (by assumption)
    | exact ev_bl (by assumption)
    | (refine' ev_call (by assumption) ?_ ?_ ?_ <;> (try walk_at "ev"))
    | (refine' ev_op (by assumption) ?_ ?_ ?_ <;> (try walk_at "ev"))
    | (refine' ev_un (by assumption) ?_ rfl <;> (try walk_at "ev"))
    | (refine' ev_andV (by assumption) ?_ (fun _ => ?_) <;> (try walk_at "ev"))
    | (refine' ev_orV (by assumption) ?_ (fun _ => ?_) <;> (try walk_at "ev"))
    | (refine' ev_notV (by assumption) ?_ <;> (try walk_at "ev"))
    | (refine' ev_chain (by assumption) ?_ ?_ ?_ ?_ ?_ <;> (try walk_at "ev"))
    | (refine' ev_cb (by assumption) ?_ ?_ <;> (try walk_at "ev"))
    | (refine' ev_bm (by assumption) ?_ ?_ ?_ <;> (try walk_at "ev"))
    | (refine' ev_m1 (by assumption) ?_ ?_ ?_ <;> (try walk_at "ev"))
    | (refine' ev_sliceS (by assumption) ?_ ?_ ?_ <;> (try walk_at "ev"))
    | (refine' ev_slice (by assumption) ?_ ?_ ?_ <;> (try walk_at "ev"))
    | (refine' ev_tup (by assumption) ?_ ?_ <;> (try walk_at "ev"))
    | (refine' ev_lst (by assumption) ?_ ?_ <;> (try walk_at "ev"))
    | exact ev_h_shapes (by assumption) (by assumption) (by assumption) (ev_var (by assumption) rfl)
    | exact ev_h_marks (by assumption) (by assumption) (by assumption) (ev_var (by assumption) rfl)
    | exact ev_h_points (by assumption) (by assumption) (by assumption) (ev_var (by assumption) rfl)
    | exact ev_h_letters (by assumption) (by assumption) (by assumption) (ev_var (by assumption) rfl)
    | exact ev_h_gaps (by assumption) (by assumption) (by assumption) (ev_var (by assumption) rfl)
    | exact ev_h_classes (by assumption) (by assumption) (by assumption) (ev_var (by assumption) rfl)
    | exact ev_h_features (by assumption) (by assumption) (by assumption) (ev_var (by assumption) rfl)
    | exact ev_h_rules (by assumption) (by assumption) (by assumption) (ev_var (by assumption) rfl)
    | (refine' ev_dinK (by assumption) ?_ ?_ ?_ <;> (try walk_at "ev"))
    | (refine' ev_dniK (by assumption) ?_ ?_ ?_ <;> (try walk_at "ev"))
    | (refine' ev_dinT (by assumption) ?_ ?_ ?_ <;> (try walk_at "ev")))
  | (show EvA _ _ _ _; first
    | exact ea_nil (by assumption)
    | (refine' ea_cons (by assumption) ?_ ?_ <;> (try walk_at "ev")))
  | (show RV _ _ _ _ _; first
    | exact rv_int (by assumption)
    | exact rv_cmp (by assumption)
    | exact rv_eq (by assumption) rfl
    | exact rv_ne (by assumption) rfl
    | exact rv_isN (by assumption) rfl
    | exact rv_notN (by assumption) rfl
    | exact rv_inT (by assumption) (.inl rfl)
    | exact rv_inT (by assumption) (.inr rfl)
    | exact rv_niT (by assumption) (.inl rfl)
    | exact rv_niT (by assumption) (.inr rfl)
    | exact rv_inS (by assumption)
    | exact rv_niS (by assumption)
    | exact rv_ixS (by assumption) (by assumption)
    | exact rv_ixL (by assumption) (by assumption)
    | exact rv_ixT (by assumption) (by assumption)
    | exact rv_ixT (by assumption) rfl
    | exact rv_ixL (by assumption) rfl
    | (refine' rv_inM (by assumption) ?_ <;> (try walk_at "ev"))
    | (refine' rv_niM (by assumption) ?_ <;> (try walk_at "ev"))
    | (refine' rv_inX (by assumption) ?_ (.inl rfl) <;> (try walk_at "ev"))
    | (refine' rv_inX (by assumption) ?_ (.inr rfl) <;> (try walk_at "ev"))
    | (refine' rv_niX (by assumption) ?_ (.inl rfl) <;> (try walk_at "ev"))
    | (refine' rv_niX (by assumption) ?_ (.inr rfl) <;> (try walk_at "ev"))
    | exact rv_in (neg := false) (by assumption) rfl rfl (.inr rfl)
    | exact rv_in (neg := true) (by assumption) rfl rfl (.inr rfl)
    | exact rv_intC (g := fun i j => i % j) (by assumption) (by decide)
    | exact rv_intC (g := fun i j => i / j) (by assumption) (cdiv_ok (by decide)))
  | (show EvT _ _ _ _; first
    | exact et_yes (by assumption)
    | (refine' et_and (by assumption) ?_ (fun _ => ?_) <;> (try walk_at "ev"))
    | (refine' et_or (by assumption) ?_ (fun _ => ?_) <;> (try walk_at "ev"))
    | (refine' et_not ?_ <;> (try walk_at "ev"))
    | (refine' et_test ?_ <;> (try walk_at "ev"))
    | (refine' et_B ?_ <;> (try walk_at "ev")))
  | (show RC _ _ _ _; first
    | exact rc_lenL (by assumption)
    | exact rc_lenT (by assumption)
    | exact rc_lenS (by assumption)
    | exact rc_all (by assumption)
    | exact rc_intB (by assumption)
    | exact rc_strS (by assumption)
    | exact rc_listOf (by assumption) (.inl rfl)
    | exact rc_listOf (by assumption) (.inr rfl)
    | exact rc_tupOf (by assumption)
    | (refine' rc_lenD (by assumption) ?_ <;> (try walk_at "ev"))
    | (refine' rc_lenM (by assumption) ?_ <;> (try walk_at "ev")))
  | (show RM _ _ _ _ _; first
    | exact rm_strip' (by assumption))
  | (show EvO _ _ _ _; first
    | exact eo_none (by assumption)
    | (refine' eo_some ?_ <;> (try walk_at "ev")))
  | (show List.length _ ≤ Lim; with_unfolding_all exact Nat.le_of_ble_eq_true rfl)
  | (show List.length _ = _; with_unfolding_all rfl)
  | exact (fun _ _ _ => ⟨_, rfl, rfl⟩)
  | exact (fun _ _ _ => ⟨_, _, rfl, rfl⟩)
  | exact (fun _ _ _ => ⟨_, _, _, rfl, rfl⟩)
  | exact (fun _ _ _ => ⟨_, rfl, by assumption, rfl⟩)
  | exact hall_s (by assumption)
  | exact hall_m (by assumption)
  | exact hall_p (by assumption)
  | exact hall_l (by assumption)
  | exact hall_g (by assumption)
  | exact hall_c (by assumption)
  | exact hall_f (by assumption)
  | exact hall_r (by assumption)
  | exact TxL.of _
  | exact TxL.nil
  | (refine' TxL.cons ?_ <;> (try walk_at "ev")))


abbrev s_law_row_words : Stmt := top 51
abbrev N_law_row_words : List Str := ["_law_names", "_law_m", "_law_n", "_law_name", "_law_side", "_law_spots", "_law_join", "_law_many", "_law_faces", "_law_words", "_law_sizes", "_law_k", "_law_size", "_law_j"]
abbrev P_law_row_words : List Str := ["_law_names", "_law_m", "_law_n"]
theorem sc_law_row_words : FnScope N_law_row_words P_law_row_words (defScope s_law_row_words) := ⟨rfl, rfl, rfl, by decide +kernel, rfl, by decide +kernel, by decide +kernel⟩

def preRW : Hp → Hp → List Dt → (Hp → Hp → Dt → Prop) → Prop := fun G H as post => ∃ (ns : List Str) (m n : Int), as = [.lst (tx ns), .int m, .int n] ∧ ns.length = 8 ∧ (∀ s ∈ ns, Wd 10 s) ∧ 0 ≤ m ∧ m < 2147483399 ∧ 0 ≤ n ∧ n < 2147483399 ∧ post = fun G' H' r => Pu G H G' H' ∧ ∃ vs, r = .lst (tx vs) ∧ vs ≠ [] ∧ Gd 40 vs
theorem cal_law_row_words (B : Blt mg) (D : Dfn K mg "_law_row_words" s_law_row_words) (C_law_some : Cal P w K mg base "_law_some" 1 P_law_some spSome) (C_law_item : Cal P w K mg base "_law_item" 2 P_law_item spItem) : Cal P w K mg base "_law_row_words" 3 P_law_row_words (SpX 3 preRW) := by
  have sc := sc_law_row_words
  replace C_law_some := C_law_some.mono (k := 2) (by decide)
  refine cal_of D (fun f fd F => fnokX F sc fun cdv A outer s H E hr => have hr1 := hr; ⟨_, (pss_cons (ps_set (i := 3) sc.nd rfl (Or.inl rfl) (pe_callC C_law_some hr1 rfl (pa_cons (pv 0) (pa_cons (pe_op op_fdiv (pv 1) pe_int) pa_nil))))
      (pss_cons (ps_set (i := 4) sc.nd rfl (Or.inl rfl) (pe_ix (r := rIxL K) ix_list (pe_lst (pa_cons pe_str (pa_cons pe_str pa_nil))) (pe_op op_mod (pe_op op_fdiv (pv 1) pe_int) pe_int) (fun _ _ => rfl)))
      (pss_cons (ps_setLc (i := 5) (own := [("_law_k", 11)]) (by rfl) sc.nd rfl rfl (sw_true rfl rfl rfl (by decide +kernel)) (pi_range1 (by rfl) B.range_ (pa_cons pe_int pa_nil)) (blkOk_by (N := N_law_row_words) (sc := defScope s_law_row_words) (by decide +kernel)) (fun _ _ _ _ _ => (pg_name (i := 11) sc.nd rfl (Or.inl rfl))) (fun _ _ _ _ _ => pts_nil) (fun _ _ _ _ _ => (pe_callTy call_strI (by rfl) B.str_ (by decide +kernel) (pa_cons (pe_op op_sub (pe_op op_mod (pe_op op_fdiv (pv 2) (pe_ix (r := rIxL K) ix_list (pe_lst (pa_cons pe_int (pa_cons pe_int (pa_cons pe_int (pa_cons pe_int pa_nil))))) (pv 11) (fun _ _ => rfl))) (pe_ix (r := rIxL K) ix_list (pe_lst (pa_cons pe_int (pa_cons pe_int (pa_cons pe_int pa_nil)))) (pe_op op_mod (pv 1) pe_int) (fun _ _ => rfl))) pe_int) pa_nil))))
      (pss_cons (ps_if (pt_cmpR op_eq (pe_op op_mod (pv 1) pe_int) pe_int (nomark _)) (pss_one (ps_ret (pe_lst (pa_cons pe_str (pa_cons (pv 3) (pa_cons (pe_callTy call_strI (by rfl) B.str_ (by decide +kernel) (pa_cons (pe_op op_mod (pv 2) (pe_ix (r := rIxL K) ix_list (pe_lst (pa_cons pe_int (pa_cons pe_int (pa_cons pe_int pa_nil)))) (pe_op op_mod (pe_op op_fdiv (pv 1) pe_int) pe_int) (fun _ _ => rfl))) pa_nil)) pa_nil)))))) pss_nil)
      (pss_cons (ps_if (pt_cmpR op_eq (pe_op op_mod (pv 1) pe_int) pe_int (nomark _)) (pss_one (ps_ret (pe_op op_cat (pe_lst (pa_cons pe_str (pa_cons (pv 3) (pa_cons (pv 4) pa_nil)))) (pv 5)))) pss_nil)
      (pss_cons (ps_if (pt_cmpR op_eq (pe_op op_mod (pv 1) pe_int) pe_int (nomark _)) (pss_one (ps_ret (pe_op op_cat (pe_lst (pa_cons pe_str (pa_cons (pv 3) (pa_cons (pv 4) pa_nil)))) (pe_slice (r := rSlL K) sl_list (pv 5) po_none (po_some pe_int))))) pss_nil)
      (pss_cons (ps_if (pt_cmpR op_eq (pe_op op_mod (pv 1) pe_int) pe_int (nomark _)) (pss_cons (ps_set (i := 6) sc.nd rfl (Or.inl rfl) (pe_ix (r := rIxL K) ix_list (pe_lst (pa_cons pe_str (pa_cons pe_str (pa_cons pe_str (pa_cons pe_str pa_nil))))) (pe_op op_mod (pe_op op_fdiv (pv 1) pe_int) pe_int) (fun _ _ => rfl)))
      (pss_cons (ps_set (i := 7) sc.nd rfl (Or.inl rfl) (pe_ix (r := rIxL K) ix_list (pe_lst (pa_cons pe_int (pa_cons pe_int (pa_cons pe_int (pa_cons pe_int pa_nil))))) (pe_op op_mod (pe_op op_fdiv (pv 1) pe_int) pe_int) (fun _ _ => rfl)))
      (pss_cons (ps_setLc (i := 8) (own := [("_law_k", 11)]) (by rfl) sc.nd rfl rfl (sw_true rfl rfl rfl (by decide +kernel)) (pi_range1 (by rfl) B.range_ (pa_cons (pv 7) pa_nil)) (blkOk_by (N := N_law_row_words) (sc := defScope s_law_row_words) (by decide +kernel)) (fun _ _ _ _ _ => (pg_name (i := 11) sc.nd rfl (Or.inl rfl))) (fun _ _ _ _ _ => pts_nil) (fun _ _ _ _ _ => (pe_callC C_law_some hr1 rfl (pa_cons (pe_slice (r := rSlL K) sl_list (pv 0) po_none (po_some (pe_op op_add pe_int (pe_op op_mod (pv 2) pe_int)))) (pa_cons (pe_op op_fdiv (pv 2) (pe_op op_add (pv 11) pe_int)) pa_nil)))))
      (pss_one (ps_ret (pe_op op_cat (pe_lst (pa_cons pe_str (pa_cons (pv 3) (pa_cons (pv 6) (pa_cons (pe_ix (r := rIxL K) ix_list (pe_lst (pa_cons pe_str (pa_cons pe_str (pa_cons pe_str pa_nil)))) (pe_op op_mod (pe_op op_fdiv (pv 1) pe_int) pe_int) (fun _ _ => rfl)) pa_nil))))) (pv 8))))))) pss_nil)
      (pss_cons (ps_if (pt_cmpR op_eq (pe_op op_mod (pv 1) pe_int) pe_int (nomark _)) (pss_one (ps_ret (pe_lst (pa_cons pe_str (pa_cons (pv 3) pa_nil))))) pss_nil)
      (pss_cons (ps_if (pt_cmpR op_eq (pe_op op_mod (pv 1) pe_int) pe_int (nomark _)) (pss_one (ps_ret (pe_op op_cat (pe_lst (pa_cons pe_str (pa_cons (pv 3) pa_nil))) (pe_lc (own := [("_law_k", 11)]) (by rfl) sc.nd (pi_range1 (by rfl) B.range_ (pa_cons (pe_op op_add pe_int (pe_op op_mod (pe_op op_fdiv (pv 2) pe_int) pe_int)) pa_nil)) (blkOk_by (N := N_law_row_words) (sc := defScope s_law_row_words) (by decide +kernel)) (fun _ _ _ _ _ => (pg_name (i := 11) sc.nd rfl (Or.inl rfl))) (fun _ _ _ _ _ => pts_nil) (fun _ _ _ _ _ => (pe_callC C_law_some hr1 rfl (pa_cons (pe_slice (r := rSlL K) sl_list (pv 0) po_none (po_some (pe_op op_add pe_int (pe_op op_mod (pv 2) pe_int)))) (pa_cons (pe_op op_fdiv (pv 2) (pe_op op_add (pv 11) pe_int)) pa_nil)))))))) pss_nil)
      (pss_cons (ps_if (pt_cmpR op_eq (pe_op op_mod (pv 1) pe_int) pe_int (nomark _)) (pss_one (ps_ret (pe_lst (pa_cons pe_str (pa_cons (pv 3) (pa_cons (pe_ix (r := rIxL K) ix_list (pe_lst (pa_cons pe_str (pa_cons pe_str pa_nil))) (pe_op op_mod (pe_op op_fdiv (pv 1) pe_int) pe_int) (fun _ _ => rfl)) pa_nil)))))) pss_nil)
      (pss_cons (ps_set (i := 9) sc.nd rfl (Or.inl rfl) (pe_lst (pa_cons pe_str (pa_cons (pv 3) (pa_cons (pe_callC C_law_some hr1 rfl (pa_cons (pe_slice (r := rSlL K) sl_list (pv 0) po_none (po_some (pe_op op_add pe_int (pe_op op_mod (pv 2) pe_int)))) (pa_cons (pe_op op_fdiv (pv 1) pe_int) pa_nil))) pa_nil)))))
      (pss_cons (ps_set (i := 10) sc.nd rfl (Or.inl rfl) (pe_lst (pa_cons (pe_op op_fdiv (pe_op op_mod (pv 2) pe_int) pe_int) (pa_cons (pe_op op_add pe_int (pe_op op_mod (pe_op op_fdiv (pv 2) pe_int) pe_int)) (pa_cons (pe_op op_fdiv (pe_op op_mod (pe_op op_fdiv (pv 2) pe_int) pe_int) pe_int) pa_nil)))))
      (pss_cons (ps_for PassesOwn.never rfl (pi_enum (by rfl) B.enumerate_ (pa_cons (pv 10) pa_nil)) (pg_tupK (K := K) (n := 2) rfl rfl (pgs_cons (pg_name (i := 11) sc.nd rfl (Or.inr rfl)) (pgs_cons (pg_name (i := 12) sc.nd rfl (Or.inl rfl)) pgs_nil))) (pss_one (ps_set (i := 9) sc.nd rfl (Or.inl rfl) (pe_op op_cat (pe_op op_cat (pv 9) (pe_lc (own := [("_law_j", 13)]) (by rfl) sc.nd (pi_range1 (by rfl) B.range_ (pa_cons (pv 12) pa_nil)) (blkOk_by (N := N_law_row_words) (sc := defScope s_law_row_words) (by decide +kernel)) (fun _ _ _ _ _ => (pg_name (i := 13) sc.nd rfl (Or.inl rfl))) (fun _ _ _ _ _ => pts_nil) (fun _ _ _ _ _ => (pe_callC C_law_item hr1 rfl (pa_cons (pe_slice (r := rSlL K) sl_list (pv 0) po_none (po_some pe_int)) (pa_cons (pe_op op_fdiv (pv 2) (pe_op op_add (pe_op op_add (pe_op op_mul pe_int (pv 11)) (pe_op op_mul pe_int (pv 13))) pe_int)) pa_nil)))))) (pe_lst (pa_cons pe_str pa_nil))))))
      (pss_one (ps_ret (pe_op op_cat (pe_op op_cat (pe_slice (r := rSlL K) sl_list (pv 9) po_none (po_some (pe_un un_neg pe_int))) (pe_lst (pa_cons pe_str pa_nil))) (pe_lc (own := [("_law_j", 13)]) (by rfl) sc.nd (pi_range1 (by rfl) B.range_ (pa_cons (pe_op op_add pe_int (pe_op op_mod (pe_op op_fdiv (pv 2) pe_int) pe_int)) pa_nil)) (blkOk_by (N := N_law_row_words) (sc := defScope s_law_row_words) (by decide +kernel)) (fun _ _ _ _ _ => (pg_name (i := 13) sc.nd rfl (Or.inl rfl))) (fun _ _ _ _ _ => pts_nil) (fun _ _ _ _ _ => (pe_callC C_law_some hr1 rfl (pa_cons (pe_slice (r := rSlL K) sl_list (pv 0) po_none (po_some pe_int)) (pa_cons (pe_op op_fdiv (pv 2) (pe_op op_add (pe_op op_mul pe_int (pv 13)) pe_int)) pa_nil))))))))))))))))))))), fun G as post D hl sm hp hq hx => ?_⟩) (fun _ _ _ _ _ _ us hl => match us, hl with | [_, _, _], _ => rfl)
  obtain ⟨ns, m, n, rfl, hns, hwd, m0, m1, n0, n1, rfl⟩ := hp
  refine fun σ sl => (?_ : Run _ (Bs No G H) _ D) G σ H (Stp.refl sm) sl
  have ok : Cok (Bs No G H) := Bs.ok
  have fin : ∀ vs, vs ≠ [] → Gd 40 vs → Rt D (Bs No G H) (.lst (tx vs)) := fun vs h1 h2 v G1 H1 k r => hq v G1 H1 _ ⟨k, vs, rfl, h1, h2⟩ r
  have nne : ns ≠ [] := fun e => by rw [e] at hns; cases hns
  have wd12 : ∀ s ∈ ns, Wd 12 s := fun s hs => (hwd s hs).up (by decide)
  have takes : ∀ e : Int, 1 ≤ e → ns.take e.toNat ≠ [] ∧ ∀ s ∈ ns.take e.toNat, Wd 12 s := fun e he => ⟨fun z => by
    have := congrArg List.length z
    rw [List.length_take, hns] at this
    have h2 : 1 ≤ e.toNat := by omega
    simp only [List.length_nil] at this
    omega, fun s hs => wd12 s (List.mem_of_mem_take hs)⟩
  refine run_set (d := .str (someOf ns (m / 8))) ok (ev_call ok (by walk_at "ev") rfl (fun _ _ _ => ⟨ns, m / 8, rfl, nne, rfl⟩)) ?_
  have hnm := wd_some wd12 (m / 8)
  generalize someOf ns (m / 8) = nm at hnm
  have hsd : Wd 12 ((["above", "below"] : List Str).getD (m / 64 % 2).toNat "") := wd_getD (by
    intro s hs
    simp only [List.mem_cons, List.not_mem_nil, or_false] at hs
    rcases hs with rfl | rfl <;> exact ⟨by decide +kernel, by decide +kernel⟩) _
  refine run_set (d := .str ((["above", "below"] : List Str).getD (m / 64 % 2).toNat "")) ok (ev_op ok (ev_lst ok (ea_cons ok (ev_str ok) (ea_cons ok (ev_str ok) (ea_nil ok))) (Nat.le_of_ble_eq_true rfl)) (by walk_at "ev") (rv_ixL ok (at_txt (l := ["above", "below"]) (by omega) (by show _ < (2 : Int); omega)))) ?_
  generalize ((["above", "below"] : List Str).getD (m / 64 % 2).toNat "") = sd at hsd
  obtain ⟨q, eq, hq1, hq2⟩ := at_int (xs := [.int 7, .int 40, .int 300]) (i := m % 3) (Q := fun z => 0 < z ∧ z ≤ 300) (by omega) (by show _ < (3 : Int); omega) (by
    intro d hd
    simp only [List.mem_cons, List.not_mem_nil, or_false] at hd
    rcases hd with rfl | rfl | rfl
    · exact ⟨7, rfl, by decide, by decide⟩
    · exact ⟨40, rfl, by decide, by decide⟩
    · exact ⟨300, rfl, by decide, by decide⟩)
  have hdd : ∀ k : Nat, k < 4 → ∃ z : Int, atI [Dt.int 1, .int 10, .int 100, .int 1000] (0 + (k : Int)) = some (.int z) ∧ 0 < z ∧ z ≤ 1000 := fun k hk => at_int (Q := fun z => 0 < z ∧ z ≤ 1000) (by omega) (by show _ < (4 : Int); omega) (by
    intro d hd
    simp only [List.mem_cons, List.not_mem_nil, or_false] at hd
    rcases hd with rfl | rfl | rfl | rfl
    · exact ⟨1, rfl, by decide, by decide⟩
    · exact ⟨10, rfl, by decide, by decide⟩
    · exact ⟨100, rfl, by decide, by decide⟩
    · exact ⟨1000, rfl, by decide, by decide⟩)
  let dv : Nat → Int := fun k => if h : k < 4 then (hdd k h).choose else 1
  have dv1 : ∀ k : Nat, k < 4 → atI [Dt.int 1, .int 10, .int 100, .int 1000] (0 + (k : Int)) = some (.int (dv k)) ∧ 0 < dv k ∧ dv k ≤ 1000 := fun k hk => by
    have := (hdd k hk).choose_spec
    have e : dv k = (hdd k hk).choose := dif_pos hk
    rw [e]; exact this
  let sp : Nat → Str := fun k => numT (n / dv k % q - 3)
  have hsp : ∀ k : Nat, Wd 12 (sp k) := fun k => numT_wd (k := 4) (by decide) (by
    have a := Int.emod_nonneg (n / dv k) (show q ≠ 0 by omega)
    have b := Int.emod_lt_of_pos (n / dv k) hq1
    show (n / dv k % q - 3).natAbs < 10000
    omega) (by decide)
  refine run_set (d := .lst (tx ((List.range 4).map sp))) ok (EvD.is (EvN.ev ok (en_map (List.range 4) (fun (k : Nat) => Dt.int (0 + (k : Int))) (fun k => [(11, .int (0 + (k : Int)))]) (fun k => .str (sp k)) ok (ei_range1 (n := 4) (ea_cons ok (ev_int ok) (ea_nil ok)) ⟨by decide, by decide⟩) (fun _ _ => tg_name) (fun _ _ i hi => by simpa using hi) (fun k hk => by
      obtain ⟨d1, d2, d3⟩ := dv1 k (List.mem_range.mp hk)
      have a := Int.emod_nonneg (n / dv k) (show q ≠ 0 by omega)
      have b := Int.emod_lt_of_pos (n / dv k) hq1
      exact ev_numT ok (ev_op ok (ev_op ok (ev_op ok (ev_var ok rfl) (ev_op ok (by walk_at "ev") (ev_var ok rfl) (rv_ixL ok d1)) (rv_intC (g := fun i j => i / j) ok ⟨d2, by omega⟩)) (ev_op ok (by walk_at "ev") (by walk_at "ev") (rv_ixL ok eq)) (rv_intC (g := fun i j => i % j) ok hq1)) (ev_int ok) (rv_int (g := fun i j => i - j) ok)) (by omega)) (by decide))) (by rw [tx, List.map_map]; rfl)) ?_
  have gsp : Gd 4 ((List.range 4).map sp) := Gd.map (by simp) fun k _ => hsp k
  generalize ((List.range 4).map sp) = spots at gsp
  have lsp := gsp.ln
  have W : ∀ {s : Str}, plain s = true → s.length ≤ 12 → Wd 12 s := fun a b => ⟨a, b⟩
  -- shape
  obtain ⟨z, ez, z1, z2⟩ := at_int (xs := [.int 9, .int 1000, .int 99999]) (i := m / 128 % 3) (Q := fun z => 0 < z ∧ z ≤ 99999) (by omega) (by show _ < (3 : Int); omega) (by
    intro d hd
    simp only [List.mem_cons, List.not_mem_nil, or_false] at hd
    rcases hd with rfl | rfl | rfl
    · exact ⟨9, rfl, by decide, by decide⟩
    · exact ⟨1000, rfl, by decide, by decide⟩
    · exact ⟨99999, rfl, by decide, by decide⟩)
  have za := Int.emod_nonneg n (show z ≠ 0 by omega)
  have zb := Int.emod_lt_of_pos n z1
  refine run_when ok (by walk_at "ev") (fun _ => run_ret ok (ev_lst ok (ea_cons ok (ev_str ok) (ea_cons ok (ev_var ok rfl) (ea_cons ok (ev_numT ok (ev_op ok (ev_var ok rfl) (ev_op ok (by walk_at "ev") (by walk_at "ev") (rv_ixL ok ez)) (rv_intC (g := fun i j => i % j) ok z1)) (by omega)) (ea_nil ok)))) (Nat.le_of_ble_eq_true rfl)) (rfl : _ = Dt.lst (tx ["shape", nm, numT (n % z)])) (fin _ (by simp) ((Gd.cons (W (by decide +kernel) (by decide +kernel)) (Gd.cons hnm (Gd.cons (numT_wd (k := 5) (by decide) (by show _ < 100000; omega) (by decide)) Gd.nil))).up (m := 40) (n := 0 + 1 + 1 + 1) (by decide)))) (fun _ => ?_)
  have g3 : ∀ {x : Str}, Wd 12 x → Gd 3 [x, nm, sd] := fun h => (Gd.cons h (Gd.cons hnm (Gd.cons hsd Gd.nil))).up (n := 0 + 1 + 1 + 1) (by decide)
  -- mark
  refine run_when ok (by walk_at "ev") (fun _ => run_ret ok (ev_catT (xs := ["mark", nm, sd]) ok (ev_lst ok (ea_cons ok (ev_str ok) (ea_cons ok (ev_var ok rfl) (ea_cons ok (ev_var ok rfl) (ea_nil ok)))) (Nat.le_of_ble_eq_true rfl)) (ev_var ok rfl) (by simp only [List.length_cons, List.length_nil]; omega)) rfl (fin _ (by simp) (((g3 (W (by decide +kernel) (by decide +kernel))).app gsp).up (by decide)))) (fun _ => ?_)
  -- point
  obtain ⟨sp2, cs2, ns2, ms2⟩ := cut_tx spots none (some 2)
  refine run_when ok (by walk_at "ev") (fun _ => run_ret ok (ev_catT (xs := ["point", nm, sd]) ok (ev_lst ok (ea_cons ok (ev_str ok) (ea_cons ok (ev_var ok rfl) (ea_cons ok (ev_var ok rfl) (ea_nil ok)))) (Nat.le_of_ble_eq_true rfl)) (ev_cutE ok (ev_var ok rfl) (eo_none ok) (eo_some (ev_int ok)) cs2) (by simp only [List.length_cons, List.length_nil]; omega)) rfl (fin _ (by simp) (((g3 (W (by decide +kernel) (by decide +kernel))).app (gsp.sub ns2 ms2)).up (by decide)))) (fun _ => ?_)
  -- letter
  have nz : 0 ≤ n % 3 ∧ n % 3 < 3 := ⟨by omega, by omega⟩
  obtain ⟨t4, w4⟩ := takes (4 + n % 3) (by omega)
  have some4 : ∀ {ds : List (Option Dt)} {te : TE} {x : Int}, ds[0]? = some (some (.lst (tx ns))) → ds[2]? = some (some (.int n)) → EvD te (Bs No G H) ds (.int x) →
      EvD (tCall spSome [] E0 (tCons (tSl (rSlL K) (tVar 0) tNoPart (tPart (tOp (rI0 fun i j => .int (i + j)) (tC (.int 4)) (tOp (rI (fun _ j => 0 < j) fun i j => .int (i % j)) (tVar 2) (tC (.int 3)))))) (tCons te tNil))) (Bs No G H) ds (.str (someOf (ns.take (4 + n % 3).toNat) x)) := fun a b c =>
    ev_call ok (ea_cons ok (ev_takeE ok (ev_var ok a) (ev_op ok (ev_int ok) (ev_op ok (ev_var ok b) (ev_int ok) (rv_intC (g := fun i j => i % j) ok (by decide))) (rv_int (g := fun i j => i + j) ok)) (by omega)) (ea_cons ok c (ea_nil ok))) rfl (fun _ _ _ => ⟨_, _, rfl, t4, rfl⟩)
  refine run_when ok (by walk_at "ev") (fun _ => ?_) (fun _ => ?_)
  · have hj : Wd 12 ((["none", "back", "both", "clear"] : List Str).getD (m / 64 % 4).toNat "") := wd_getD (by
      intro s hs
      simp only [List.mem_cons, List.not_mem_nil, or_false] at hs
      rcases hs with rfl | rfl | rfl | rfl <;> exact ⟨by decide +kernel, by decide +kernel⟩) _
    refine run_set (d := .str ((["none", "back", "both", "clear"] : List Str).getD (m / 64 % 4).toNat "")) ok (ev_op ok (ev_lst ok (ea_cons ok (ev_str ok) (ea_cons ok (ev_str ok) (ea_cons ok (ev_str ok) (ea_cons ok (ev_str ok) (ea_nil ok))))) (Nat.le_of_ble_eq_true rfl)) (by walk_at "ev") (rv_ixL ok (at_txt (l := ["none", "back", "both", "clear"]) (by omega) (by show _ < (4 : Int); omega)))) ?_
    generalize ((["none", "back", "both", "clear"] : List Str).getD (m / 64 % 4).toNat "") = jn at hj
    obtain ⟨mn, em, mn1, mn2⟩ := at_int (xs := [.int 1, .int 2, .int 4, .int 1]) (i := m / 64 % 4) (Q := fun z => 0 ≤ z ∧ z ≤ 4) (by omega) (by show _ < (4 : Int); omega) (by
      intro d hd
      simp only [List.mem_cons, List.not_mem_nil, or_false] at hd
      rcases hd with rfl | rfl | rfl | rfl
      · exact ⟨1, rfl, by decide, by decide⟩
      · exact ⟨2, rfl, by decide, by decide⟩
      · exact ⟨4, rfl, by decide, by decide⟩
      · exact ⟨1, rfl, by decide, by decide⟩)
    refine run_set (d := .int mn) ok (ev_op ok (by walk_at "ev") (by walk_at "ev") (rv_ixL ok em)) ?_
    refine run_set (d := .lst (tx ((List.range mn.toNat).map fun (k : Nat) => someOf (ns.take (4 + n % 3).toNat) (n / ((0 + (k : Int)) + 2))))) ok (EvD.is (EvN.ev ok (en_map (List.range mn.toNat) (fun (k : Nat) => Dt.int (0 + (k : Int))) (fun k => [(11, .int (0 + (k : Int)))]) (fun k => .str (someOf (ns.take (4 + n % 3).toNat) (n / ((0 + (k : Int)) + 2)))) ok (ei_range1 (n := mn) (ea_cons ok (ev_var ok rfl) (ea_nil ok)) ⟨mn1, by omega⟩) (fun _ _ => tg_name) (fun _ _ i hi => by simpa using hi)
      (fun k hk => by
        have hk' := List.mem_range.mp hk
        exact some4 rfl rfl (ev_op ok (ev_var ok rfl) (ev_op ok (ev_var ok rfl) (ev_int ok) (rv_int (g := fun i j => i + j) ok)) (rv_intC (g := fun i j => i / j) ok ⟨by omega, by omega⟩))) (by rw [List.length_range]; show _ ≤ 16000000; omega))) (by rw [tx, List.map_map]; rfl)) ?_
    have gf : Gd 4 ((List.range mn.toNat).map fun (k : Nat) => someOf (ns.take (4 + n % 3).toNat) (n / ((0 + (k : Int)) + 2))) := Gd.map (by rw [List.length_range]; omega) fun k _ => wd_some w4 _
    generalize ((List.range mn.toNat).map fun (k : Nat) => someOf (ns.take (4 + n % 3).toNat) (n / ((0 + (k : Int)) + 2))) = fs at gf
    have lf := gf.ln
    have hw3 : Wd 12 ((["left", "right", "either"] : List Str).getD (m / 256 % 3).toNat "") := wd_getD (by
      intro s hs
      simp only [List.mem_cons, List.not_mem_nil, or_false] at hs
      rcases hs with rfl | rfl | rfl <;> exact ⟨by decide +kernel, by decide +kernel⟩) _
    refine run_ret ok (ev_catT (xs := ["letter", nm, jn, (["left", "right", "either"] : List Str).getD (m / 256 % 3).toNat ""]) ok (ev_lst ok (ea_cons ok (ev_str ok) (ea_cons ok (ev_var ok rfl) (ea_cons ok (ev_var ok rfl) (ea_cons ok (ev_op ok (ev_lst ok (ea_cons ok (ev_str ok) (ea_cons ok (ev_str ok) (ea_cons ok (ev_str ok) (ea_nil ok)))) (Nat.le_of_ble_eq_true rfl)) (by walk_at "ev") (rv_ixL ok (at_txt (l := ["left", "right", "either"]) (by omega) (by show _ < (3 : Int); omega)))) (ea_nil ok))))) (Nat.le_of_ble_eq_true rfl)) (ev_var ok rfl) (by simp only [List.length_cons, List.length_nil]; omega)) rfl
      (fin _ (by simp) (((Gd.cons (W (by decide +kernel) (by decide +kernel)) (Gd.cons hnm (Gd.cons hj (Gd.cons hw3 Gd.nil)))).app gf).up (n := 0 + 1 + 1 + 1 + 1 + 4) (by decide)))
  -- gap
  refine run_when ok (by walk_at "ev") (fun _ => run_ret ok (ev_lst ok (ea_cons ok (ev_str ok) (ea_cons ok (ev_var ok rfl) (ea_nil ok))) (Nat.le_of_ble_eq_true rfl)) (rfl : _ = Dt.lst (tx ["gap", nm])) (fin _ (by simp) ((Gd.cons (W (by decide +kernel) (by decide +kernel)) (Gd.cons hnm Gd.nil)).up (n := 0 + 1 + 1) (by decide)))) (fun _ => ?_)
  -- class
  have g2 : ∀ {x : Str}, Wd 12 x → Gd 2 [x, nm] := fun h => (Gd.cons h (Gd.cons hnm Gd.nil)).up (n := 0 + 1 + 1) (by decide)
  have gcl : Gd 4 ((List.range (1 + n / 3 % 4).toNat).map fun (k : Nat) => someOf (ns.take (4 + n % 3).toNat) (n / ((0 + (k : Int)) + 2))) := Gd.map (by rw [List.length_range]; omega) fun k _ => wd_some w4 _
  refine run_when ok (by walk_at "ev") (fun _ => run_ret ok (ev_catT (xs := ["class", nm]) (ys := (List.range (1 + n / 3 % 4).toNat).map fun (k : Nat) => someOf (ns.take (4 + n % 3).toNat) (n / ((0 + (k : Int)) + 2))) ok (ev_lst ok (ea_cons ok (ev_str ok) (ea_cons ok (ev_var ok rfl) (ea_nil ok))) (Nat.le_of_ble_eq_true rfl))
    (EvD.is (EvN.ev ok (en_map (List.range (1 + n / 3 % 4).toNat) (fun (k : Nat) => Dt.int (0 + (k : Int))) (fun k => [(11, .int (0 + (k : Int)))]) (fun k => .str (someOf (ns.take (4 + n % 3).toNat) (n / ((0 + (k : Int)) + 2)))) ok (ei_range1 (n := 1 + n / 3 % 4) (by walk_at "ev") ⟨by omega, by omega⟩) (fun _ _ => tg_name) (fun _ _ i hi => by simpa using hi)
      (fun k hk => by
        have hk' := List.mem_range.mp hk
        exact some4 rfl rfl (ev_op ok (ev_var ok rfl) (ev_op ok (ev_var ok rfl) (ev_int ok) (rv_int (g := fun i j => i + j) ok)) (rv_intC (g := fun i j => i / j) ok ⟨by omega, by omega⟩))) (by rw [List.length_range]; show _ ≤ 16000000; omega))) (by rw [tx, List.map_map]; rfl)) (by have := gcl.ln; simp only [List.length_cons, List.length_nil]; omega)) rfl (fin _ (by simp) (((g2 (W (by decide +kernel) (by decide +kernel))).app gcl).up (by decide)))) (fun _ => ?_)
  -- feature
  have ho : Wd 12 ((["on", "off"] : List Str).getD (m / 64 % 2).toNat "") := wd_getD (by
    intro s hs
    simp only [List.mem_cons, List.not_mem_nil, or_false] at hs
    rcases hs with rfl | rfl <;> exact ⟨by decide +kernel, by decide +kernel⟩) _
  refine run_when ok (by walk_at "ev") (fun _ => run_ret ok (ev_lst ok (ea_cons ok (ev_str ok) (ea_cons ok (ev_var ok rfl) (ea_cons ok (ev_op ok (ev_lst ok (ea_cons ok (ev_str ok) (ea_cons ok (ev_str ok) (ea_nil ok))) (Nat.le_of_ble_eq_true rfl)) (by walk_at "ev") (rv_ixL ok (at_txt (l := ["on", "off"]) (by omega) (by show _ < (2 : Int); omega)))) (ea_nil ok)))) (Nat.le_of_ble_eq_true rfl)) (rfl : _ = Dt.lst (tx ["feature", nm, (["on", "off"] : List Str).getD (m / 64 % 2).toNat ""])) (fin _ (by simp) ((Gd.cons (W (by decide +kernel) (by decide +kernel)) (Gd.cons hnm (Gd.cons ho Gd.nil))).up (n := 0 + 1 + 1 + 1) (by decide)))) (fun _ => ?_)
  -- rule
  obtain ⟨t3, w3⟩ := takes (3 + n % 3) (by omega)
  obtain ⟨t44, w44⟩ := takes 4 (by decide)
  have lw44 : ∀ s ∈ ns.take (4 : Int).toNat, s.length ≤ 1000 := fun s hs => Nat.le_trans (w44 s hs).2 (by decide)
  have w44' : ∀ s ∈ ns.take (4 : Int).toNat, Wd 11 s := fun s hs => (hwd s (List.mem_of_mem_take hs)).up (by decide)
  refine run_set (d := .lst (tx ["rule", nm, someOf (ns.take (3 + n % 3).toNat) (m / 64)])) ok (ev_lst ok (ea_cons ok (ev_str ok) (ea_cons ok (ev_var ok rfl) (ea_cons ok (ev_call ok (ea_cons ok (ev_takeE ok (ev_var ok rfl) (by walk_at "ev") (by omega)) (ea_cons ok (by walk_at "ev") (ea_nil ok))) rfl (fun _ _ _ => ⟨_, _, rfl, t3, rfl⟩)) (ea_nil ok)))) (Nat.le_of_ble_eq_true rfl)) ?_
  let sz : Nat → Int := fun i => if i = 0 then n % 4 / 2 else if i = 1 then 1 + n / 4 % 3 else n / 12 % 4 / 2
  have hsz : ∀ i, 0 ≤ sz i ∧ sz i ≤ 3 := fun i => by
    show 0 ≤ (if i = 0 then n % 4 / 2 else if i = 1 then 1 + n / 4 % 3 else n / 12 % 4 / 2) ∧ (if i = 0 then n % 4 / 2 else if i = 1 then 1 + n / 4 % 3 else n / 12 % 4 / 2) ≤ 3
    split
    · omega
    · split <;> omega
  refine run_set (d := .lst [.int (n % 4 / 2), .int (1 + n / 4 % 3), .int (n / 12 % 4 / 2)]) ok (by walk_at "ev") ?_
  let it : Nat → Nat → Str := fun i j => itemOf (ns.take (4 : Int).toNat) (n / (7 * (i : Int) + 5 * (0 + (j : Int)) + 11))
  let Wf : Nat → List Str := fun i => ((List.range i).map fun k => ((List.range (sz k).toNat).map (it k)) ++ (["/"] : List Str)).flatten
  have hWs : ∀ i, Wf (i + 1) = Wf i ++ (((List.range (sz i).toNat).map (it i)) ++ (["/"] : List Str)) := fun i => by
    show ((List.range (i + 1)).map _).flatten = _
    rw [List.range_succ, List.map_append, List.flatten_append]
    simp [Wf]
  have gW : ∀ i, Gd (4 * i) (Wf i) := fun i => by
    induction i with
    | zero => exact Gd.nil
    | succ i ih =>
      rw [hWs]
      have a : Gd 3 ((List.range (sz i).toNat).map (it i)) := Gd.map (by rw [List.length_range]; have := (hsz i).2; omega) fun k _ => (wd_item w44' _).up (by decide)
      have b : Gd 1 ["/"] := Gd.cons (W (by decide +kernel) (by decide +kernel)) Gd.nil
      exact (ih.app (a.app b)).up (by omega)
  have gw0 : Gd 3 (["rule", nm, someOf (ns.take (3 + n % 3).toNat) (m / 64)] : List Str) := (Gd.cons (W (by decide +kernel) (by decide +kernel)) (Gd.cons hnm (Gd.cons (wd_some w3 _) Gd.nil))).up (n := 0 + 1 + 1 + 1) (by decide)
  generalize (["rule", nm, someOf (ns.take (3 + n % 3).toNat) (m / 64)] : List Str) = w0 at gw0
  refine run_seq (run_for (S := No) [((0 : Nat), sz 0), (1, sz 1), (2, sz 2)] (fun p => Dt.tup [.int (p.1 : Nat), .int p.2]) (fun p => [(11, .int (p.1 : Nat)), (12, .int p.2)]) (fun _ => Bs No G H)
    (fun i => [some (.lst (tx ns)), some (.int m), some (.int n), some (.str nm), some (.str sd), some (.lst (tx spots)), none, none, none, some (.lst (tx (w0 ++ Wf i))), some (.lst [.int (sz 0), .int (sz 1), .int (sz 2)]), none, none, none]) ok (fun _ => ok)
    (ei_enum (xs := [.int (sz 0), .int (sz 1), .int (sz 2)]) (ea_cons ok (ev_var ok rfl) (ea_nil ok))) (fun _ _ => tg_tup (tgs_cons tg_name (tgs_cons tg_name tgs_nil)) rfl) (fun _ _ k => k) (by rw [show Wf 0 = [] from rfl, List.append_nil]; exact Less.refl _) (fun i y hy Ga Ha ca => ?_) ?_)
  · have hy2 : y.1 = i ∧ y.2 = sz i ∧ i < 3 := by
      match i, hy with
      | 0, h => cases h; exact ⟨rfl, rfl, by decide⟩
      | 1, h => cases h; exact ⟨rfl, rfl, by decide⟩
      | 2, h => cases h; exact ⟨rfl, rfl, by decide⟩
      | i + 3, h => simp at h
    obtain ⟨k, sv⟩ := y
    obtain ⟨e1, e2, hi3⟩ := hy2
    replace e1 : k = i := e1
    replace e2 : sv = sz i := e2
    subst e1 e2
    have ok2 : Cok (In (Bs No G H) No Ga Ha) := In.ok ok
    have s0 := hsz k
    have lW := (gW k).ln
    have lw0 := gw0.ln
    have gi : Gd 3 ((List.range (sz k).toNat).map (it k)) := Gd.map (by rw [List.length_range]; omega) fun j _ => (wd_item w44' _).up (by decide)
    have li := gi.ln
    refine run_asg ok2 (ev_catT (ys := ["/"]) ok2 (ev_catT (ys := (List.range (sz k).toNat).map (it k)) ok2 (ev_var ok2 rfl) (EvD.is (EvN.ev ok2 (en_map (List.range (sz k).toNat) (fun (j : Nat) => Dt.int (0 + (j : Int))) (fun j => [(13, .int (0 + (j : Int)))]) (fun j => .str (it k j)) ok2 (ei_range1 (n := sz k) (ea_cons ok2 (ev_var ok2 rfl) (ea_nil ok2)) ⟨s0.1, by omega⟩) (fun _ _ => tg_name) (fun _ _ i hi => by simpa using hi)
      (fun j hj => by
        have hj' := List.mem_range.mp hj
        exact ev_call ok2 (ea_cons ok2 (ev_takeE ok2 (ev_var ok2 rfl) (ev_int ok2) (by decide)) (ea_cons ok2 (ev_op ok2 (ev_var ok2 rfl) (ev_op ok2 (ev_op ok2 (ev_op ok2 (ev_int ok2) (ev_var ok2 rfl) (rv_intC (g := fun i j => i * j) ok2 (.inl ⟨by decide, by decide⟩))) (ev_op ok2 (ev_int ok2) (ev_var ok2 rfl) (rv_intC (g := fun i j => i * j) ok2 (.inl ⟨by decide, by decide⟩))) (rv_int (g := fun i j => i + j) ok2)) (ev_int ok2) (rv_int (g := fun i j => i + j) ok2)) (rv_intC (g := fun i j => i / j) ok2 ⟨by omega, by omega⟩)) (ea_nil ok2))) rfl (fun _ _ _ => ⟨_, _, rfl, t44, lw44, rfl⟩)) (by rw [List.length_range]; show _ ≤ 16000000; omega))) (by rw [tx, List.map_map]; rfl)) (by rw [List.length_append]; omega)) (ev_lst ok2 (ea_cons ok2 (ev_str ok2) (ea_nil ok2)) (Nat.le_of_ble_eq_true rfl)) (by simp only [List.length_append, List.length_cons, List.length_nil]; omega)) ?_
    intro G1 σ1 H1 k1 s1
    refine ⟨G1, k1.2, k1.1, s1.less ?_⟩
    rw [show w0 ++ Wf (k + 1) = w0 ++ Wf k ++ (List.range (sz k).toNat).map (it k) ++ (["/"] : List Str) by rw [hWs]; simp [List.append_assoc]]
    exact .keep (.keep (.keep (.keep (.keep (.keep (.keep (.keep (.keep (.keep (.keep (.gone (.gone (.keep .nil)))))))))))))
  · obtain ⟨l1, c1, n1', ml1⟩ := cut_tx (w0 ++ Wf 3) none (some (-1))
    have g3' : Gd 15 (w0 ++ Wf 3) := (gw0.app (gW 3)).up (by decide)
    have gl := g3'.sub n1' ml1
    have ll := gl.ln
    have gt : Gd 3 ((List.range (1 + n / 24 % 3).toNat).map fun (j : Nat) => someOf (ns.take (4 : Int).toNat) (n / (31 * (0 + (j : Int)) + 37))) := Gd.map (by rw [List.length_range]; omega) fun j _ => wd_some w44 _
    have lt' := gt.ln
    have g1' : Gd 1 ([">"] : List Str) := Gd.cons (W (by decide +kernel) (by decide +kernel)) Gd.nil
    refine run_nx (run_ret ok (ev_catT (xs := l1 ++ ([">"] : List Str)) (ys := (List.range (1 + n / 24 % 3).toNat).map fun (j : Nat) => someOf (ns.take (4 : Int).toNat) (n / (31 * (0 + (j : Int)) + 37))) ok (ev_catT (ys := [">"]) ok (ev_cutE ok (ev_var ok rfl) (eo_none ok) (eo_some (ev_un ok (ev_int ok) rfl)) c1) (ev_lst ok (ea_cons ok (ev_str ok) (ea_nil ok)) (Nat.le_of_ble_eq_true rfl)) (by simp only [List.length_cons, List.length_nil]; omega))
      (EvD.is (EvN.ev ok (en_map (List.range (1 + n / 24 % 3).toNat) (fun (j : Nat) => Dt.int (0 + (j : Int))) (fun j => [(13, .int (0 + (j : Int)))]) (fun j => .str (someOf (ns.take (4 : Int).toNat) (n / (31 * (0 + (j : Int)) + 37)))) ok (ei_range1 (n := 1 + n / 24 % 3) (by walk_at "ev") ⟨by omega, by omega⟩) (fun _ _ => tg_name) (fun _ _ i hi => by simpa using hi)
        (fun j hj => by
          have hj' := List.mem_range.mp hj
          exact ev_call ok (ea_cons ok (ev_takeE ok (ev_var ok rfl) (ev_int ok) (by decide)) (ea_cons ok (ev_op ok (ev_var ok rfl) (ev_op ok (ev_op ok (ev_int ok) (ev_var ok rfl) (rv_intC (g := fun i j => i * j) ok (.inl ⟨by decide, by decide⟩))) (ev_int ok) (rv_int (g := fun i j => i + j) ok)) (rv_intC (g := fun i j => i / j) ok ⟨by omega, by omega⟩)) (ea_nil ok))) rfl (fun _ _ _ => ⟨_, _, rfl, t44, rfl⟩)) (by rw [List.length_range]; show _ ≤ 16000000; omega))) (by rw [tx, List.map_map]; rfl)) (by simp only [List.length_append, List.length_cons, List.length_nil]; omega)) rfl (fin _ (by simp) (((gl.app g1').app gt).up (by decide))))
end
end Kx

namespace Kx
open PySem L2
/-- what is asked of the error's class -/
structure BadI (K : PySem.W.Frag) (mg : Str → Option Value) (cB c1 c2 c3 c4 : Addr) : Prop where
  me : PySem.W.kitOne K (.ref cB) (.ref cB) = some true
  ve : PySem.W.kitOne K (.ref cB) (.type "ValueError") = some true
  no : PySem.W.kitAny K (.ref cB) [.ref c1, .ref c2, .ref c3, .ref c4] = some false
  g1 : mg "BadDeed" = some (.ref c1)
  g2 : mg "NoFeature" = some (.ref c2)
  g3 : mg "NoLetter" = some (.ref c3)
  g4 : mg "NoRow" = some (.ref c4)
  bv : mg "ValueError" = none
theorem ev_lstA {C : Hp → Hp → Prop} {ds : List (Option Dt)} {tl' : TA} {xs : List Dt} (ok : Cok C) (h : EvA tl' C ds xs) (hl : xs.length ≤ Lim := by exact Nat.le_of_ble_eq_true rfl) : EvD (tLst tl') C ds (.lst xs) := ev_lst ok h hl
theorem ev_tupA {C : Hp → Hp → Prop} {ds : List (Option Dt)} {tl' : TA} {xs : List Dt} (ok : Cok C) (h : EvA tl' C ds xs) (hl : xs.length ≤ Lim := by exact Nat.le_of_ble_eq_true rfl) : EvD (tTup tl') C ds (.tup xs) := ev_tup ok h hl
theorem ev_isK {C : Hp → Hp → Prop} {ds : List (Option Dt)} {K : PySem.W.Frag} {ta : TE} {a cB d : Addr} {fs : List (Str × V)} {c : V} {u : Value} {b : Bool} (ok : Cok C) (ha : EvD ta C ds (.obj a)) (hc : ∀ G H, C G H → H a = some (xk a (.ref cB) (some d)) ∧ H d = some (.xd fs)) (T : PySem.W.KxExc K cB) (cv : ClsV c u) (e : PySem.W.kitOne K (.ref cB) u = some b) :
    EvD (tCB (rIsK K) (tCons ta (tCons (tC c) tNil))) C ds (.bl b) := fun G σ H k s Q z => ha G σ H k s _ fun v G1 H1 p1 r1 => by
  cases r1
  obtain ⟨e1, e2⟩ := hc G1 H1 (ok.stp k p1)
  exact ⟨a, cB, d, fs, c, u, b, rfl, e1, e2, T, cv, e, z _ G1 H1 p1 (.bl b)⟩
theorem rep_objs {G : Hp} : ∀ {cs : List Addr} {vs : List V}, RepA G vs (cs.map Dt.obj) → vs = cs.map V.ref
  | [], _, .nil => rfl
  | _ :: _, _, .cons (.obj _) r => by rw [rep_objs r]; rfl
theorem clsRefs : ∀ cs : List Addr, Paired ClsV (cs.map V.ref) (cs.map Value.ref)
  | [] => .nil
  | c :: cs => .cons (.own c) (clsRefs cs)
theorem ev_isKT {C : Hp → Hp → Prop} {ds : List (Option Dt)} {K : PySem.W.Frag} {ta tb : TE} {a cB d : Addr} {fs : List (Str × V)} {cs : List Addr} {b : Bool} (ok : Cok C) (ha : EvD ta C ds (.obj a)) (hb : EvD tb C ds (.tup (cs.map Dt.obj))) (hc : ∀ G H, C G H → H a = some (xk a (.ref cB) (some d)) ∧ H d = some (.xd fs)) (T : PySem.W.KxExc K cB) (e : PySem.W.kitAny K (.ref cB) (cs.map Value.ref) = some b) :
    EvD (tCB (rIsKT K) (tCons ta (tCons tb tNil))) C ds (.bl b) := fun G σ H k s Q z => ha G σ H k s _ fun v G1 H1 p1 r1 => hb G1 σ H1 (ok.stp k p1) (s.mono p1.gg) _ fun v2 G2 H2 p2 r2 => by
  cases r1
  obtain ⟨e1, e2⟩ := hc G2 H2 (ok.stp k (p1.trans p2))
  cases r2 with
  | tup et rt =>
    have e3 := rep_objs rt
    subst e3
    exact ⟨a, cB, d, fs, _, _, _, b, rfl, e1, e2, T, p2.gh _ _ et, clsRefs cs, e, z _ G2 H2 (p1.trans p2) (.bl b)⟩
theorem ev_xk {C : Hp → Hp → Prop} {ds : List (Option Dt)} {K : PySem.W.Frag} {ta : TE} {f : Str} {a cB d : Addr} {fs : List (Str × V)} {v : V} {r : Dt} (ok : Cok C) (ha : EvD ta C ds (.obj a)) (hc : ∀ G H, C G H → H a = some (xk a (.ref cB) (some d)) ∧ H d = some (.xd fs)) (T : PySem.W.KxExc K cB) (hn : PySem.W.findIn K (.ref cB) f = some none) (hl : fs.lookup f = some v) (hr : ∀ G, Rep G v r) :
    EvD (tXk K f ta) C ds r := fun G σ H k s Q z => ha G σ H k s _ fun x G1 H1 p1 r1 => by
  cases r1
  obtain ⟨e1, e2⟩ := hc G1 H1 (ok.stp k p1)
  exact ⟨a, cB, d, fs, v, rfl, e1, e2, T, hn, hl, z _ G1 H1 p1 (hr G1)⟩
section
variable {P : Program} {w : World} {K : PySem.W.Frag} {mg : Str → Option Value} {base : Heap} {cl cE cB fB c1 c2 c3 c4 fR : Addr}
local macro_rules | `(tactic| walk_at "ev") => `(tactic| with_reducible first
  | (show EvD _ _ _ _; first
    | exact ev_var (by assumption) rfl
    | exact ev_int (by assumption)
    | exact ev_str (by assumption)
    | exact ev_non (by assumption)
    | exact ev_bl (by assumption)
    | (refine' ev_call (by assumption) ?_ ?_ ?_ <;> (try walk_at "ev"))
    | (refine' ev_op (by assumption) ?_ ?_ ?_ <;> (try walk_at "ev"))
    | (refine' ev_un (by assumption) ?_ rfl <;> (try walk_at "ev"))
    | (refine' ev_andV (by assumption) ?_ (fun _ => ?_) <;> (try walk_at "ev"))
    | (refine' ev_orV (by assumption) ?_ (fun _ => ?_) <;> (try walk_at "ev"))
    | (refine' ev_notV (by assumption) ?_ <;> (try walk_at "ev"))
    | (refine' ev_chain (by assumption) ?_ ?_ ?_ ?_ ?_ <;> (try walk_at "ev"))
    | (refine' ev_cb (by assumption) ?_ ?_ <;> (try walk_at "ev"))
    | (refine' ev_bm (by assumption) ?_ ?_ ?_ <;> (try walk_at "ev"))
    | (refine' ev_m1 (by assumption) ?_ ?_ ?_ <;> (try walk_at "ev"))
    | (refine' ev_sliceS (by assumption) ?_ ?_ ?_ <;> (try walk_at "ev"))
    | (refine' ev_slice (by assumption) ?_ ?_ ?_ <;> (try walk_at "ev"))
    | (refine' ev_tup (by assumption) ?_ ?_ <;> (try walk_at "ev"))
    | (refine' ev_lst (by assumption) ?_ ?_ <;> (try walk_at "ev"))
    | exact ev_h_shapes (by assumption) (by assumption) (by assumption) (ev_var (by assumption) rfl)
    | exact ev_h_marks (by assumption) (by assumption) (by assumption) (ev_var (by assumption) rfl)
    | exact ev_h_points (by assumption) (by assumption) (by assumption) (ev_var (by assumption) rfl)
    | exact ev_h_letters (by assumption) (by assumption) (by assumption) (ev_var (by assumption) rfl)
    | exact ev_h_gaps (by assumption) (by assumption) (by assumption) (ev_var (by assumption) rfl)
    | exact ev_h_classes (by assumption) (by assumption) (by assumption) (ev_var (by assumption) rfl)
    | exact ev_h_features (by assumption) (by assumption) (by assumption) (ev_var (by assumption) rfl)
    | exact ev_h_rules (by assumption) (by assumption) (by assumption) (ev_var (by assumption) rfl)
    | (refine' ev_dinK (by assumption) ?_ ?_ ?_ <;> (try walk_at "ev"))
    | (refine' ev_dniK (by assumption) ?_ ?_ ?_ <;> (try walk_at "ev"))
    | (refine' ev_dinT (by assumption) ?_ ?_ ?_ <;> (try walk_at "ev")))
  | (show EvA _ _ _ _; first
    | exact ea_nil (by assumption)
    | (refine' ea_cons (by assumption) ?_ ?_ <;> (try walk_at "ev")))
  | (show RV _ _ _ _ _; first
    | exact rv_int (by assumption)
    | exact rv_cmp (by assumption)
    | exact rv_eq (by assumption) rfl
    | exact rv_ne (by assumption) rfl
    | exact rv_isN (by assumption) rfl
    | exact rv_notN (by assumption) rfl
    | exact rv_inT (by assumption) (.inl rfl)
    | exact rv_inT (by assumption) (.inr rfl)
    | exact rv_niT (by assumption) (.inl rfl)
    | exact rv_niT (by assumption) (.inr rfl)
    | exact rv_inS (by assumption)
    | exact rv_niS (by assumption)
    | exact rv_ixS (by assumption) (by assumption)
    | exact rv_ixL (by assumption) (by assumption)
    | exact rv_ixT (by assumption) (by assumption)
    | exact rv_ixT (by assumption) rfl
    | exact rv_ixL (by assumption) rfl
    | (refine' rv_inM (by assumption) ?_ <;> (try walk_at "ev"))
    | (refine' rv_niM (by assumption) ?_ <;> (try walk_at "ev"))
    | (refine' rv_inX (by assumption) ?_ (.inl rfl) <;> (try walk_at "ev"))
    | (refine' rv_inX (by assumption) ?_ (.inr rfl) <;> (try walk_at "ev"))
    | (refine' rv_niX (by assumption) ?_ (.inl rfl) <;> (try walk_at "ev"))
    | (refine' rv_niX (by assumption) ?_ (.inr rfl) <;> (try walk_at "ev"))
    | exact rv_in (neg := false) (by assumption) rfl rfl (.inr rfl)
    | exact rv_in (neg := true) (by assumption) rfl rfl (.inr rfl)
    | exact rv_intC (g := fun i j => i % j) (by assumption) (by decide)
    | exact rv_intC (g := fun i j => i / j) (by assumption) (cdiv_ok (by decide)))
  | (show EvT _ _ _ _; first
    | exact et_yes (by assumption)
    | (refine' et_and (by assumption) ?_ (fun _ => ?_) <;> (try walk_at "ev"))
    | (refine' et_or (by assumption) ?_ (fun _ => ?_) <;> (try walk_at "ev"))
    | (refine' et_not ?_ <;> (try walk_at "ev"))
    | (refine' et_test ?_ <;> (try walk_at "ev"))
    | (refine' et_B ?_ <;> (try walk_at "ev")))
  | (show RC _ _ _ _; first
    | exact rc_lenL (by assumption)
    | exact rc_lenT (by assumption)
    | exact rc_lenS (by assumption)
    | exact rc_all (by assumption)
    | exact rc_intB (by assumption)
    | exact rc_strS (by assumption)
    | exact rc_listOf (by assumption) (.inl rfl)
    | exact rc_listOf (by assumption) (.inr rfl)
    | exact rc_tupOf (by assumption)
    | (refine' rc_lenD (by assumption) ?_ <;> (try walk_at "ev"))
    | (refine' rc_lenM (by assumption) ?_ <;> (try walk_at "ev")))
  | (show RM _ _ _ _ _; first
    | exact rm_strip' (by assumption))
  | (show EvO _ _ _ _; first
    | exact eo_none (by assumption)
    | (refine' eo_some ?_ <;> (try walk_at "ev")))
  | (show List.length _ ≤ Lim; with_unfolding_all exact Nat.le_of_ble_eq_true rfl)
  | (show List.length _ = _; with_unfolding_all rfl)
  | exact (fun _ _ _ => ⟨_, rfl, rfl⟩)
  | exact (fun _ _ _ => ⟨_, _, rfl, rfl⟩)
  | exact (fun _ _ _ => ⟨_, _, _, rfl, rfl⟩)
  | exact (fun _ _ _ => ⟨_, rfl, by assumption, rfl⟩)
  | exact hall_s (by assumption)
  | exact hall_m (by assumption)
  | exact hall_p (by assumption)
  | exact hall_l (by assumption)
  | exact hall_g (by assumption)
  | exact hall_c (by assumption)
  | exact hall_f (by assumption)
  | exact hall_r (by assumption)
  | exact TxL.of _
  | exact TxL.nil
  | (refine' TxL.cons ?_ <;> (try walk_at "ev")))


abbrev s_law_fault : Stmt := top 48
abbrev N_law_fault : List Str := ["_law_text", "_law_place", "_law_word_here", "_law_caught", "e"]
abbrev P_law_fault : List Str := ["_law_text", "_law_place", "_law_word_here"]
theorem sc_law_fault : FnScope N_law_fault P_law_fault (defScope s_law_fault) := ⟨rfl, rfl, rfl, by decide +kernel, rfl, by decide +kernel, by decide +kernel⟩

abbrev spFault : Sp := SpF 3 fun _ _ as r => ∃ (x : Str) (k : Nat) (wd : Str) (rest : List (Nat × Str)), as = [.str x, .int (k : Nat), .str wd] ∧ x.length ≤ 500000 ∧ faultsBy {} 0 (Txt.split x (Str.ofString "\n")) = (k, wd) :: rest ∧ r = .bl true
theorem cal_law_fault (B : Blt mg) (T : BadK K mg cE cB fB) (BI : BadI K mg cB c1 c2 c3 c4) (D : Dfn K mg "_law_fault" s_law_fault) (C_law_alike : Cal P w K mg base "_law_alike" 5 P_law_alike (SpAl 4))
    {fdR : FuncData} (GR : FnOk P w K mg base (L2.CX P w) 6 fR fdR P_read_hall (spReadHall cl cB)) (gR : mg "read_hall" = some (.ref fR)) (kR : PySem.W.keepIn K (.ref fR) = true) (bR : Binds K fdR P_read_hall []) :
    Cal P w K mg base "_law_fault" 7 P_law_fault spFault := by
  have sc := sc_law_fault
  have g1 := BI.g1
  have g2 := BI.g2
  have g3 := BI.g3
  have g4 := BI.g4
  replace C_law_alike := C_law_alike.mono (k := 6) (by decide)
  refine cal_of D (fun f fd F => fnok F sc fun cdv A outer s H E hr => have hr1 := hr; have hrR := hr; ⟨_, (pss_cons (ps_set (i := 3) sc.nd rfl (Or.inl rfl) pe_non)
      (pss_cons (ps_try_keep (i := 4) (tb := fun W => tDrop (tCallS (spReadHall cl cB) (WE W) (tCons (tVar 0) tNil))) (ts := fun _ _ _ => tAsg (tVar 4) (gName 3)) rfl rfl sc.nd rfl rfl ⟨rfl, by decide, Or.inl T.gE⟩ (fun W pn xe tk _ => pss_one (ps_expr (pe_callS GR hrR rfl gR kR bR (fun σ => passAt tk σ) (pa_cons (pv 0) pa_nil)))) (fun a oe cls d pn hz hf => pss_one (ps_set (i := 3) sc.nd rfl (Or.inl rfl) (pv 4))) rfl)
      (pss_cons (ps_if (PW.pt (pw_or (pt_not (pt_val (pe_callB (r := rIsK K) call_isK (by rfl) B.isinstance_ (by decide +kernel) (pa_cons (pv 3) (pa_cons (pe_glob (v := .ref cB) rfl T.gB rfl) pa_nil))))) (pw_or1 (pt_not (pt_val (pe_callB (r := rIsK K) call_isK (by rfl) B.isinstance_ (by decide +kernel) (pa_cons (pv 3) (pa_cons (pe_bltn (v := .ty "ValueError") (by rfl) BI.bv (by decide +kernel) rfl) pa_nil)))))))) (pss_one (ps_ret pe_bl)) pss_nil)
      (pss_cons (ps_if (pt_val (pe_callB (r := rIsKT K) call_isKT (by rfl) B.isinstance_ (by decide +kernel) (pa_cons (pv 3) (pa_cons (pe_tup (pa_cons (pe_glob (v := .ref c1) rfl g1 rfl) (pa_cons (pe_glob (v := .ref c2) rfl g2 rfl) (pa_cons (pe_glob (v := .ref c3) rfl g3 rfl) (pa_cons (pe_glob (v := .ref c4) rfl g4 rfl) pa_nil))))) pa_nil)))) (pss_one (ps_ret pe_bl)) pss_nil)
      (pss_one (ps_ret (pe_callC C_law_alike hr1 rfl (pa_cons (pe_lst (pa_cons (pe_xk (K := K) rfl (pv 3)) (pa_cons (pe_xk (K := K) rfl (pv 3)) pa_nil))) (pa_cons (pe_lst (pa_cons (pv 1) (pa_cons (pv 2) pa_nil))) pa_nil))))))))), fun G as r D hl sm hp hq hx => ?_⟩) (fun _ _ _ _ _ _ us hl => match us, hl with | [_, _, _], _ => rfl)
  obtain ⟨x, k, wd, rest, rfl, hxl, hfa, rfl⟩ := hp
  have ok : Cok (Bs No G H) := Bs.ok
  refine run_set (d := .non) ok (ev_non ok) ?_
  intro G1 σ1 H1 k1 s1
  obtain ⟨v0, h0, r0⟩ := s1.get (i := 0) rfl
  cases r0
  refine ⟨_, h0, G1, x, k1.gh, rfl, hxl, fun a G' H' e => ?_, fun k' f' rest' e d G' H' pu gd hd => ⟨T.exm, fun a hna => ?_⟩⟩
  · rw [hfa] at e; cases e
  · rw [hfa] at e
    cases e
    have stA : Pu G' H' G' (upd H' a (xk a (.ref cB) (some d))) := Pu.newM pu.gh hna
    have kA : Pu G H G' (upd H' a (xk a (.ref cB) (some d))) := (k1.trans pu).trans stA
    have da : d ≠ a := fun z => by rw [z, hna] at hd; cases hd
    refine ⟨.ref a, ?_, ?_⟩
    · have hl : σ1.length = 5 := s1.length
      rw [List.getElem?_set_self (by rw [hl]; decide)]
    let C2 : Hp → Hp → Prop := fun G2 H2 => Bs No G H G2 H2 ∧ H2 a = some (xk a (.ref cB) (some d)) ∧ H2 d = some (.xd [("word", .str wd), ("place", .int (k : Nat))])
    have ok2 : Cok C2 := ⟨fun c => ok.sub c.1, fun c p => ⟨ok.stp c.1 p, Pu.hs p _ _ c.2.1, Pu.hs p _ _ c.2.2⟩⟩
    have hc : C2 G' (upd H' a (xk a (.ref cB) (some d))) := ⟨kA, upd_same, by rw [upd_ne da]; exact hd⟩
    have sl2 : Slots G' (((σ1.set 4 (some (.ref a))).set 3 (some (.ref a))).set 4 none) [some (.str x), some (.int (k : Nat)), some (.str wd), some (.obj a), none] :=
      ((((s1.mono pu.gg).set (.obj a) 4).set (.obj a) 3).drop 4 none)
    unfold gName
    dsimp only
    refine (?_ : Run (tSeq _ _) C2 _ D) G' _ _ hc sl2
    have hx2 : ∀ G2 H2, C2 G2 H2 → H2 a = some (xk a (.ref cB) (some d)) ∧ H2 d = some (.xd [("word", .str wd), ("place", .int (k : Nat))]) := fun _ _ c => c.2
    have nt : ∀ {te : TE}, EvD te C2 [some (.str x), some (.int (k : Nat)), some (.str wd), some (.obj a), none] (.bl true) → EvT (tNot (tB te)) C2 [some (.str x), some (.int (k : Nat)), some (.str wd), some (.obj a), none] false := fun h => EvT.is (et_not (et_B h)) rfl
    refine run_skip ok2 (et_orF ok2 (nt (ev_isK ok2 (ev_var ok2 rfl) hx2 T.kx (.own cB) BI.me)) (nt (ev_isK ok2 (ev_var ok2 rfl) hx2 T.kx (.ty "ValueError") BI.ve))) ?_
    refine run_skip ok2 (et_B (ev_isKT (cs := [c1, c2, c3, c4]) ok2 (ev_var ok2 rfl) (ev_tupA ok2 (ea_cons ok2 (ev_ref ok2) (ea_cons ok2 (ev_ref ok2) (ea_cons ok2 (ev_ref ok2) (ea_cons ok2 (ev_ref ok2) (ea_nil ok2)))))) hx2 T.kx BI.no)) ?_
    have hw : wd.length ≤ Lim := by
      obtain ⟨v2, h2, r2⟩ := s1.get (i := 2) rfl
      cases r2 with
      | str _ h => exact h
    exact run_ret ok2 (ev_call ok2 (ea_cons ok2 (ev_lstA ok2 (ea_cons ok2 (ev_xk ok2 (ev_var ok2 rfl) hx2 T.kx T.nP rfl (fun _ => .int _)) (ea_cons ok2 (ev_xk ok2 (ev_var ok2 rfl) hx2 T.kx T.nW rfl (fun _ => .str _ hw)) (ea_nil ok2)))) (ea_cons ok2 (ev_lstA ok2 (ea_cons ok2 (ev_var ok2 rfl) (ea_cons ok2 (ev_var ok2 rfl) (ea_nil ok2)))) (ea_nil ok2))) rfl (fun _ _ _ => ⟨.lst [.int (k : Nat), .str wd], rfl, .lst (Nat.le_of_ble_eq_true rfl) (fun y hy => by
      simp only [List.mem_cons, List.not_mem_nil, or_false] at hy
      rcases hy with rfl | rfl
      · exact .int _
      · exact .str _), rfl⟩)) rfl (fun v G3 H3 k3 r3 => hq v G3 H3 k3.1 r3)
end
end Kx

namespace Kx
open PySem L2
/-! ## words and numbers as texts -/
def rStrX : List V → Hp → VK → Prop := fun xs H Q => rStrI xs H Q ∨ rStrS xs H Q
theorem call_strX {X : Cx} : CallR X (.type "str") rStrX := fun pins s σ H xs us Q I r h => h.elim (fun h => call_strI pins s σ H xs us Q I r h) (fun h => call_strS pins s σ H xs us Q I r h)
def cellT : Dt → Str
  | .int i => numT i | .str x => x | _ => ""
def Cell : Dt → Prop
  | .int i => i.natAbs < 10 ^ 10 | .str x => x.length ≤ 100 | _ => False
theorem cell_len : ∀ {d : Dt}, Cell d → (cellT d).length ≤ 100
  | .int i, h => by have := numT_len (by decide : 0 < 10) h; show (numT i).length ≤ 100; omega
  | .str x, h => h
theorem rc_strX {C : Hp → Hp → Prop} {d : Dt} (ok : Cok C) (h : Cell d) : RC rStrX C [d] (.str (cellT d)) := fun G H vs k r Q z => by
  cases d with
  | int i => exact .inl (rc_strI ok (numT_log (Nat.lt_of_lt_of_le h (by decide))) (Nat.le_trans (cell_len (d := .int i) h) (by decide)) G H vs k r Q z)
  | str x => exact .inr (rc_strS ok G H vs k r Q z)
  | non => exact h.elim
  | bl b => exact h.elim
  | lst l => exact h.elim
  | tup l => exact h.elim
  | obj a => exact h.elim
theorem sum_le {n : Nat} : ∀ {l : List Str}, (∀ x ∈ l, x.length ≤ n) → (l.map (·.length)).sum ≤ l.length * n
  | [], _ => Nat.zero_le _
  | x :: l, h => by
    rw [List.map_cons, List.sum_cons, List.length_cons, Nat.succ_mul]
    have h1 := h x List.mem_cons_self
    have h2 := sum_le (l := l) fun y hy => h y (List.mem_cons_of_mem _ hy)
    omega
/-- a joined row of at most 1,000 texts of at most 2,000 signs -/
theorem rm_joinS {C : Hp → Hp → Prop} {K : PySem.W.Frag} {x : Str} {ys : List Str} (ok : Cok C) (hn : ys.length ≤ 1000) (hl : ∀ y ∈ ys, y.length ≤ 15000) (hx : x.length ≤ 10) : RM (rJoin K) C (.str x) [.lst (tx ys)] (.str (Txt.join x ys)) := rm_join ok (.inl rfl) (by
  have h1 := sum_le hl
  have h2 : ys.length * 15000 ≤ 1000 * 15000 := Nat.mul_le_mul_right _ hn
  have h3 : ys.length * x.length ≤ 1000 * 10 := Nat.mul_le_mul hn hx
  show _ ≤ 16000000
  omega)
def rowT (ws : List Dt) : Str := Txt.join " " (ws.map cellT)
theorem join_le {x : Str} {ys : List Str} {n : Nat} (hl : ∀ y ∈ ys, y.length ≤ n) : (Txt.join x ys).length ≤ ys.length * n + ys.length * x.length := by
  rw [TL.join_eq]
  exact Nat.le_trans (join_len x ys) (by have := sum_le hl; omega)
def ruleWords : Str × Str × Pts → List Str
  | (t, f, a, b, c, d) => (((((((["rule", t, f] : List Str) ++ a) ++ (["/"] : List Str)) ++ b) ++ (["/"] : List Str)) ++ c) ++ ([">"] : List Str)) ++ d
section
variable {P : Program} {w : World} {K : PySem.W.Frag} {mg : Str → Option Value} {base : Heap}
local macro_rules | `(tactic| walk_at "ev") => `(tactic| with_reducible first
  | (show EvD _ _ _ _; first
    | exact ev_var (by assumption) rfl
    | exact ev_int (by assumption)
    | exact ev_str (by assumption)
    | exact ev_non (by assumption)
    | exact ev_bl (by assumption)
    | (refine' ev_call (by assumption) ?_ ?_ ?_ <;> (try walk_at "ev"))
    | (refine' ev_op (by assumption) ?_ ?_ ?_ <;> (try walk_at "ev"))
    | (refine' ev_un (by assumption) ?_ rfl <;> (try walk_at "ev"))
    | (refine' ev_andV (by assumption) ?_ (fun _ => ?_) <;> (try walk_at "ev"))
    | (refine' ev_orV (by assumption) ?_ (fun _ => ?_) <;> (try walk_at "ev"))
    | (refine' ev_notV (by assumption) ?_ <;> (try walk_at "ev"))
    | (refine' ev_chain (by assumption) ?_ ?_ ?_ ?_ ?_ <;> (try walk_at "ev"))
    | (refine' ev_cb (by assumption) ?_ ?_ <;> (try walk_at "ev"))
    | (refine' ev_bm (by assumption) ?_ ?_ ?_ <;> (try walk_at "ev"))
    | (refine' ev_m1 (by assumption) ?_ ?_ ?_ <;> (try walk_at "ev"))
    | (refine' ev_sliceS (by assumption) ?_ ?_ ?_ <;> (try walk_at "ev"))
    | (refine' ev_slice (by assumption) ?_ ?_ ?_ <;> (try walk_at "ev"))
    | (refine' ev_tup (by assumption) ?_ ?_ <;> (try walk_at "ev"))
    | (refine' ev_lst (by assumption) ?_ ?_ <;> (try walk_at "ev"))
    | exact ev_h_shapes (by assumption) (by assumption) (by assumption) (ev_var (by assumption) rfl)
    | exact ev_h_marks (by assumption) (by assumption) (by assumption) (ev_var (by assumption) rfl)
    | exact ev_h_points (by assumption) (by assumption) (by assumption) (ev_var (by assumption) rfl)
    | exact ev_h_letters (by assumption) (by assumption) (by assumption) (ev_var (by assumption) rfl)
    | exact ev_h_gaps (by assumption) (by assumption) (by assumption) (ev_var (by assumption) rfl)
    | exact ev_h_classes (by assumption) (by assumption) (by assumption) (ev_var (by assumption) rfl)
    | exact ev_h_features (by assumption) (by assumption) (by assumption) (ev_var (by assumption) rfl)
    | exact ev_h_rules (by assumption) (by assumption) (by assumption) (ev_var (by assumption) rfl)
    | (refine' ev_dinK (by assumption) ?_ ?_ ?_ <;> (try walk_at "ev"))
    | (refine' ev_dniK (by assumption) ?_ ?_ ?_ <;> (try walk_at "ev"))
    | (refine' ev_dinT (by assumption) ?_ ?_ ?_ <;> (try walk_at "ev")))
  | (show EvA _ _ _ _; first
    | exact ea_nil (by assumption)
    | (refine' ea_cons (by assumption) ?_ ?_ <;> (try walk_at "ev")))
  | (show RV _ _ _ _ _; first
    | exact rv_int (by assumption)
    | exact rv_cmp (by assumption)
    | exact rv_eq (by assumption) rfl
    | exact rv_ne (by assumption) rfl
    | exact rv_isN (by assumption) rfl
    | exact rv_notN (by assumption) rfl
    | exact rv_inT (by assumption) (.inl rfl)
    | exact rv_inT (by assumption) (.inr rfl)
    | exact rv_niT (by assumption) (.inl rfl)
    | exact rv_niT (by assumption) (.inr rfl)
    | exact rv_inS (by assumption)
    | exact rv_niS (by assumption)
    | exact rv_ixS (by assumption) (by assumption)
    | exact rv_ixL (by assumption) (by assumption)
    | exact rv_ixT (by assumption) (by assumption)
    | exact rv_ixT (by assumption) rfl
    | exact rv_ixL (by assumption) rfl
    | (refine' rv_inM (by assumption) ?_ <;> (try walk_at "ev"))
    | (refine' rv_niM (by assumption) ?_ <;> (try walk_at "ev"))
    | (refine' rv_inX (by assumption) ?_ (.inl rfl) <;> (try walk_at "ev"))
    | (refine' rv_inX (by assumption) ?_ (.inr rfl) <;> (try walk_at "ev"))
    | (refine' rv_niX (by assumption) ?_ (.inl rfl) <;> (try walk_at "ev"))
    | (refine' rv_niX (by assumption) ?_ (.inr rfl) <;> (try walk_at "ev"))
    | exact rv_in (neg := false) (by assumption) rfl rfl (.inr rfl)
    | exact rv_in (neg := true) (by assumption) rfl rfl (.inr rfl)
    | exact rv_intC (g := fun i j => i % j) (by assumption) (by decide)
    | exact rv_intC (g := fun i j => i / j) (by assumption) (cdiv_ok (by decide)))
  | (show EvT _ _ _ _; first
    | exact et_yes (by assumption)
    | (refine' et_and (by assumption) ?_ (fun _ => ?_) <;> (try walk_at "ev"))
    | (refine' et_or (by assumption) ?_ (fun _ => ?_) <;> (try walk_at "ev"))
    | (refine' et_not ?_ <;> (try walk_at "ev"))
    | (refine' et_test ?_ <;> (try walk_at "ev"))
    | (refine' et_B ?_ <;> (try walk_at "ev")))
  | (show RC _ _ _ _; first
    | exact rc_lenL (by assumption)
    | exact rc_lenT (by assumption)
    | exact rc_lenS (by assumption)
    | exact rc_all (by assumption)
    | exact rc_intB (by assumption)
    | exact rc_strS (by assumption)
    | exact rc_listOf (by assumption) (.inl rfl)
    | exact rc_listOf (by assumption) (.inr rfl)
    | exact rc_tupOf (by assumption)
    | (refine' rc_lenD (by assumption) ?_ <;> (try walk_at "ev"))
    | (refine' rc_lenM (by assumption) ?_ <;> (try walk_at "ev")))
  | (show RM _ _ _ _ _; first
    | exact rm_strip' (by assumption))
  | (show EvO _ _ _ _; first
    | exact eo_none (by assumption)
    | (refine' eo_some ?_ <;> (try walk_at "ev")))
  | (show List.length _ ≤ Lim; with_unfolding_all exact Nat.le_of_ble_eq_true rfl)
  | (show List.length _ = _; with_unfolding_all rfl)
  | exact (fun _ _ _ => ⟨_, rfl, rfl⟩)
  | exact (fun _ _ _ => ⟨_, _, rfl, rfl⟩)
  | exact (fun _ _ _ => ⟨_, _, _, rfl, rfl⟩)
  | exact (fun _ _ _ => ⟨_, rfl, by assumption, rfl⟩)
  | exact hall_s (by assumption)
  | exact hall_m (by assumption)
  | exact hall_p (by assumption)
  | exact hall_l (by assumption)
  | exact hall_g (by assumption)
  | exact hall_c (by assumption)
  | exact hall_f (by assumption)
  | exact hall_r (by assumption)
  | exact TxL.of _
  | exact TxL.nil
  | (refine' TxL.cons ?_ <;> (try walk_at "ev")))


abbrev s_row_of : Stmt := top 36
abbrev N_row_of : List Str := ["words", "word"]
abbrev P_row_of : List Str := ["words"]
theorem sc_row_of : FnScope N_row_of P_row_of (defScope s_row_of) := ⟨rfl, rfl, rfl, by decide +kernel, rfl, by decide +kernel, by decide +kernel⟩

abbrev spRowOf : Sp := SpF 1 fun _ _ as r => ∃ ws : List Dt, as = [.lst ws] ∧ ws.length ≤ 100 ∧ (∀ d ∈ ws, Cell d) ∧ r = .str (rowT ws)
theorem cal_row_of (B : Blt mg) (D : Dfn K mg "row_of" s_row_of) : Cal P w K mg base "row_of" 1 P_row_of spRowOf := by
  have sc := sc_row_of
  refine cal_of D (fun f fd F => fnok F sc fun cdv A outer s H E hr => ⟨_, (pss_one (ps_ret (pe_m1 (r := rJoin K) PySem.F.slot_str_join PySem.F.type_str_join mt_join pe_str (pe_lc (own := [("word", 1)]) (by rfl) sc.nd (pi_list (pv 0)) (blkOk_by (N := N_row_of) (sc := defScope s_row_of) (by decide +kernel)) (fun _ _ _ _ _ => (pg_name (i := 1) sc.nd rfl (Or.inl rfl))) (fun _ _ _ _ _ => pts_nil) (fun _ _ _ _ _ => (pe_callTy call_strX (by rfl) B.str_ (by decide +kernel) (pa_cons (pv 1) pa_nil))))))), fun G as r D hl sm hp hq hx => ?_⟩) (fun _ _ _ _ _ _ us hl => match us, hl with | [_], _ => rfl)
  obtain ⟨ws, rfl, hn, hc, rfl⟩ := hp
  have ok : Cok (Bs No G H) := Bs.ok
  refine run_ret ok (ev_m1 ok (ev_str ok) (EvD.is (EvN.ev ok (en_map1 ws id (fun d => .str (cellT d)) ok (EvD.is (ev_var ok rfl) (by rw [List.map_id])) (fun d hd => ev_cb ok (ea_cons ok (ev_var ok rfl) (ea_nil ok)) (rc_strX ok (hc d hd))) (by show _ ≤ 16000000; omega))) (by rw [show (ws.map fun d => Dt.str (cellT d)) = tx (ws.map cellT) by rw [tx, List.map_map]; rfl]))
    (rm_joinS ok (by rw [List.length_map]; omega) (fun y hy => by
      obtain ⟨d, hd, rfl⟩ := List.mem_map.mp hy
      exact Nat.le_trans (cell_len (hc d hd)) (by decide)) (by decide +kernel))) rfl hq

abbrev s_rule_words : Stmt := top 37
abbrev N_rule_words : List Str := ["rule", "title", "feature", "before", "core", "after", "told"]
abbrev P_rule_words : List Str := ["rule"]
theorem sc_rule_words : FnScope N_rule_words P_rule_words (defScope s_rule_words) := ⟨rfl, rfl, rfl, by decide +kernel, rfl, by decide +kernel, by decide +kernel⟩

/-- short -/
def Rsm (p : Str × Str × Pts) : Prop := p.2.2.1.length ≤ 10 ∧ p.2.2.2.1.length ≤ 10 ∧ p.2.2.2.2.1.length ≤ 10 ∧ p.2.2.2.2.2.length ≤ 10
abbrev spRuleWords : Sp := SpF 1 fun _ _ as r => ∃ p : Str × Str × Pts, as = [ruleD p] ∧ Rsm p ∧ r = .lst (tx (ruleWords p))
theorem cal_rule_words (B : Blt mg) (D : Dfn K mg "rule_words" s_rule_words) : Cal P w K mg base "rule_words" 1 P_rule_words spRuleWords := by
  have sc := sc_rule_words
  refine cal_of D (fun f fd F => fnok F sc fun cdv A outer s H E hr => ⟨_, (pss_cons (ps_asg (pv 0) (pg_tupK (K := K) (n := 6) rfl rfl (pgs_cons (pg_name (i := 1) sc.nd rfl (Or.inl rfl)) (pgs_cons (pg_name (i := 2) sc.nd rfl (Or.inl rfl)) (pgs_cons (pg_name (i := 3) sc.nd rfl (Or.inl rfl)) (pgs_cons (pg_name (i := 4) sc.nd rfl (Or.inl rfl)) (pgs_cons (pg_name (i := 5) sc.nd rfl (Or.inl rfl)) (pgs_cons (pg_name (i := 6) sc.nd rfl (Or.inl rfl)) pgs_nil))))))))
      (pss_one (ps_ret (pe_op op_cat (pe_op op_cat (pe_op op_cat (pe_op op_cat (pe_op op_cat (pe_op op_cat (pe_op op_cat (pe_lst (pa_cons pe_str (pa_cons (pv 1) (pa_cons (pv 2) pa_nil)))) (pe_callTy (r := rListOf K) call_listOf (by rfl) B.list_ (by decide +kernel) (pa_cons (pv 3) pa_nil))) (pe_lst (pa_cons pe_str pa_nil))) (pe_callTy (r := rListOf K) call_listOf (by rfl) B.list_ (by decide +kernel) (pa_cons (pv 4) pa_nil))) (pe_lst (pa_cons pe_str pa_nil))) (pe_callTy (r := rListOf K) call_listOf (by rfl) B.list_ (by decide +kernel) (pa_cons (pv 5) pa_nil))) (pe_lst (pa_cons pe_str pa_nil))) (pe_callTy (r := rListOf K) call_listOf (by rfl) B.list_ (by decide +kernel) (pa_cons (pv 6) pa_nil)))))), fun G as r D hl sm hp hq hx => ?_⟩) (fun _ _ _ _ _ _ us hl => match us, hl with | [_], _ => rfl)
  obtain ⟨⟨t, fe, a, b, c, d⟩, rfl, ⟨h1, h2, h3, h4⟩, rfl⟩ := hp
  have ok : Cok (Bs No G H) := Bs.ok
  dsimp only at h1 h2 h3 h4
  refine run_tg (us := [(1, .str t), (2, .str fe), (3, .tup (tx a)), (4, .tup (tx b)), (5, .tup (tx c)), (6, .tup (tx d))]) ok (ev_var ok rfl) (tg_tup (tgs_cons tg_name (tgs_cons tg_name (tgs_cons tg_name (tgs_cons tg_name (tgs_cons tg_name (tgs_cons tg_name tgs_nil)))))) rfl) ?_
  refine run_ret ok (ev_catT (xs := ((((((["rule", t, fe] : List Str) ++ a) ++ (["/"] : List Str)) ++ b) ++ (["/"] : List Str)) ++ c) ++ ([">"] : List Str)) ok (ev_catT (ys := [">"]) ok (ev_catT ok (ev_catT (ys := ["/"]) ok (ev_catT ok (ev_catT (ys := ["/"]) ok (ev_catT (xs := ["rule", t, fe]) ok (ev_lstA ok (ea_cons ok (ev_str ok) (ea_cons ok (ev_var ok rfl) (ea_cons ok (ev_var ok rfl) (ea_nil ok))))) (ev_cb ok (ea_cons ok (ev_var ok rfl) (ea_nil ok)) (rc_listOf ok (.inr rfl))) ?_) (ev_lstA ok (ea_cons ok (ev_str ok) (ea_nil ok))) ?_) (ev_cb ok (ea_cons ok (ev_var ok rfl) (ea_nil ok)) (rc_listOf ok (.inr rfl))) ?_) (ev_lstA ok (ea_cons ok (ev_str ok) (ea_nil ok))) ?_) (ev_cb ok (ea_cons ok (ev_var ok rfl) (ea_nil ok)) (rc_listOf ok (.inr rfl))) ?_) (ev_lstA ok (ea_cons ok (ev_str ok) (ea_nil ok))) ?_) (ev_cb ok (ea_cons ok (ev_var ok rfl) (ea_nil ok)) (rc_listOf ok (.inr rfl))) ?_) rfl hq
  all_goals (simp only [List.length_append, List.length_cons, List.length_nil]; omega)

abbrev s_law_pair_text : Stmt := top 42
abbrev N_law_pair_text : List Str := ["_law_spot"]
abbrev P_law_pair_text : List Str := ["_law_spot"]
theorem sc_law_pair_text : FnScope N_law_pair_text P_law_pair_text (defScope s_law_pair_text) := ⟨rfl, rfl, rfl, by decide +kernel, rfl, by decide +kernel, by decide +kernel⟩

def pairT (p : Pt) : Str := (numT p.1 ++ " ") ++ numT p.2
theorem small_10 {i : Int} (h : small i) : i.natAbs < 10 ^ 10 := by unfold small at h; omega
theorem small_len {i : Int} (h : small i) : (numT i).length ≤ 6 := numT_len (k := 5) (by decide) (by unfold small at h; omega)
theorem pair_len {p : Pt} (h : smallP p) : (pairT p).length ≤ 13 := by
  unfold pairT
  rw [len_app, len_app]
  have h1 := small_len h.1
  have h2 := small_len h.2
  have h3 : (" " : Str).length = 1 := by decide +kernel
  omega
abbrev spPairT : Sp := SpF 1 fun _ _ as r => ∃ p : Pt, as = [ptD p] ∧ smallP p ∧ r = .str (pairT p)
theorem cal_law_pair_text (B : Blt mg) (D : Dfn K mg "_law_pair_text" s_law_pair_text) : Cal P w K mg base "_law_pair_text" 1 P_law_pair_text spPairT := by
  have sc := sc_law_pair_text
  refine cal_of D (fun f fd F => fnok F sc fun cdv A outer s H E hr => ⟨_, (pss_one (ps_ret (pe_op op_addT (pe_op op_addT (pe_callTy call_strI (by rfl) B.str_ (by decide +kernel) (pa_cons (pe_ix (r := rIxT K) ix_tup (pv 0) pe_int (fun _ _ => rfl)) pa_nil)) pe_str) (pe_callTy call_strI (by rfl) B.str_ (by decide +kernel) (pa_cons (pe_ix (r := rIxT K) ix_tup (pv 0) pe_int (fun _ _ => rfl)) pa_nil))))), fun G as r D hl sm hp hq hx => ?_⟩) (fun _ _ _ _ _ _ us hl => match us, hl with | [_], _ => rfl)
  obtain ⟨p, rfl, hs, rfl⟩ := hp
  have ok : Cok (Bs No G H) := Bs.ok
  have l1 := small_len hs.1
  have l2 := small_len hs.2
  have h3 : (" " : Str).length = 1 := by decide +kernel
  refine run_ret ok (ev_op ok (ev_op ok (ev_numT ok (ev_op ok (ev_var ok rfl) (ev_int ok) (rv_ixT ok (at_nat (k := 0) rfl))) (small_10 hs.1)) (ev_str ok) (rv_addT ok (by show _ ≤ 16000000; omega))) (ev_numT ok (ev_op ok (ev_var ok rfl) (ev_int ok) (rv_ixT ok (at_nat (k := 1) rfl))) (small_10 hs.2)) (rv_addT ok (by rw [len_app]; show _ ≤ 16000000; omega))) rfl hq

abbrev s_law_rule_text : Stmt := top 43
abbrev N_law_rule_text : List Str := ["_law_rule", "_law_words"]
abbrev P_law_rule_text : List Str := ["_law_rule"]
theorem sc_law_rule_text : FnScope N_law_rule_text P_law_rule_text (defScope s_law_rule_text) := ⟨rfl, rfl, rfl, by decide +kernel, rfl, by decide +kernel, by decide +kernel⟩

abbrev spRuleT : Sp := SpF 1 fun _ _ as r => ∃ p : Str × Str × Pts, as = [ruleD p] ∧ Rsm p ∧ (∀ x ∈ ruleWords p, x.length ≤ 100) ∧ r = .str (Txt.join " " (ruleWords p))
theorem cal_law_rule_text (B : Blt mg) (D : Dfn K mg "_law_rule_text" s_law_rule_text) : Cal P w K mg base "_law_rule_text" 1 P_law_rule_text spRuleT := by
  have sc := sc_law_rule_text
  refine cal_of D (fun f fd F => fnok F sc fun cdv A outer s H E hr => ⟨_, (pss_cons (ps_set (i := 1) sc.nd rfl (Or.inl rfl) (pe_op op_cat (pe_op op_cat (pe_op op_cat (pe_lst (pa_cons pe_str (pa_cons (pe_ix (r := rIxT K) ix_tup (pv 0) pe_int (fun _ _ => rfl)) (pa_cons (pe_ix (r := rIxT K) ix_tup (pv 0) pe_int (fun _ _ => rfl)) pa_nil)))) (pe_callTy (r := rListOf K) call_listOf (by rfl) B.list_ (by decide +kernel) (pa_cons (pe_ix (r := rIxT K) ix_tup (pv 0) pe_int (fun _ _ => rfl)) pa_nil))) (pe_lst (pa_cons pe_str pa_nil))) (pe_callTy (r := rListOf K) call_listOf (by rfl) B.list_ (by decide +kernel) (pa_cons (pe_ix (r := rIxT K) ix_tup (pv 0) pe_int (fun _ _ => rfl)) pa_nil))))
      (pss_one (ps_ret (pe_m1 (r := rJoin K) PySem.F.slot_str_join PySem.F.type_str_join mt_join pe_str (pe_op op_cat (pe_op op_cat (pe_op op_cat (pe_op op_cat (pv 1) (pe_lst (pa_cons pe_str pa_nil))) (pe_callTy (r := rListOf K) call_listOf (by rfl) B.list_ (by decide +kernel) (pa_cons (pe_ix (r := rIxT K) ix_tup (pv 0) pe_int (fun _ _ => rfl)) pa_nil))) (pe_lst (pa_cons pe_str pa_nil))) (pe_callTy (r := rListOf K) call_listOf (by rfl) B.list_ (by decide +kernel) (pa_cons (pe_ix (r := rIxT K) ix_tup (pv 0) pe_int (fun _ _ => rfl)) pa_nil))))))), fun G as r D hl sm hp hq hx => ?_⟩) (fun _ _ _ _ _ _ us hl => match us, hl with | [_], _ => rfl)
  obtain ⟨⟨t, fe, a, b, c, d⟩, rfl, ⟨h1, h2, h3, h4⟩, hw, rfl⟩ := hp
  have ok : Cok (Bs No G H) := Bs.ok
  dsimp only at h1 h2 h3 h4
  have ix : ∀ {ds : List (Option Dt)} {k : Nat} {e : Dt}, ds[0]? = some (some (ruleD (t, fe, a, b, c, d))) → atI [.str t, .str fe, .tup (tx a), .tup (tx b), .tup (tx c), .tup (tx d)] (k : Int) = some e → EvD (tOp (rIxT K) (tVar 0) (tC (.int (k : Nat)))) (Bs No G H) ds e := fun h e => ev_op ok (ev_var ok h) (ev_int ok) (rv_ixT ok e)
  refine run_set (d := .lst (tx ((((["rule", t, fe] : List Str) ++ a) ++ (["/"] : List Str)) ++ b))) ok (ev_catT ok (ev_catT (ys := ["/"]) ok (ev_catT (xs := ["rule", t, fe]) ok (ev_lstA ok (ea_cons ok (ev_str ok) (ea_cons ok (ix (k := 0) rfl rfl) (ea_cons ok (ix (k := 1) rfl rfl) (ea_nil ok))))) (ev_cb ok (ea_cons ok (ix (k := 2) rfl rfl) (ea_nil ok)) (rc_listOf ok (.inr rfl))) ?_) (ev_lstA ok (ea_cons ok (ev_str ok) (ea_nil ok))) ?_) (ev_cb ok (ea_cons ok (ix (k := 3) rfl rfl) (ea_nil ok)) (rc_listOf ok (.inr rfl))) ?_) ?_
  iterate 3 (simp only [List.length_append, List.length_cons, List.length_nil]; omega)
  refine run_ret ok (ev_m1 ok (ev_str ok) (ev_catT (ys := d) ok (ev_catT (ys := [">"]) ok (ev_catT ok (ev_catT (ys := ["/"]) ok (ev_var ok rfl) (ev_lstA ok (ea_cons ok (ev_str ok) (ea_nil ok))) ?_) (ev_cb ok (ea_cons ok (ix (k := 4) rfl rfl) (ea_nil ok)) (rc_listOf ok (.inr rfl))) ?_) (ev_lstA ok (ea_cons ok (ev_str ok) (ea_nil ok))) ?_) (ev_cb ok (ea_cons ok (ix (k := 5) rfl rfl) (ea_nil ok)) (rc_listOf ok (.inr rfl))) ?_) (rm_joinS ok ?_ (fun y hy => Nat.le_trans (hw y hy) (by decide)) (by decide +kernel))) rfl hq
  all_goals (simp only [List.length_append, List.length_cons, List.length_nil]; omega)
end
end Kx

namespace Kx
open PySem L2
/-! ## rows that are put together in a list -/
theorem run_rowsFor {α : Type} {p : Addr} {CC : List Dt → Hp → Hp → Prop} {wi : TI} {g : TG} {tb : TS} {ds : List (Option Dt)} {D : Ends} (ys : List α) (cn : α → Dt) (U : α → List (Nat × Dt)) (f : α → Dt) (R : List Dt) (dsf : List (Option Dt)) (okC : ∀ R, Cok (CC R))
    (hst : ∀ R R' G1 H1 H2, CC R G1 H1 → Mu p R' G1 H2 → Stp (fun b => b = p) G1 H1 G1 H2 → CC R' G1 H2) (hi : EvI (fun b => b = p) wi (CC R) ds (ys.map cn)) (ht : ∀ y ∈ ys, TgD g (cn y) (U y)) (hl : Less ds dsf) (hn : R.length + ys.length ≤ 1000000)
    (hb : ∀ y ∈ ys, ∀ (R' : List Dt) (C' : Hp → Hp → Prop), R'.length < Lim → Cok C' → (∀ G1 H1, C' G1 H1 → CC R' G1 H1) → ∀ D' : Ends, (∀ G1 σ1 H1 H2, C' G1 H1 → Slots G1 σ1 dsf → Mu p (R' ++ [f y]) G1 H2 → Stp (fun b => b = p) G1 H1 G1 H2 → D'.nx σ1 H2) → Run tb C' (setsD dsf (U y)) D')
    (hd : Run tNext (CC (R ++ ys.map f)) dsf D) : Run (tFor wi g tb) (CC R) ds D := by
  refine run_for (S := fun b => b = p) ys cn U (fun i => CC (R ++ (ys.take i).map f)) (fun _ => dsf) (okC R) (fun i => okC _) hi ht (fun G1 H1 k => ?_) hl (fun i y hy Ga Ha ca => ?_) ?_
  · rw [List.take_zero, List.map_nil, List.append_nil]; exact k
  · refine hb y (List.mem_of_getElem? hy) _ _ ?_ (In.ok (okC _)) (fun _ _ k => k.1) _ (fun G1 σ1 H1 H2 k s mu st => ⟨G1, k.2.trans st, ?_, s⟩)
    · rw [List.length_append, List.length_map, List.length_take]
      show _ < 16000000
      omega
    · rw [take_get hy, List.map_append, ← List.append_assoc]
      exact hst _ _ _ _ _ k.1 mu st
  · rw [List.take_length]; exact hd
/-- a def's body with a list of its own at p -/
def CT (G0 H0 : Hp) (p : Addr) (R : List Dt) : Hp → Hp → Prop := fun G H => Bs No G0 H0 G H ∧ Mu p R G H
theorem CT.ok {G0 H0 : Hp} {p : Addr} {R : List Dt} : Cok (CT G0 H0 p R) := ⟨fun c => c.1.gh, fun c q => ⟨c.1.trans (Stp.of q), c.2.stp q⟩⟩
theorem CT.put {G0 H0 : Hp} {p : Addr} (hp : H0 p = none) : ∀ R R' G1 H1 H2, CT G0 H0 p R G1 H1 → Mu p R' G1 H2 → Stp (fun b => b = p) G1 H1 G1 H2 → CT G0 H0 p R' G1 H2 := fun _ _ _ _ _ k mu st => ⟨stp_absorb k.1 st (fun b hb => hb ▸ hp), mu⟩
/-- list + list, the left one of one's own -/
theorem rn_catM {C : Hp → Hp → Prop} {p : Addr} {xs ys : List Dt} (ok : Cok C) (hm : ∀ G H, C G H → Mu p xs G H) (h : xs.length + ys.length ≤ Lim) : RN rCat C (.obj p) (.lst ys) (xs ++ ys) := fun G H v w k r1 r2 Q q => by
  cases r1
  obtain ⟨_, vs, e, rv⟩ := hm G H k
  cases r2 with
  | lst h2 q2 =>
    have sub := ok.sub k
    exact ⟨_, _, _, _, rfl, rfl, e, sub _ _ h2, by rw [rv.length, q2.length]; exact lim_line h, fun p hp => q p _ G _ (Pu.newM sub hp) hp (sub.free hp) upd_same (rv.append q2)⟩
/-! ### texts with a bound of their length -/
def EvL (te : TE) (C : Hp → Hp → Prop) (ds : List (Option Dt)) (x : Str) (n : Nat) : Prop := EvD te C ds (.str x) ∧ x.length ≤ n
section
variable {C : Hp → Hp → Prop} {ds : List (Option Dt)} {ta tb : TE} {x y : Str} {n m : Nat}
theorem el_add (ok : Cok C) (a : EvL ta C ds x n) (b : EvL tb C ds y m) (h : n + m ≤ 15000 := by decide) : EvL (tOp rAddT ta tb) C ds (x ++ y) (n + m) :=
  ⟨ev_op ok a.1 b.1 (rv_addT ok (by have := a.2; have := b.2; show _ ≤ 16000000; omega)), by rw [len_app]; have := a.2; have := b.2; omega⟩
theorem el_str (ok : Cok C) (h : x.length ≤ n) (hn : n ≤ 15000 := by decide) : EvL (tC (.str x)) C ds x n := ⟨ev_str ok (by show _ ≤ 16000000; omega), h⟩
theorem el_var {i : Nat} (ok : Cok C) (h : ds[i]? = some (some (.str x))) (hl : x.length ≤ n) : EvL (tVar i) C ds x n := ⟨ev_var ok h, hl⟩
theorem el_num {i : Nat} {z : Int} (ok : Cok C) (h : ds[i]? = some (some (.int z))) (hz : small z) : EvL (tCB rStrI (tCons (tVar i) tNil)) C ds (numT z) 6 := ⟨ev_numT ok (ev_var ok h) (small_10 hz), small_len hz⟩
end
/-! ### the lines of what is told -/
def shapeT (p : Str × Int) : Str := (("shape " ++ p.1) ++ " ") ++ numT p.2
def markT (p : Str × Str × Pt × Pt) : Str := (((("mark " ++ p.1) ++ " ") ++ p.2.1) ++ " ") ++ ((pairT p.2.2.1 ++ " ") ++ pairT p.2.2.2)
def pointT (p : Str × Str × Pt) : Str := (((("point " ++ p.1) ++ " ") ++ p.2.1) ++ " ") ++ pairT p.2.2
def letterT (p : Str × Str × Str × List Str) : Str := Txt.join " " ((["letter", p.1, p.2.1, p.2.2.1] : List Str) ++ p.2.2.2)
def gapT (n : Str) : Str := "gap " ++ n
def classT (p : Str × List Str) : Str := Txt.join " " ((["class", p.1] : List Str) ++ p.2)
def onT : Bool → Str
  | true => "on" | false => "off"
def featT (p : Str × Bool) : Str := (("feature " ++ p.1) ++ " ") ++ onT p.2
def ruleT (p : Str × Str × Pts) : Str := Txt.join " " (ruleWords p)
theorem blank1 : (" " : Str).length ≤ 1 := by decide +kernel
theorem ap_len {x y : Str} {n m : Nat} (h : x.length ≤ n) (h' : y.length ≤ m) : (x ++ y).length ≤ n + m := by rw [len_app]; omega
theorem item_len {x : Str} (h : isItem x = true) : x.length ≤ 13 := by
  unfold isItem at h
  split at h
  · have h1 := name_len h
    have h2 : (tl x).length = x.length := (len_tl x).symm
    rw [len_tl, show tl (rest1 x) = (tl x).drop 1 from tl_cutR x 1, List.length_drop] at h1
    omega
  · exact Nat.le_trans (name_len h) (by decide)
theorem all_len {l : List Str} (h : l.all isName = true) : ∀ x ∈ l, x.length ≤ 12 := fun x hx => name_len (List.all_eq_true.mp h x hx)
theorem way_len {s : Str} (h : isWay s = true) : s.length ≤ 12 := by
  unfold isWay at h
  have h' := of_decide_eq_true h
  simp only [List.mem_cons, List.not_mem_nil, or_false] at h'
  rcases h' with rfl | rfl | rfl <;> decide +kernel
structure TLen (t : Told) : Prop where
  s : ∀ p ∈ t.shapes, p.1.length ≤ 12 ∧ small p.2
  m : ∀ p ∈ t.marks, p.1.length ≤ 12 ∧ p.2.1.length ≤ 5 ∧ smallP p.2.2.1 ∧ smallP p.2.2.2
  p : ∀ p ∈ t.points, p.1.length ≤ 12 ∧ p.2.1.length ≤ 5 ∧ smallP p.2.2
  l : ∀ p ∈ t.letters, p.1.length ≤ 12 ∧ p.2.1.length ≤ 12 ∧ p.2.2.1.length ≤ 12 ∧ p.2.2.2.length ≤ 4 ∧ ∀ x ∈ p.2.2.2, x.length ≤ 12
  g : ∀ p ∈ t.gaps, p.length ≤ 12
  c : ∀ p ∈ t.classes, p.1.length ≤ 12 ∧ p.2.length ≤ 20 ∧ ∀ x ∈ p.2, x.length ≤ 12
  f : ∀ p ∈ t.features, p.1.length ≤ 12
  r : ∀ p ∈ t.rules, Rsm p ∧ ∀ x ∈ ruleWords p, x.length ≤ 100
theorem TLen.of {t : Told} (F : Fit t) : TLen t where
  s := fun p hp => ⟨name_len (F.s p hp).1, (F.s p hp).2⟩
  m := fun p hp => ⟨name_len (F.m p hp).1, side_len (F.m p hp).2.1, (F.m p hp).2.2⟩
  p := fun p hp => ⟨name_len (F.p p hp).1, side_len (F.p p hp).2.1, (F.p p hp).2.2⟩
  l := fun p hp => by
    obtain ⟨a, b, c, d, e⟩ := F.l p hp
    exact ⟨name_len a, by omega, way_len c, d, all_len e⟩
  g := fun p hp => name_len (F.g p hp)
  c := fun p hp => ⟨name_len (F.c p hp).1, (F.c p hp).2.1, all_len (F.c p hp).2.2⟩
  f := fun p hp => name_len (F.f p hp)
  r := fun p hp => by
    obtain ⟨a, b, c⟩ := F.r p hp
    obtain ⟨t1, f1, w1, w2, w3, w4⟩ := p
    dsimp only at a b c
    unfold ok4 at c
    simp only [Bool.and_eq_true, decide_eq_true_eq] at c
    obtain ⟨⟨⟨⟨⟨c1, c2⟩, c3⟩, c4⟩, c5⟩, c6⟩ := c
    refine ⟨⟨by show w1.length ≤ 10; omega, by show w2.length ≤ 10; omega, by show w3.length ≤ 10; omega, by show w4.length ≤ 10; omega⟩, fun x hx => ?_⟩
    have it : ∀ y ∈ w1 ++ w2 ++ w3, y.length ≤ 13 := fun y hy => item_len (List.all_eq_true.mp c6 y hy)
    have h4 := all_len c5
    have one : ∀ z ∈ (["/", ">", "rule"] : List Str), z.length ≤ 13 := by decide +kernel
    have na := name_len a
    have nb := name_len b
    unfold ruleWords at hx
    simp only [List.mem_append, List.mem_cons, List.not_mem_nil, or_false] at hx
    have z1 := one "/" (by simp)
    have z2 := one ">" (by simp)
    have z3 := one "rule" (by simp)
    have i1 : ∀ y ∈ w1, y.length ≤ 13 := fun y hy => it y (by simp [hy])
    have i2 : ∀ y ∈ w2, y.length ≤ 13 := fun y hy => it y (by simp [hy])
    have i3 : ∀ y ∈ w3, y.length ≤ 13 := fun y hy => it y (by simp [hy])
    rcases hx with ((((((hx | hx) | hx) | hx) | hx) | hx) | hx) | hx
    · rcases hx with rfl | rfl | rfl <;> omega
    · have := i1 x hx; omega
    · subst hx; omega
    · have := i2 x hx; omega
    · subst hx; omega
    · have := i3 x hx; omega
    · subst hx; omega
    · have := h4 x hx; omega
def lineOf (t : Told) : List Str := ((((((t.shapes.map shapeT ++ t.marks.map markT) ++ t.points.map pointT) ++ t.letters.map letterT) ++ t.gaps.map gapT) ++ t.classes.map classT) ++ t.features.map featT) ++ t.rules.map ruleT
theorem letter_len {t : Told} (L : TLen t) : ∀ p ∈ t.letters, ∀ x ∈ (["letter", p.1, p.2.1, p.2.2.1] : List Str) ++ p.2.2.2, x.length ≤ 12 := fun p hp x hx => by
  obtain ⟨a, b, c, d, e⟩ := L.l p hp
  have z : ("letter" : Str).length ≤ 12 := by decide +kernel
  rcases List.mem_append.mp hx with hx | hx
  · simp only [List.mem_cons, List.not_mem_nil, or_false] at hx
    rcases hx with rfl | rfl | rfl | rfl <;> assumption
  · exact e x hx
theorem class_len {t : Told} (L : TLen t) : ∀ p ∈ t.classes, ∀ x ∈ (["class", p.1] : List Str) ++ p.2, x.length ≤ 12 := fun p hp x hx => by
  obtain ⟨a, b, c⟩ := L.c p hp
  have z : ("class" : Str).length ≤ 12 := by decide +kernel
  rcases List.mem_append.mp hx with hx | hx
  · simp only [List.mem_cons, List.not_mem_nil, or_false] at hx
    rcases hx with rfl | rfl <;> assumption
  · exact c x hx
theorem ruleW_cnt {p : Str × Str × Pts} (h : Rsm p) : (ruleWords p).length ≤ 50 := by
  obtain ⟨t1, f1, w1, w2, w3, w4⟩ := p
  obtain ⟨h1, h2, h3, h4⟩ := h
  dsimp only at h1 h2 h3 h4
  unfold ruleWords
  simp only [List.length_append, List.length_cons, List.length_nil]
  omega
theorem line_len {t : Told} (L : TLen t) : ∀ x ∈ lineOf t, x.length ≤ 15000 := fun x hx => by
  unfold lineOf at hx
  simp only [List.mem_append, List.mem_map] at hx
  have up : ∀ {n : Nat} {x : Str}, x.length ≤ n → n ≤ 15000 → x.length ≤ 15000 := fun h h' => Nat.le_trans h h'
  have w : ∀ {x : Str} (n : Nat), x.length ≤ n → x.length ≤ n := fun _ h => h
  have join : ∀ {ys : List Str}, ys.length ≤ 100 → (∀ y ∈ ys, y.length ≤ 100) → (Txt.join " " ys).length ≤ 15000 := fun {ys} h h' => by
    have := join_le (x := " ") h'
    have h2 : ys.length * 100 ≤ 100 * 100 := Nat.mul_le_mul_right _ h
    have h3 : ys.length * (" " : Str).length ≤ 100 * 1 := Nat.mul_le_mul h blank1
    omega
  rcases hx with ((((((⟨p, hp, rfl⟩ | ⟨p, hp, rfl⟩) | ⟨p, hp, rfl⟩) | ⟨p, hp, rfl⟩) | ⟨p, hp, rfl⟩) | ⟨p, hp, rfl⟩) | ⟨p, hp, rfl⟩) | ⟨p, hp, rfl⟩
  · obtain ⟨a, b⟩ := L.s p hp
    exact up (ap_len (ap_len (ap_len (m := 12) (show ("shape " : Str).length ≤ 10 by decide +kernel) a) blank1) (small_len b)) (by decide)
  · obtain ⟨a, b, c, d⟩ := L.m p hp
    exact up (ap_len (ap_len (ap_len (ap_len (ap_len (m := 12) (show ("mark " : Str).length ≤ 10 by decide +kernel) a) blank1) b) blank1) (ap_len (ap_len (pair_len c) blank1) (pair_len d))) (by decide)
  · obtain ⟨a, b, c⟩ := L.p p hp
    exact up (ap_len (ap_len (ap_len (ap_len (ap_len (m := 12) (show ("point " : Str).length ≤ 10 by decide +kernel) a) blank1) b) blank1) (pair_len c)) (by decide)
  · have h4 := (L.l p hp).2.2.2.1
    exact join (by rw [List.length_append]; simp only [List.length_cons, List.length_nil]; omega) (fun y hy => Nat.le_trans (letter_len L p hp y hy) (by decide))
  · exact up (ap_len (m := 12) (show ("gap " : Str).length ≤ 10 by decide +kernel) (L.g p hp)) (by decide)
  · have h4 := (L.c p hp).2.1
    exact join (by rw [List.length_append]; simp only [List.length_cons, List.length_nil]; omega) (fun y hy => Nat.le_trans (class_len L p hp y hy) (by decide))
  · exact up (ap_len (ap_len (ap_len (m := 12) (show ("feature " : Str).length ≤ 10 by decide +kernel) (L.f p hp)) blank1) (m := 3) (by cases p.2 <;> decide +kernel)) (by decide)
  · have h := L.r p hp
    exact join (Nat.le_trans (ruleW_cnt h.1) (by decide)) h.2
theorem line_cnt (t : Told) : (lineOf t).length = t.size := by
  unfold lineOf Told.size
  simp only [List.length_append, List.length_map]
end Kx

namespace Kx
open PySem L2
section
variable {P : Program} {w : World} {K : PySem.W.Frag} {mg : Str → Option Value} {base : Heap}
local macro_rules | `(tactic| walk_at "ev") => `(tactic| with_reducible first
  | (show EvD _ _ _ _; first
    | exact ev_var (by assumption) rfl
    | exact ev_int (by assumption)
    | exact ev_str (by assumption)
    | exact ev_non (by assumption)
    | exact ev_bl (by assumption)
    | (refine' ev_call (by assumption) ?_ ?_ ?_ <;> (try walk_at "ev"))
    | (refine' ev_op (by assumption) ?_ ?_ ?_ <;> (try walk_at "ev"))
    | (refine' ev_un (by assumption) ?_ rfl <;> (try walk_at "ev"))
    | (refine' ev_andV (by assumption) ?_ (fun _ => ?_) <;> (try walk_at "ev"))
    | (refine' ev_orV (by assumption) ?_ (fun _ => ?_) <;> (try walk_at "ev"))
    | (refine' ev_notV (by assumption) ?_ <;> (try walk_at "ev"))
    | (refine' ev_chain (by assumption) ?_ ?_ ?_ ?_ ?_ <;> (try walk_at "ev"))
    | (refine' ev_cb (by assumption) ?_ ?_ <;> (try walk_at "ev"))
    | (refine' ev_bm (by assumption) ?_ ?_ ?_ <;> (try walk_at "ev"))
    | (refine' ev_m1 (by assumption) ?_ ?_ ?_ <;> (try walk_at "ev"))
    | (refine' ev_sliceS (by assumption) ?_ ?_ ?_ <;> (try walk_at "ev"))
    | (refine' ev_slice (by assumption) ?_ ?_ ?_ <;> (try walk_at "ev"))
    | (refine' ev_tup (by assumption) ?_ ?_ <;> (try walk_at "ev"))
    | (refine' ev_lst (by assumption) ?_ ?_ <;> (try walk_at "ev"))
    | exact ev_h_shapes (by assumption) (by assumption) (by assumption) (ev_var (by assumption) rfl)
    | exact ev_h_marks (by assumption) (by assumption) (by assumption) (ev_var (by assumption) rfl)
    | exact ev_h_points (by assumption) (by assumption) (by assumption) (ev_var (by assumption) rfl)
    | exact ev_h_letters (by assumption) (by assumption) (by assumption) (ev_var (by assumption) rfl)
    | exact ev_h_gaps (by assumption) (by assumption) (by assumption) (ev_var (by assumption) rfl)
    | exact ev_h_classes (by assumption) (by assumption) (by assumption) (ev_var (by assumption) rfl)
    | exact ev_h_features (by assumption) (by assumption) (by assumption) (ev_var (by assumption) rfl)
    | exact ev_h_rules (by assumption) (by assumption) (by assumption) (ev_var (by assumption) rfl)
    | (refine' ev_dinK (by assumption) ?_ ?_ ?_ <;> (try walk_at "ev"))
    | (refine' ev_dniK (by assumption) ?_ ?_ ?_ <;> (try walk_at "ev"))
    | (refine' ev_dinT (by assumption) ?_ ?_ ?_ <;> (try walk_at "ev")))
  | (show EvA _ _ _ _; first
    | exact ea_nil (by assumption)
    | (refine' ea_cons (by assumption) ?_ ?_ <;> (try walk_at "ev")))
  | (show RV _ _ _ _ _; first
    | exact rv_int (by assumption)
    | exact rv_cmp (by assumption)
    | exact rv_eq (by assumption) rfl
    | exact rv_ne (by assumption) rfl
    | exact rv_isN (by assumption) rfl
    | exact rv_notN (by assumption) rfl
    | exact rv_inT (by assumption) (.inl rfl)
    | exact rv_inT (by assumption) (.inr rfl)
    | exact rv_niT (by assumption) (.inl rfl)
    | exact rv_niT (by assumption) (.inr rfl)
    | exact rv_inS (by assumption)
    | exact rv_niS (by assumption)
    | exact rv_ixS (by assumption) (by assumption)
    | exact rv_ixL (by assumption) (by assumption)
    | exact rv_ixT (by assumption) (by assumption)
    | exact rv_ixT (by assumption) rfl
    | exact rv_ixL (by assumption) rfl
    | (refine' rv_inM (by assumption) ?_ <;> (try walk_at "ev"))
    | (refine' rv_niM (by assumption) ?_ <;> (try walk_at "ev"))
    | (refine' rv_inX (by assumption) ?_ (.inl rfl) <;> (try walk_at "ev"))
    | (refine' rv_inX (by assumption) ?_ (.inr rfl) <;> (try walk_at "ev"))
    | (refine' rv_niX (by assumption) ?_ (.inl rfl) <;> (try walk_at "ev"))
    | (refine' rv_niX (by assumption) ?_ (.inr rfl) <;> (try walk_at "ev"))
    | exact rv_in (neg := false) (by assumption) rfl rfl (.inr rfl)
    | exact rv_in (neg := true) (by assumption) rfl rfl (.inr rfl)
    | exact rv_intC (g := fun i j => i % j) (by assumption) (by decide)
    | exact rv_intC (g := fun i j => i / j) (by assumption) (cdiv_ok (by decide)))
  | (show EvT _ _ _ _; first
    | exact et_yes (by assumption)
    | (refine' et_and (by assumption) ?_ (fun _ => ?_) <;> (try walk_at "ev"))
    | (refine' et_or (by assumption) ?_ (fun _ => ?_) <;> (try walk_at "ev"))
    | (refine' et_not ?_ <;> (try walk_at "ev"))
    | (refine' et_test ?_ <;> (try walk_at "ev"))
    | (refine' et_B ?_ <;> (try walk_at "ev")))
  | (show RC _ _ _ _; first
    | exact rc_lenL (by assumption)
    | exact rc_lenT (by assumption)
    | exact rc_lenS (by assumption)
    | exact rc_all (by assumption)
    | exact rc_intB (by assumption)
    | exact rc_strS (by assumption)
    | exact rc_listOf (by assumption) (.inl rfl)
    | exact rc_listOf (by assumption) (.inr rfl)
    | exact rc_tupOf (by assumption)
    | (refine' rc_lenD (by assumption) ?_ <;> (try walk_at "ev"))
    | (refine' rc_lenM (by assumption) ?_ <;> (try walk_at "ev")))
  | (show RM _ _ _ _ _; first
    | exact rm_strip' (by assumption))
  | (show EvO _ _ _ _; first
    | exact eo_none (by assumption)
    | (refine' eo_some ?_ <;> (try walk_at "ev")))
  | (show List.length _ ≤ Lim; with_unfolding_all exact Nat.le_of_ble_eq_true rfl)
  | (show List.length _ = _; with_unfolding_all rfl)
  | exact (fun _ _ _ => ⟨_, rfl, rfl⟩)
  | exact (fun _ _ _ => ⟨_, _, rfl, rfl⟩)
  | exact (fun _ _ _ => ⟨_, _, _, rfl, rfl⟩)
  | exact (fun _ _ _ => ⟨_, rfl, by assumption, rfl⟩)
  | exact hall_s (by assumption)
  | exact hall_m (by assumption)
  | exact hall_p (by assumption)
  | exact hall_l (by assumption)
  | exact hall_g (by assumption)
  | exact hall_c (by assumption)
  | exact hall_f (by assumption)
  | exact hall_r (by assumption)
  | exact TxL.of _
  | exact TxL.nil
  | (refine' TxL.cons ?_ <;> (try walk_at "ev")))


abbrev s_law_hall_text : Stmt := top 44
abbrev N_law_hall_text : List Str := ["_law_h", "_law_rows", "_law_name", "_law_side", "_law_own", "_law_past", "_law_spots", "_law_join", "_law_way", "_law_faces", "_law_width", "_law_spot", "_law_some_here", "_law_on", "_law_rule"]
abbrev P_law_hall_text : List Str := ["_law_h"]
theorem sc_law_hall_text : FnScope N_law_hall_text P_law_hall_text (defScope s_law_hall_text) := ⟨rfl, rfl, rfl, by decide +kernel, rfl, by decide +kernel, by decide +kernel⟩

abbrev spLawText : Sp := SpF 1 fun _ _ as r => ∃ t, as = [toldDt t] ∧ Fit t ∧ t.size ≤ 900 ∧ r = .str (Txt.join (Str.ofString "\n") (lineOf t))
theorem cal_law_hall_text (B : Blt mg) (D : Dfn K mg "_law_hall_text" s_law_hall_text) (C_law_pair_text : Cal P w K mg base "_law_pair_text" 1 P_law_pair_text spPairT) (C_law_rule_text : Cal P w K mg base "_law_rule_text" 1 P_law_rule_text spRuleT) :
    Cal P w K mg base "_law_hall_text" 2 P_law_hall_text spLawText := by
  have sc := sc_law_hall_text
  refine cal_of D (fun f fd F => fnok F sc fun cdv A outer s H E hr => have hr1 := hr; ⟨_, (pss_cons (ps_setLc (i := 1) (own := [("_law_name", 2), ("_law_width", 10)]) (by rfl) sc.nd rfl rfl (sw_true rfl rfl rfl (by decide +kernel)) (pi_list (pe_ix (r := rIxT K) ix_tup (pv 0) pe_int (fun _ _ => rfl))) (blkOk_by (N := N_law_hall_text) (sc := defScope s_law_hall_text) (by decide +kernel)) (fun _ _ _ _ _ => (pg_tupK (K := K) (n := 2) rfl rfl (pgs_cons (pg_name (i := 2) sc.nd rfl (Or.inl rfl)) (pgs_cons (pg_name (i := 10) sc.nd rfl (Or.inl rfl)) pgs_nil)))) (fun _ _ _ _ _ => pts_nil) (fun _ _ _ _ _ => (pe_op op_addT (pe_op op_addT (pe_op op_addT pe_str (pv 2)) pe_str) (pe_callTy call_strI (by rfl) B.str_ (by decide +kernel) (pa_cons (pv 10) pa_nil)))))
      (pss_cons (ps_for PassesOwn.never rfl (pi_list (pe_ix (r := rIxT K) ix_tup (pv 0) pe_int (fun _ _ => rfl))) (pg_tupK (K := K) (n := 4) rfl rfl (pgs_cons (pg_name (i := 2) sc.nd rfl (Or.inl rfl)) (pgs_cons (pg_name (i := 3) sc.nd rfl (Or.inl rfl)) (pgs_cons (pg_name (i := 4) sc.nd rfl (Or.inl rfl)) (pgs_cons (pg_name (i := 5) sc.nd rfl (Or.inl rfl)) pgs_nil))))) (pss_cons (ps_set (i := 6) sc.nd rfl (Or.inl rfl) (pe_op op_addT (pe_op op_addT (pe_callC C_law_pair_text hr1 rfl (pa_cons (pv 4) pa_nil)) pe_str) (pe_callC C_law_pair_text hr1 rfl (pa_cons (pv 5) pa_nil))))
      (pss_one (ps_expr (pe_bm PySem.F.plainAttrs_list PySem.F.slot_list_append PySem.F.type_list_append mt_append (pv 1) (pa_cons (pe_op op_addT (pe_op op_addT (pe_op op_addT (pe_op op_addT (pe_op op_addT pe_str (pv 2)) pe_str) (pv 3)) pe_str) (pv 6)) pa_nil))))))
      (pss_cons (ps_set (i := 1) sc.nd rfl (Or.inl rfl) (pe_op op_cat (pv 1) (pe_lc (own := [("_law_name", 2), ("_law_side", 3), ("_law_spot", 11)]) (by rfl) sc.nd (pi_list (pe_ix (r := rIxT K) ix_tup (pv 0) pe_int (fun _ _ => rfl))) (blkOk_by (N := N_law_hall_text) (sc := defScope s_law_hall_text) (by decide +kernel)) (fun _ _ _ _ _ => (pg_tupK (K := K) (n := 3) rfl rfl (pgs_cons (pg_name (i := 2) sc.nd rfl (Or.inl rfl)) (pgs_cons (pg_name (i := 3) sc.nd rfl (Or.inl rfl)) (pgs_cons (pg_name (i := 11) sc.nd rfl (Or.inl rfl)) pgs_nil))))) (fun _ _ _ _ _ => pts_nil) (fun _ _ _ _ _ => (pe_op op_addT (pe_op op_addT (pe_op op_addT (pe_op op_addT (pe_op op_addT pe_str (pv 2)) pe_str) (pv 3)) pe_str) (pe_callC C_law_pair_text hr1 rfl (pa_cons (pv 11) pa_nil)))))))
      (pss_cons (ps_for PassesOwn.never rfl (pi_list (pe_ix (r := rIxT K) ix_tup (pv 0) pe_int (fun _ _ => rfl))) (pg_tupK (K := K) (n := 4) rfl rfl (pgs_cons (pg_name (i := 2) sc.nd rfl (Or.inl rfl)) (pgs_cons (pg_name (i := 7) sc.nd rfl (Or.inl rfl)) (pgs_cons (pg_name (i := 8) sc.nd rfl (Or.inl rfl)) (pgs_cons (pg_name (i := 9) sc.nd rfl (Or.inl rfl)) pgs_nil))))) (pss_one (ps_expr (pe_bm PySem.F.plainAttrs_list PySem.F.slot_list_append PySem.F.type_list_append mt_append (pv 1) (pa_cons (pe_m1 (r := rJoin K) PySem.F.slot_str_join PySem.F.type_str_join mt_join pe_str (pe_op op_cat (pe_lst (pa_cons pe_str (pa_cons (pv 2) (pa_cons (pv 7) (pa_cons (pv 8) pa_nil))))) (pe_callTy (r := rListOf K) call_listOf (by rfl) B.list_ (by decide +kernel) (pa_cons (pv 9) pa_nil)))) pa_nil)))))
      (pss_cons (ps_set (i := 1) sc.nd rfl (Or.inl rfl) (pe_op op_cat (pv 1) (pe_lc (own := [("_law_name", 2)]) (by rfl) sc.nd (pi_list (pe_ix (r := rIxT K) ix_tup (pv 0) pe_int (fun _ _ => rfl))) (blkOk_by (N := N_law_hall_text) (sc := defScope s_law_hall_text) (by decide +kernel)) (fun _ _ _ _ _ => (pg_name (i := 2) sc.nd rfl (Or.inl rfl))) (fun _ _ _ _ _ => pts_nil) (fun _ _ _ _ _ => (pe_op op_addT pe_str (pv 2))))))
      (pss_cons (ps_set (i := 1) sc.nd rfl (Or.inl rfl) (pe_op op_cat (pv 1) (pe_lc (own := [("_law_name", 2), ("_law_some_here", 12)]) (by rfl) sc.nd (pi_list (pe_ix (r := rIxT K) ix_tup (pv 0) pe_int (fun _ _ => rfl))) (blkOk_by (N := N_law_hall_text) (sc := defScope s_law_hall_text) (by decide +kernel)) (fun _ _ _ _ _ => (pg_tupK (K := K) (n := 2) rfl rfl (pgs_cons (pg_name (i := 2) sc.nd rfl (Or.inl rfl)) (pgs_cons (pg_name (i := 12) sc.nd rfl (Or.inl rfl)) pgs_nil)))) (fun _ _ _ _ _ => pts_nil) (fun _ _ _ _ _ => (pe_m1 (r := rJoin K) PySem.F.slot_str_join PySem.F.type_str_join mt_join pe_str (pe_op op_cat (pe_lst (pa_cons pe_str (pa_cons (pv 2) pa_nil))) (pe_callTy (r := rListOf K) call_listOf (by rfl) B.list_ (by decide +kernel) (pa_cons (pv 12) pa_nil))))))))
      (pss_cons (ps_set (i := 1) sc.nd rfl (Or.inl rfl) (pe_op op_cat (pv 1) (pe_lc (own := [("_law_name", 2), ("_law_on", 13)]) (by rfl) sc.nd (pi_list (pe_ix (r := rIxT K) ix_tup (pv 0) pe_int (fun _ _ => rfl))) (blkOk_by (N := N_law_hall_text) (sc := defScope s_law_hall_text) (by decide +kernel)) (fun _ _ _ _ _ => (pg_tupK (K := K) (n := 2) rfl rfl (pgs_cons (pg_name (i := 2) sc.nd rfl (Or.inl rfl)) (pgs_cons (pg_name (i := 13) sc.nd rfl (Or.inl rfl)) pgs_nil)))) (fun _ _ _ _ _ => pts_nil) (fun _ _ _ _ _ => (pe_op op_addT (pe_op op_addT (pe_op op_addT pe_str (pv 2)) pe_str) (pe_ix (r := rIxL K) ix_list (pe_lst (pa_cons pe_str (pa_cons pe_str pa_nil))) (pe_callTy call_intB (by rfl) B.int_ (by decide +kernel) (pa_cons (pv 13) pa_nil)) (fun _ _ => rfl)))))))
      (pss_one (ps_ret (pe_m1 (r := rJoin K) PySem.F.slot_str_join PySem.F.type_str_join mt_join pe_str (pe_op op_cat (pv 1) (pe_lc (own := [("_law_rule", 14)]) (by rfl) sc.nd (pi_list (pe_ix (r := rIxT K) ix_tup (pv 0) pe_int (fun _ _ => rfl))) (blkOk_by (N := N_law_hall_text) (sc := defScope s_law_hall_text) (by decide +kernel)) (fun _ _ _ _ _ => (pg_name (i := 14) sc.nd rfl (Or.inl rfl))) (fun _ _ _ _ _ => pts_nil) (fun _ _ _ _ _ => (pe_callC C_law_rule_text hr1 rfl (pa_cons (pv 14) pa_nil))))))))))))))), fun G as r D hl sm hp hq hx => ?_⟩) (fun _ _ _ _ _ _ us hl => match us, hl with | [_], _ => rfl)
  obtain ⟨t, rfl, F, hz, rfl⟩ := hp
  have L := TLen.of F
  have sz := size_names t
  have ok : Cok (Bs No G H) := Bs.ok
  have due : ∀ {C : Hp → Hp → Prop} {ds : List (Option Dt)} {k : Nat} {d : Dt}, Cok C → ds[0]? = some (some (toldDt t)) → atI [.lst t.shapesD, .lst t.marksD, .lst t.pointsD, .lst t.lettersD, .lst (tx t.gaps), .lst t.classesD, .lst t.featuresD, .lst t.rulesD] (k : Int) = some d → EvD (tOp (rIxT K) (tVar 0) (tC (.int (k : Nat)))) C ds d := fun ok h e => ev_op ok (ev_var ok h) (ev_int ok) (rv_ixT ok e)
  have pair : ∀ {C : Hp → Hp → Prop} {ds : List (Option Dt)} {i : Nat} {p : Pt}, Cok C → ds[i]? = some (some (ptD p)) → smallP p → EvL (tCall spPairT [] E0 (tCons (tVar i) tNil)) C ds (pairT p) 13 := fun ok h hp => ⟨ev_call ok (ea_cons ok (ev_var ok h) (ea_nil ok)) rfl (fun _ _ _ => ⟨_, rfl, hp, rfl⟩), pair_len hp⟩
  have hS : ∀ {α : Type} (l : List α) (g : α → Str), (l.map fun p => Dt.str (g p)) = tx (l.map g) := fun l g => by rw [tx, List.map_map]; rfl
  -- shapes
  refine run_setN (Z := fun p => H p = none) (xs := t.shapes.map fun p => .str (shapeT p)) ok (en_map t.shapes (fun p => Dt.tup [.str p.1, .int p.2]) (fun p => [(2, .str p.1), (10, .int p.2)]) (fun p => .str (shapeT p)) ok (ei_list (due (k := 0) ok rfl rfl)) (fun _ _ => tg_tup (tgs_cons tg_name (tgs_cons tg_name tgs_nil)) rfl) (fun _ _ i hi => by simpa using hi)
    (fun p hp => (el_add ok (el_add ok (el_add ok (el_str (x := "shape ") (n := 10) ok (by decide +kernel)) (el_var ok rfl (L.s p hp).1)) (el_str (x := " ") (n := 1) ok (by decide +kernel))) (el_num ok rfl (L.s p hp).2)).1) (by show _ ≤ 16000000; omega)) (fun _ _ p k hp => k.th p hp) fun p hp => ?_
  refine (?_ : Run _ (CT G H p (t.shapes.map fun p => .str (shapeT p))) _ D)
  -- marks
  refine run_seq (run_rowsFor (CC := CT G H p) (p := p) t.marks (fun p => Dt.tup [.str p.1, .str p.2.1, ptD p.2.2.1, ptD p.2.2.2]) (fun p => [(2, .str p.1), (3, .str p.2.1), (4, ptD p.2.2.1), (5, ptD p.2.2.2)]) (fun p => .str (markT p)) (t.shapes.map fun p => .str (shapeT p))
    [some (toldDt t), some (.obj p), none, none, none, none, none, none, none, none, none, none, none, none, none] (fun _ => CT.ok) (CT.put hp) (ei_list (due (k := 1) CT.ok rfl rfl)) (fun _ _ => tg_tup (tgs_cons tg_name (tgs_cons tg_name (tgs_cons tg_name (tgs_cons tg_name tgs_nil)))) rfl) (Less.refl _) (by rw [List.length_map]; omega) ?_ ?_)
  · intro y hy R' C' hR ok' hc D' hD'
    obtain ⟨l1, l2, l3, l4⟩ := L.m y hy
    have sp := el_add ok' (el_add ok' (pair (ds := [some (toldDt t), some (.obj p), some (.str y.1), some (.str y.2.1), some (ptD y.2.2.1), some (ptD y.2.2.2), none, none, none, none, none, none, none, none, none]) (i := 4) ok' rfl l3) (el_str (x := " ") (n := 1) ok' (by decide +kernel))) (pair (i := 5) ok' rfl l4)
    refine run_set ok' sp.1 ?_
    refine run_append ok' (ev_var ok' rfl) (el_add ok' (el_add ok' (el_add ok' (el_add ok' (el_add ok' (el_str (x := "mark ") (n := 10) ok' (by decide +kernel)) (el_var ok' rfl l1)) (el_str (x := " ") (n := 1) ok' (by decide +kernel))) (el_var ok' rfl l2)) (el_str (x := " ") (n := 1) ok' (by decide +kernel))) (el_var ok' rfl sp.2)).1 (fun G1 H1 k => (hc G1 H1 k).2) hR (fun G1 σ1 H1 k s1 H2 mu st => hD' G1 σ1 H1 H2 k (s1.less ?_) mu st)
    exact .keep (.keep (.gone (.gone (.gone (.gone (.gone (.keep (.keep (.keep (.keep (.keep (.keep (.keep (.keep .nil))))))))))))))
  refine run_nx ?_
  rw [hS t.shapes shapeT, hS t.marks markT, ← List.map_append]
  have l2 : ∀ {n : Nat} {l : List Str}, l.length = n → (tx l).length = n := fun h => by rw [List.length_map]; exact h
  have okp : ∀ {p R}, Cok (CT G H p R) := CT.ok
  -- points
  refine run_setN (Z := fun q => H q = none) (xs := tx ((t.shapes.map shapeT ++ t.marks.map markT) ++ t.points.map pointT)) okp ?_ (fun _ _ q k hq1 => k.1.th q hq1) fun q hq1 => ?_
  · rw [show (tx ((t.shapes.map shapeT ++ t.marks.map markT) ++ t.points.map pointT)) = tx (t.shapes.map shapeT ++ t.marks.map markT) ++ t.points.map (fun p => Dt.str (pointT p)) by rw [hS]; simp [tx]]
    refine en_op okp (ev_var okp rfl) (EvN.ev okp (en_map t.points (fun p => Dt.tup [.str p.1, .str p.2.1, ptD p.2.2]) (fun p => [(2, .str p.1), (3, .str p.2.1), (11, ptD p.2.2)]) (fun p => .str (pointT p)) okp (ei_list (due (k := 2) okp rfl rfl)) (fun _ _ => tg_tup (tgs_cons tg_name (tgs_cons tg_name (tgs_cons tg_name tgs_nil))) rfl) (fun _ _ i hi => by simpa using hi)
      (fun p hp => (el_add okp (el_add okp (el_add okp (el_add okp (el_add okp (el_str (x := "point ") (n := 10) okp (by decide +kernel)) (el_var okp rfl (L.p p hp).1)) (el_str (x := " ") (n := 1) okp (by decide +kernel))) (el_var okp rfl (L.p p hp).2.1)) (el_str (x := " ") (n := 1) okp (by decide +kernel))) (pair okp rfl (L.p p hp).2.2)).1) (by show _ ≤ 16000000; omega))) (rn_catM okp (fun _ _ k => k.2) (by simp only [List.length_map, List.length_append]; show _ ≤ 16000000; omega))
  refine run_sub (C' := CT G H q _) ?_ (fun G1 H1 k => ⟨k.1.1, k.2⟩)
  -- letters
  refine run_seq (run_rowsFor (CC := CT G H q) (p := q) t.letters (fun p => Dt.tup [.str p.1, .str p.2.1, .str p.2.2.1, .tup (tx p.2.2.2)]) (fun p => [(2, .str p.1), (7, .str p.2.1), (8, .str p.2.2.1), (9, .tup (tx p.2.2.2))]) (fun p => .str (letterT p)) _
    [some (toldDt t), some (.obj q), none, none, none, none, none, none, none, none, none, none, none, none, none] (fun _ => CT.ok) (CT.put hq1) (ei_list (due (k := 3) CT.ok rfl rfl)) (fun _ _ => tg_tup (tgs_cons tg_name (tgs_cons tg_name (tgs_cons tg_name (tgs_cons tg_name tgs_nil)))) rfl) (Less.refl _) (by simp only [List.length_map, List.length_append]; omega) ?_ ?_)
  · intro y hy R' C' hR ok' hc D' hD'
    have h4 := (L.l y hy).2.2.2.1
    refine run_append ok' (ev_var ok' rfl) (ev_m1 ok' (ev_str ok') (ev_catT (xs := ["letter", y.1, y.2.1, y.2.2.1]) ok' (ev_lstA ok' (ea_cons ok' (ev_str ok') (ea_cons ok' (ev_var ok' rfl) (ea_cons ok' (ev_var ok' rfl) (ea_cons ok' (ev_var ok' rfl) (ea_nil ok')))))) (ev_cb ok' (ea_cons ok' (ev_var ok' rfl) (ea_nil ok')) (rc_listOf ok' (.inr rfl))) (by simp only [List.length_cons, List.length_nil]; omega)) (rm_joinS ok' (by rw [List.length_append]; simp only [List.length_cons, List.length_nil]; omega) (fun z hz => Nat.le_trans (letter_len L y hy z hz) (by decide)) (by decide +kernel))) (fun G1 H1 k => (hc G1 H1 k).2) hR (fun G1 σ1 H1 k s1 H2 mu st => hD' G1 σ1 H1 H2 k (s1.less ?_) mu st)
    exact .keep (.keep (.gone (.keep (.keep (.keep (.keep (.gone (.gone (.gone (.keep (.keep (.keep (.keep (.keep .nil))))))))))))))
  refine run_nx ?_
  rw [hS t.letters letterT, ← List.map_append]
  -- gaps
  refine run_setN (Z := fun q => H q = none) (xs := tx (((t.shapes.map shapeT ++ t.marks.map markT) ++ t.points.map pointT ++ t.letters.map letterT) ++ t.gaps.map gapT)) okp ?_ (fun _ _ q k hq => k.1.th q hq) fun q2 hq2 => ?_
  · rw [show (tx (((t.shapes.map shapeT ++ t.marks.map markT) ++ t.points.map pointT ++ t.letters.map letterT) ++ t.gaps.map gapT)) = tx ((t.shapes.map shapeT ++ t.marks.map markT) ++ t.points.map pointT ++ t.letters.map letterT) ++ t.gaps.map (fun p => Dt.str (gapT p)) by rw [hS]; simp [tx]]
    exact en_op okp (ev_var okp rfl) (EvN.ev okp (en_map t.gaps Dt.str (fun p => [(2, .str p)]) (fun p => .str (gapT p)) okp (ei_list (due (k := 4) okp rfl rfl)) (fun _ _ => tg_name) (fun _ _ i hi => by simpa using hi)
      (fun p hp => (el_add okp (el_str (x := "gap ") (n := 10) okp (by decide +kernel)) (el_var okp rfl (L.g p hp))).1) (by show _ ≤ 16000000; omega))) (rn_catM okp (fun _ _ k => k.2) (by simp only [List.length_map, List.length_append]; show _ ≤ 16000000; omega))
  refine run_sub (C' := CT G H q2 _) ?_ (fun G1 H1 k => ⟨k.1.1, k.2⟩)
  -- classes
  refine run_setN (Z := fun q => H q = none) (xs := tx ((((t.shapes.map shapeT ++ t.marks.map markT) ++ t.points.map pointT ++ t.letters.map letterT) ++ t.gaps.map gapT) ++ t.classes.map classT)) okp ?_ (fun _ _ q k hq => k.1.th q hq) fun q3 hq3 => ?_
  · rw [show (tx ((((t.shapes.map shapeT ++ t.marks.map markT) ++ t.points.map pointT ++ t.letters.map letterT) ++ t.gaps.map gapT) ++ t.classes.map classT)) = tx (((t.shapes.map shapeT ++ t.marks.map markT) ++ t.points.map pointT ++ t.letters.map letterT) ++ t.gaps.map gapT) ++ t.classes.map (fun p => Dt.str (classT p)) by rw [hS]; simp [tx]]
    refine en_op okp (ev_var okp rfl) (EvN.ev okp (en_map t.classes (fun p => Dt.tup [.str p.1, .tup (tx p.2)]) (fun p => [(2, .str p.1), (12, .tup (tx p.2))]) (fun p => .str (classT p)) okp (ei_list (due (k := 5) okp rfl rfl)) (fun _ _ => tg_tup (tgs_cons tg_name (tgs_cons tg_name tgs_nil)) rfl) (fun _ _ i hi => by simpa using hi)
      (fun p hp => ?_) (by show _ ≤ 16000000; omega))) (rn_catM okp (fun _ _ k => k.2) (by simp only [List.length_map, List.length_append]; show _ ≤ 16000000; omega))
    have h4 := (L.c p hp).2.1
    exact ev_m1 okp (ev_str okp) (ev_catT (xs := ["class", p.1]) okp (ev_lstA okp (ea_cons okp (ev_str okp) (ea_cons okp (ev_var okp rfl) (ea_nil okp)))) (ev_cb okp (ea_cons okp (ev_var okp rfl) (ea_nil okp)) (rc_listOf okp (.inr rfl))) (by simp only [List.length_cons, List.length_nil]; omega)) (rm_joinS okp (by rw [List.length_append]; simp only [List.length_cons, List.length_nil]; omega) (fun z hz => Nat.le_trans (class_len L p hp z hz) (by decide)) (by decide +kernel))
  refine run_sub (C' := CT G H q3 _) ?_ (fun G1 H1 k => ⟨k.1.1, k.2⟩)
  -- features
  refine run_setN (Z := fun q => H q = none) (xs := tx (((((t.shapes.map shapeT ++ t.marks.map markT) ++ t.points.map pointT ++ t.letters.map letterT) ++ t.gaps.map gapT) ++ t.classes.map classT) ++ t.features.map featT)) okp ?_ (fun _ _ q k hq => k.1.th q hq) fun q4 hq4 => ?_
  · rw [show (tx (((((t.shapes.map shapeT ++ t.marks.map markT) ++ t.points.map pointT ++ t.letters.map letterT) ++ t.gaps.map gapT) ++ t.classes.map classT) ++ t.features.map featT)) = tx ((((t.shapes.map shapeT ++ t.marks.map markT) ++ t.points.map pointT ++ t.letters.map letterT) ++ t.gaps.map gapT) ++ t.classes.map classT) ++ t.features.map (fun p => Dt.str (featT p)) by rw [hS]; simp [tx]]
    refine en_op okp (ev_var okp rfl) (EvN.ev okp (en_map t.features (fun p => Dt.tup [.str p.1, .bl p.2]) (fun p => [(2, .str p.1), (13, .bl p.2)]) (fun p => .str (featT p)) okp (ei_list (due (k := 6) okp rfl rfl)) (fun _ _ => tg_tup (tgs_cons tg_name (tgs_cons tg_name tgs_nil)) rfl) (fun _ _ i hi => by simpa using hi)
      (fun p hp => ?_) (by show _ ≤ 16000000; omega))) (rn_catM okp (fun _ _ k => k.2) (by simp only [List.length_map, List.length_append]; show _ ≤ 16000000; omega))
    refine (el_add (n := 10 + 12 + 1) okp (el_add okp (el_add okp (el_str (x := "feature ") (n := 10) okp (by decide +kernel)) (el_var okp rfl (L.f p hp))) (el_str (x := " ") (n := 1) okp (by decide +kernel))) (m := 3) ⟨ev_op okp (ev_lstA okp (ea_cons okp (ev_str okp) (ea_cons okp (ev_str okp) (ea_nil okp)))) (ev_cb okp (ea_cons okp (ev_var okp rfl) (ea_nil okp)) (rc_intB okp)) (rv_ixL okp ?_), ?_⟩).1
    · cases p.2 <;> rfl
    · cases p.2 <;> decide +kernel
  refine run_sub (C' := CT G H q4 _) ?_ (fun G1 H1 k => ⟨k.1.1, k.2⟩)
  -- rules
  refine run_ret okp (ev_m1 okp (ev_str okp) (EvD.is (ev_op okp (ev_var okp rfl) (EvN.ev okp (en_map t.rules ruleD (fun p => [(14, ruleD p)]) (fun p => .str (ruleT p)) okp (ei_list (due (k := 7) okp rfl rfl)) (fun _ _ => tg_name) (fun _ _ i hi => by simpa using hi)
      (fun p hp => ev_call okp (ea_cons okp (ev_var okp rfl) (ea_nil okp)) rfl (fun _ _ _ => ⟨p, rfl, (L.r p hp).1, (L.r p hp).2, rfl⟩)) (by show _ ≤ 16000000; omega))) (EvN_ev2 okp (rn_catM okp (fun _ _ k => k.2) (by simp only [List.length_map, List.length_append]; show _ ≤ 16000000; omega)))) (?_ : _ = Dt.lst (tx (lineOf t))))
    (rm_joinS okp (by rw [line_cnt]; omega) (line_len L) (by decide +kernel))) rfl (fun v G3 H3 k3 r3 => hq v G3 H3 k3.1 r3)
  rw [hS]; simp [tx, lineOf]
end
end Kx

namespace Kx
open PySem L2
/-! ## a dict read while it is locked -/
theorem set_same {α : Type} : ∀ {l : List α} {i : Nat} {x : α}, l[i]? = some x → l.set i x = l
  | [], _, _, h => by simp at h
  | a :: l, 0, x, h => by
    have e : a = x := Option.some.inj h
    rw [e]; rfl
  | a :: l, i + 1, x, h => by
    have ih := set_same (l := l) (i := i) (x := x) h
    show a :: l.set i x = a :: l
    rw [ih]
theorem ip_ext {X : Cx} : PIp X .Add rExt2 := iop_ext
def LkU (d : Addr) (od : Obj) (u : HO) (C : Hp → Hp → Prop) : Hp → Hp → Prop := fun G H => H d = some (.frz od u) ∧ G d = none ∧ C G (upd H d u)
theorem Stp.unfrz {S : Addr → Prop} {G H G' H' : Hp} {d : Addr} {od : Obj} {u : HO} (st : Stp S G H G' H') (e : H d = some (.frz od u)) (g : G d = none) (n : ¬ S d) : H' d = some (.frz od u) ∧ G' d = none ∧ Stp S G (upd H d u) G' (upd H' d u) := by
  have e' : H' d = some (.frz od u) := st.hh d _ n e
  have g' : G' d = none := st.ap' e n (fun _ => nofun) g
  refine ⟨e', g', st.gg, fun b o q => ?_, fun b o nb q => ?_, fun b q => ?_, fun b o q gb => ?_⟩
  · rw [upd_ne (ne_of_none q g')]; exact st.gh b o q
  · by_cases hb : b = d
    · subst hb; rw [upd_same] at q ⊢; exact q
    · rw [upd_ne hb] at q ⊢; exact st.hh b o nb q
  · by_cases hb : b = d
    · subst hb; rw [upd_same] at q; cases q
    · rw [upd_ne hb] at q ⊢; exact st.th b q
  · by_cases hb : b = d
    · subst hb; exact .inl g'
    · rw [upd_ne hb] at q; exact st.ap b o q gb
section
variable {C : Hp → Hp → Prop} {d p : Addr} {od : Obj} {u : HO}
theorem LkU.ok (ok : Cok C) : Cok (LkU d od u C) := ⟨fun {G H} c b o e => by
    have h := ok.sub c.2.2 b o e
    rw [upd_ne (ne_of_none e c.2.1)] at h; exact h, fun c q => by
    obtain ⟨a, b, s⟩ := q.unfrz c.1 c.2.1 (fun z => z)
    exact ⟨a, b, ok.stp c.2.2 s⟩⟩
theorem LkU.mu {R : List Dt} {G H : Hp} (h : Mu p R G (upd H d u)) (n : p ≠ d) : Mu p R G H := by
  obtain ⟨a, vs, b, c⟩ := h
  rw [upd_ne n] at b
  exact ⟨a, vs, b, c⟩
theorem LkU.put {CC : List Dt → Hp → Hp → Prop} (n : p ≠ d) (h : ∀ R R' G1 H1 H2, CC R G1 H1 → Mu p R' G1 H2 → Stp (fun b => b = p) G1 H1 G1 H2 → CC R' G1 H2) :
    ∀ R R' G1 H1 H2, LkU d od u (CC R) G1 H1 → Mu p R' G1 H2 → Stp (fun b => b = p) G1 H1 G1 H2 → LkU d od u (CC R') G1 H2 := fun R R' G1 H1 H2 k mu st => by
  obtain ⟨a, b, s⟩ := st.unfrz k.1 k.2.1 (fun z => n z.symm)
  obtain ⟨m1, vs, m2, m3⟩ := mu
  exact ⟨a, b, h R R' G1 _ _ k.2.2 ⟨m1, vs, by rw [upd_ne n]; exact m2, m3⟩ s⟩
/-- a statement under the lock of the thing at d -/
theorem run_lock {ι : Type} {C' : ι → Hp → Hp → Prop} {ds : List (Option Dt)} {ds' : ι → List (Option Dt)} {t t2 : TS} {D : Ends} (hd : ∀ G H, C G H → G d = none ∧ ∃ u, H d = some u ∧ Mut (some u))
    (q : ∀ (od : Obj) (u : HO) (D' : Ends), (∀ i G σ H, LkU d od u (C' i) G H → Slots G σ (ds' i) → D'.nx σ H) → Run t (LkU d od u C) ds D') (q2 : ∀ i, Run t2 (C' i) (ds' i) D) : Run (tSeq (tLock t) t2) C ds D := fun G σ H k s => by
  obtain ⟨g, u, e, mu⟩ := hd G H k
  refine ⟨d, u, e, mu, fun od => ?_⟩
  refine q od u ⟨fun σ' H' => H' d = some (.frz od u) ∧ t2 D σ' (upd H' d u), fun v H' => H' d = some (.frz od u) ∧ D.rt v (upd H' d u), fun σ' H' => H' d = some (.frz od u) ∧ D.bk σ' (upd H' d u), fun σ' H' => H' d = some (.frz od u) ∧ D.ct σ' (upd H' d u)⟩ (fun i G1 σ1 H1 k1 s1 => ⟨k1.1, q2 i G1 σ1 _ k1.2.2 s1⟩) G σ _ ⟨upd_same, g, ?_⟩ s
  have e2 : upd (upd H d (.frz od u)) d u = H := by
    funext b
    by_cases hb : b = d
    · subst hb; rw [upd_same, e]
    · rw [upd_ne hb, upd_ne hb]
  rw [e2]; exact k
theorem RK.get {G : Hp} : ∀ {kvs : List (Key × V)} {xs : List (Str × Dt)} {i : Nat} {q : Str × Dt}, RK G kvs xs → xs[i]? = some q → ∃ v, kvs[i]? = some (.inr q.1, v) ∧ Rep G v q.2
  | _, _, _, _, .nil, e => by simp at e
  | _, _, 0, _, .cons h _, e => by simp at e; subst e; exact ⟨_, rfl, h⟩
  | _, _, i + 1, _, .cons _ r, e => by
    obtain ⟨v, h1, h2⟩ := RK.get (i := i) r (by simpa using e)
    exact ⟨v, by simpa using h1, h2⟩
theorem RT.get {G : Hp} : ∀ {kvs : List (List Key × V)} {xs : List (List Str × Dt)} {i : Nat} {q : List Str × Dt}, RT G kvs xs → xs[i]? = some q → ∃ v, kvs[i]? = some (q.1.map Sum.inr, v) ∧ Rep G v q.2
  | _, _, _, _, .nil, e => by simp at e
  | _, _, 0, _, .cons h _, e => by simp at e; subst e; exact ⟨_, rfl, h⟩
  | _, _, i + 1, _, .cons _ r, e => by
    obtain ⟨v, h1, h2⟩ := RT.get (i := i) r (by simpa using e)
    exact ⟨v, by simpa using h1, h2⟩
variable {S : Addr → Prop} {ds : List (Option Dt)} {te : TE} {td : TE} {D : Ends}
theorem ei_itemsK {xs : List (Str × Dt)} (ok : Cok C) (h : EvD te (LkU d od u C) ds (.obj d)) (hf : ∀ G H, C G H → DK d xs G H) (hk : ∀ q ∈ xs, q.1.length ≤ Lim) (nS : ¬ S d) : EvI S (iItems te) (LkU d od u C) ds (xs.map fun q => .tup [.str q.1, q.2]) := fun G σ H k s R z => h G σ H k s _ fun v G1 H1 p1 r1 => by
  cases r1
  obtain ⟨e1, g1, c1⟩ := (LkU.ok ok).stp k p1
  obtain ⟨_, kvs, e2, rk⟩ := hf _ _ c1
  rw [upd_same] at e2
  cases e2
  refine ⟨d, od, kvs, rfl, e1, z _ G1 H1 p1 fun i G' H' st => ⟨fun hi => ⟨st.hh _ _ nS e1, ?_⟩, fun dd hdd => ?_⟩⟩
  · rw [rk.length]; rw [List.length_map] at hi; exact hi
  · rw [List.getElem?_map] at hdd
    obtain ⟨x, hx, rfl⟩ := Option.map_eq_some_iff.mp hdd
    obtain ⟨v, hv, rv⟩ := (rk.mono st.gg).get hx
    refine ⟨⟨st.hh _ _ nS e1, (List.getElem?_eq_some_iff.mp hv).1⟩, fun w H'' y => ?_⟩
    obtain ⟨T, k2, v2, h2, rfl, hT, rfl⟩ := y
    rw [hv] at h2
    cases h2
    have pn : Pu G' H' (upd G' T (.tup [.str x.1, v])) (upd H' T (.tup [.str x.1, v])) := Pu.new st.gh hT
    exact ⟨_, pn, .tup upd_same (.cons (.str _ (hk x (List.mem_of_getElem? hx))) (.cons (rv.mono pn.gg) .nil))⟩
theorem ei_itemsT {xs : List (List Str × Dt)} (ok : Cok C) (h : EvD te (LkU d od u C) ds (.obj d)) (hf : ∀ G H, C G H → DT d xs G H) (hk : ∀ q ∈ xs, ∀ x ∈ q.1, x.length ≤ Lim) (nS : ¬ S d) : EvI S (iItemsT te) (LkU d od u C) ds (xs.map fun q => .tup [.tup (tx q.1), q.2]) := fun G σ H k s R z => h G σ H k s _ fun v G1 H1 p1 r1 => by
  cases r1
  obtain ⟨e1, g1, c1⟩ := (LkU.ok ok).stp k p1
  obtain ⟨_, kvs, e2, rk⟩ := hf _ _ c1
  rw [upd_same] at e2
  cases e2
  refine ⟨d, od, kvs, rfl, e1, z _ G1 H1 p1 fun i G' H' st => ⟨fun hi => ⟨st.hh _ _ nS e1, ?_⟩, fun dd hdd => ?_⟩⟩
  · rw [rk.length]; rw [List.length_map] at hi; exact hi
  · rw [List.getElem?_map] at hdd
    obtain ⟨x, hx, rfl⟩ := Option.map_eq_some_iff.mp hdd
    obtain ⟨v, hv, rv⟩ := (rk.mono st.gg).get hx
    refine ⟨⟨st.hh _ _ nS e1, (List.getElem?_eq_some_iff.mp hv).1⟩, fun w H'' y => ?_⟩
    obtain ⟨T, k2, v2, q, h2, rfl, hT, hq, rfl⟩ := y
    rw [hv] at h2
    cases h2
    have hq2 : H' q = some (.tup (x.1.map V.str)) := by rw [hq, List.map_map]; rfl
    -- the key's tuple is taken to stay, too
    have nTq : T ≠ q := fun z => by rw [z, hq2] at hT; cases hT
    let o : HO := .tup [.ref q, v]
    have st2 : Pu G' H' (upd (upd G' T o) q (.tup (x.1.map V.str))) (upd H' T o) := by
      refine ⟨fun b o' e => ?_, fun b o' e => ?_, fun b o' _ e => ?_, fun b e => ?_, fun b o' e gb => ?_⟩
      · by_cases hb : b = q
        · subst hb
          have e3 := st.gh _ _ e
          rw [hq2] at e3
          rw [upd_same]; exact e3
        · rw [upd_ne hb, upd_ne (ne_of_none e (st.gh.free hT))]; exact e
      · by_cases hb : b = q
        · subst hb
          rw [upd_same] at e
          rw [upd_ne (Ne.symm nTq), hq2]; exact e
        · rw [upd_ne hb] at e
          by_cases hb2 : b = T
          · subst hb2; rw [upd_same] at e ⊢; exact e
          · rw [upd_ne hb2] at e ⊢; exact st.gh _ _ e
      · rw [upd_ne (ne_of_none e hT)]; exact e
      · by_cases hb2 : b = T
        · subst hb2; rw [upd_same] at e; cases e
        · rw [upd_ne hb2] at e; exact e
      · by_cases hb : b = q
        · subst hb; exact .inr ⟨_, upd_same⟩
        · exact .inl (by rw [upd_ne hb, upd_ne (ne_of_none e hT)]; exact gb)
    refine ⟨_, st2, .tup (by rw [upd_ne nTq, upd_same]) (.cons (.tup upd_same (RepA.ofStrs (hk x (List.mem_of_getElem? hx)))) (.cons (rv.mono st2.gg) .nil))⟩
theorem ei_itemsKm {α : Type} {xs : List (Str × Dt)} (l : List α) (g : α → Str) (f : α → Dt) (e : xs = l.map fun p => (g p, f p)) (ok : Cok C) (h : EvD te (LkU d od u C) ds (.obj d)) (hf : ∀ G H, C G H → DK d xs G H) (hk : ∀ p ∈ l, (g p).length ≤ Lim) (nS : ¬ S d) : EvI S (iItems te) (LkU d od u C) ds (l.map fun p => .tup [.str (g p), f p]) := by
  have h2 := ei_itemsK (S := S) ok h hf (fun q hq => by
    rw [e] at hq
    obtain ⟨p, hp, rfl⟩ := List.mem_map.mp hq
    exact hk p hp) nS
  rw [e, List.map_map] at h2
  exact h2
theorem ei_itemsTm {α : Type} {xs : List (List Str × Dt)} (l : List α) (g : α → List Str) (f : α → Dt) (e : xs = l.map fun p => (g p, f p)) (ok : Cok C) (h : EvD te (LkU d od u C) ds (.obj d)) (hf : ∀ G H, C G H → DT d xs G H) (hk : ∀ p ∈ l, ∀ x ∈ g p, x.length ≤ Lim) (nS : ¬ S d) : EvI S (iItemsT te) (LkU d od u C) ds (l.map fun p => .tup [.tup (tx (g p)), f p]) := by
  have h2 := ei_itemsT (S := S) ok h hf (fun q hq => by
    rw [e] at hq
    obtain ⟨p, hp, rfl⟩ := List.mem_map.mp hq
    exact hk p hp) nS
  rw [e, List.map_map] at h2
  exact h2
/-- p += a new list -/
theorem run_aug {i : Nat} {xs ys : List Dt} (ok : Cok C) (hi : ds[i]? = some (some (.obj p))) (he : EvN te C ds ys) (hm : ∀ G H, C G H → Mu p xs G H) (hl : xs.length + ys.length ≤ Lim)
    (q : ∀ G σ H H', C G H → Slots G σ ds → Mu p (xs ++ ys) G H' → Stp (fun b => b = p) G H G H' → D.nx σ H') : Run (tAug i te rExt2) C ds D := fun G σ H k s => by
  obtain ⟨v, e, r⟩ := s.get hi
  cases r
  refine ⟨_, e, he G σ H k s _ fun a vs G1 H1 p1 n1 g1 e1 r1 => ?_⟩
  have k1 := ok.stp k p1
  obtain ⟨n, ws, e2, r2⟩ := hm G1 H1 k1
  refine ⟨p, a, ws, vs, rfl, rfl, e2, e1, by rw [r2.length, r1.length]; exact lim_line hl, ?_⟩
  have s1 := s.mono p1.gg
  have hs : Slots G1 (σ.set i (some (.ref p))) ds := by
    have h2 := s1.set (.obj p) i
    rw [set_same hi] at h2
    exact h2
  exact q G1 _ H1 _ k1 hs ⟨n, _, upd_same, r2.append r1⟩ ((Stp.refl p1.gh).write (.inl rfl) n)
theorem run_augS {i : Nat} {C' : Hp → Hp → Prop} {t2 : TS} {xs ys : List Dt} (ok : Cok C) (hi : ds[i]? = some (some (.obj p))) (he : EvN te C ds ys) (hm : ∀ G H, C G H → Mu p xs G H) (hl : xs.length + ys.length ≤ Lim)
    (hc : ∀ G H H', C G H → Mu p (xs ++ ys) G H' → Stp (fun b => b = p) G H G H' → C' G H') (q : Run t2 C' ds D) : Run (tSeq (tAug i te rExt2) t2) C ds D := run_seq (run_aug ok hi he hm hl fun G σ H H' k s mu st => q G σ H' (hc G H H' k mu st) s)
theorem run_asgN {i : Nat} {xs : List Dt} {Z : Addr → Prop} (ok : Cok C) (h : EvN te C ds xs) (hZ : ∀ G H p, C G H → H p = none → Z p) (q : ∀ p, Z p → Run tNext (fun G H => C G H ∧ Mu p xs G H) (ds.set i (some (.obj p))) D) : Run (tAsg te (gName i)) C ds D := (run_setN (u := tNext) ok h hZ q : Run (tSeq (tAsg te (gName i)) tNext) C ds D)
end
end Kx

namespace Kx
open PySem L2
/-! ## the program's own text of a hall -/
def shapeW (p : Str × Int) : List Dt := [.str "shape", .str p.1, .int p.2]
def markW (p : Str × Str × Pt × Pt) : List Dt := ([.str "mark", .str p.1, .str p.2.1] ++ [.int p.2.2.1.1, .int p.2.2.1.2]) ++ [.int p.2.2.2.1, .int p.2.2.2.2]
def pointW (p : Str × Str × Pt) : List Dt := ([.str "point"] ++ tx [p.1, p.2.1]) ++ [.int p.2.2.1, .int p.2.2.2]
def letterW (p : Str × Str × Str × List Str) : List Dt := tx ((["letter", p.1, p.2.1, p.2.2.1] : List Str) ++ p.2.2.2)
def gapW (n : Str) : List Dt := [.str "gap", .str n]
def classW (p : Str × List Str) : List Dt := tx ((["class", p.1] : List Str) ++ p.2)
def featW (p : Str × Bool) : List Dt := [.str "feature", .str p.1, .str (onT p.2)]
def ruleW (p : Str × Str × Pts) : List Dt := tx (ruleWords p)
def wordsT (t : Told) : List (List Dt) := ((((((t.shapes.map shapeW ++ t.marks.map markW) ++ t.points.map pointW) ++ t.letters.map letterW) ++ t.gaps.map gapW) ++ t.classes.map classW) ++ t.features.map featW) ++ t.rules.map ruleW
theorem cells_tx (l : List Str) : (tx l).map cellT = l := by
  rw [tx, List.map_map]
  exact List.map_id l
theorem join2 (x a b : Str) (r : List Str) : Txt.join x (a :: b :: r) = (a ++ x) ++ Txt.join x (b :: r) := by rw [TL.join_eq, TL.join_eq]; rfl
theorem join1 (x a : Str) : Txt.join x [a] = a := by rw [TL.join_eq]; rfl
theorem lit_blank {x y : Str} (h : tl y = tl x ++ tl " ") (z : Str) : (x ++ " ") ++ z = y ++ z := ext_tl (by rw [tl_app, tl_app, tl_app, h])
theorem row_shape (p : Str × Int) : rowT (shapeW p) = shapeT p := by
  show Txt.join " " ["shape", p.1, numT p.2] = _
  rw [join2, join2, join1, lit_blank (y := "shape ") (by decide +kernel)]
  exact ext_tl (by simp only [shapeT, tl_app, List.append_assoc])
theorem row_mark (p : Str × Str × Pt × Pt) : rowT (markW p) = markT p := by
  show Txt.join " " ["mark", p.1, p.2.1, numT p.2.2.1.1, numT p.2.2.1.2, numT p.2.2.2.1, numT p.2.2.2.2] = _
  rw [join2, join2, join2, join2, join2, join2, join1, lit_blank (y := "mark ") (by decide +kernel)]
  exact ext_tl (by simp only [markT, pairT, tl_app, List.append_assoc])
theorem row_point (p : Str × Str × Pt) : rowT (pointW p) = pointT p := by
  show Txt.join " " ["point", p.1, p.2.1, numT p.2.2.1, numT p.2.2.2] = _
  rw [join2, join2, join2, join2, join1, lit_blank (y := "point ") (by decide +kernel)]
  exact ext_tl (by simp only [pointT, pairT, tl_app, List.append_assoc])
theorem row_tx (l : List Str) : rowT (tx l) = Txt.join " " l := by unfold rowT; rw [cells_tx]
theorem row_gap (n : Str) : rowT (gapW n) = gapT n := by
  show Txt.join " " ["gap", n] = _
  rw [join2, join1, lit_blank (y := "gap ") (by decide +kernel)]
  rfl
theorem row_feat (p : Str × Bool) : rowT (featW p) = featT p := by
  show Txt.join " " ["feature", p.1, onT p.2] = _
  rw [join2, join2, join1, lit_blank (y := "feature ") (by decide +kernel)]
  exact ext_tl (by simp only [featT, tl_app, List.append_assoc])
theorem map2 {α : Type} (l : List α) (f : α → List Dt) (g : α → Str) (h : ∀ x, rowT (f x) = g x) : (l.map f).map rowT = l.map g := by
  rw [List.map_map]; exact List.map_congr_left fun x _ => h x
/-- both texts are one -/
theorem words_lines (t : Told) : (wordsT t).map rowT = lineOf t := by
  unfold wordsT lineOf
  simp only [List.map_append]
  rw [map2 t.shapes shapeW shapeT row_shape, map2 t.marks markW markT row_mark, map2 t.points pointW pointT row_point, map2 t.letters letterW letterT (fun p => row_tx _), map2 t.gaps gapW gapT row_gap, map2 t.classes classW classT (fun p => row_tx _), map2 t.features featW featT row_feat, map2 t.rules ruleW ruleT (fun p => row_tx _)]
theorem small_cell {z : Int} (h : small z) : Cell (.int z) := small_10 h
theorem tx_cell {l : List Str} (h : ∀ x ∈ l, x.length ≤ 100) : ∀ d ∈ tx l, Cell d := fun d hd => by
  obtain ⟨x, hx, rfl⟩ := List.mem_map.mp hd
  exact h x hx
theorem words_ok {t : Told} (L : TLen t) : ∀ ws ∈ wordsT t, ws.length ≤ 100 ∧ ∀ d ∈ ws, Cell d := fun ws hw => by
  unfold wordsT at hw
  simp only [List.mem_append, List.mem_map] at hw
  have s : ∀ {x : Str} {n : Nat}, x.length ≤ n → n ≤ 100 → Cell (.str x) := fun h h' => Nat.le_trans h h'
  have c : ∀ {x : Str}, x.length ≤ 12 → Cell (.str x) := fun h => s h (by decide)
  have k : ∀ x ∈ (["shape", "mark", "point", "gap", "feature", "on", "off"] : List Str), Cell (.str x) := by
    have : ∀ x ∈ (["shape", "mark", "point", "gap", "feature", "on", "off"] : List Str), x.length ≤ 12 := by decide +kernel
    exact fun x hx => c (this x hx)
  rcases hw with ((((((⟨p, hp, rfl⟩ | ⟨p, hp, rfl⟩) | ⟨p, hp, rfl⟩) | ⟨p, hp, rfl⟩) | ⟨p, hp, rfl⟩) | ⟨p, hp, rfl⟩) | ⟨p, hp, rfl⟩) | ⟨p, hp, rfl⟩
  · refine ⟨Nat.le_of_ble_eq_true rfl, fun d hd => ?_⟩
    simp only [shapeW, List.mem_cons, List.not_mem_nil, or_false] at hd
    rcases hd with rfl | rfl | rfl
    · exact k _ (by simp)
    · exact c (L.s p hp).1
    · exact small_cell (L.s p hp).2
  · refine ⟨Nat.le_of_ble_eq_true rfl, fun d hd => ?_⟩
    obtain ⟨h1, h2, h3, h4⟩ := L.m p hp
    simp only [markW, List.mem_append, List.mem_cons, List.not_mem_nil, or_false] at hd
    rcases hd with ((rfl | rfl | rfl) | rfl | rfl) | rfl | rfl
    · exact k _ (by simp)
    · exact c h1
    · exact s h2 (by decide)
    · exact small_cell h3.1
    · exact small_cell h3.2
    · exact small_cell h4.1
    · exact small_cell h4.2
  · refine ⟨Nat.le_of_ble_eq_true rfl, fun d hd => ?_⟩
    obtain ⟨h1, h2, h3⟩ := L.p p hp
    simp only [pointW, tx, List.map_cons, List.map_nil, List.mem_append, List.mem_cons, List.not_mem_nil, or_false] at hd
    rcases hd with (rfl | rfl | rfl) | rfl | rfl
    · exact k _ (by simp)
    · exact c h1
    · exact s h2 (by decide)
    · exact small_cell h3.1
    · exact small_cell h3.2
  · have h4 := (L.l p hp).2.2.2.1
    exact ⟨by unfold letterW; rw [List.length_map, List.length_append]; simp only [List.length_cons, List.length_nil]; omega, tx_cell fun y hy => Nat.le_trans (letter_len L p hp y hy) (by decide)⟩
  · refine ⟨Nat.le_of_ble_eq_true rfl, fun d hd => ?_⟩
    simp only [gapW, List.mem_cons, List.not_mem_nil, or_false] at hd
    rcases hd with rfl | rfl
    · exact k _ (by simp)
    · exact c (L.g p hp)
  · have h4 := (L.c p hp).2.1
    exact ⟨by unfold classW; rw [List.length_map, List.length_append]; simp only [List.length_cons, List.length_nil]; omega, tx_cell fun y hy => Nat.le_trans (class_len L p hp y hy) (by decide)⟩
  · refine ⟨Nat.le_of_ble_eq_true rfl, fun d hd => ?_⟩
    simp only [featW, List.mem_cons, List.not_mem_nil, or_false] at hd
    rcases hd with rfl | rfl | rfl
    · exact k _ (by simp)
    · exact c (L.f p hp)
    · cases p.2 <;> exact k _ (by simp [onT])
  · have h := L.r p hp
    exact ⟨by unfold ruleW; rw [List.length_map]; have := ruleW_cnt h.1; omega, tx_cell h.2⟩
theorem words_cnt (t : Told) : (wordsT t).length = t.size := by
  unfold wordsT Told.size
  simp only [List.length_append, List.length_map]
theorem ev_cat {C : Hp → Hp → Prop} {ds : List (Option Dt)} {ta tb : TE} {xs ys : List Dt} (ok : Cok C) (h1 : EvD ta C ds (.lst xs)) (h2 : EvD tb C ds (.lst ys)) (hl : xs.length + ys.length ≤ 1000 := by exact Nat.le_of_ble_eq_true rfl) : EvD (tOp rCat ta tb) C ds (.lst (xs ++ ys)) :=
  ev_op ok h1 h2 (EvN_ev2 ok (rn_cat ok (by show _ ≤ 16000000; omega)))
theorem ev_fldH {C : Hp → Hp → Prop} {ds : List (Option Dt)} {K : PySem.W.Frag} {ta : TE} {cl q : Addr} {a : HA} {f : Str} (ok : Cok C) (hins : ∀ G H, C G H → G a.x = some (.ins cl a.dx a.fs)) (hk : Cls K cl) (hn : NoAttr K cl f) (hl : a.fs.lookup f = some (.ref q)) (ho : EvD ta C ds (.obj a.x)) : EvD (tFld K ta f) C ds (.obj q) :=
  ev_fld ok ho fun G H k => ⟨cl, a.dx, a.fs, .ref q, ok.sub k _ _ (hins G H k), hk, hn, hl, .obj _⟩
end Kx

namespace Kx
open PySem L2
section
variable {P : Program} {w : World} {K : PySem.W.Frag} {mg : Str → Option Value} {base : Heap} {cl : Addr}
local macro_rules | `(tactic| walk_at "ev") => `(tactic| with_reducible first
  | (show EvD _ _ _ _; first
    | exact ev_var (by assumption) rfl
    | exact ev_int (by assumption)
    | exact ev_str (by assumption)
    | exact ev_non (by assumption)
    | exact ev_bl (by assumption)
    | (refine' ev_call (by assumption) ?_ ?_ ?_ <;> (try walk_at "ev"))
    | (refine' ev_op (by assumption) ?_ ?_ ?_ <;> (try walk_at "ev"))
    | (refine' ev_un (by assumption) ?_ rfl <;> (try walk_at "ev"))
    | (refine' ev_andV (by assumption) ?_ (fun _ => ?_) <;> (try walk_at "ev"))
    | (refine' ev_orV (by assumption) ?_ (fun _ => ?_) <;> (try walk_at "ev"))
    | (refine' ev_notV (by assumption) ?_ <;> (try walk_at "ev"))
    | (refine' ev_chain (by assumption) ?_ ?_ ?_ ?_ ?_ <;> (try walk_at "ev"))
    | (refine' ev_cb (by assumption) ?_ ?_ <;> (try walk_at "ev"))
    | (refine' ev_bm (by assumption) ?_ ?_ ?_ <;> (try walk_at "ev"))
    | (refine' ev_m1 (by assumption) ?_ ?_ ?_ <;> (try walk_at "ev"))
    | (refine' ev_sliceS (by assumption) ?_ ?_ ?_ <;> (try walk_at "ev"))
    | (refine' ev_slice (by assumption) ?_ ?_ ?_ <;> (try walk_at "ev"))
    | (refine' ev_tup (by assumption) ?_ ?_ <;> (try walk_at "ev"))
    | (refine' ev_lst (by assumption) ?_ ?_ <;> (try walk_at "ev"))
    | exact ev_h_shapes (by assumption) (by assumption) (by assumption) (ev_var (by assumption) rfl)
    | exact ev_h_marks (by assumption) (by assumption) (by assumption) (ev_var (by assumption) rfl)
    | exact ev_h_points (by assumption) (by assumption) (by assumption) (ev_var (by assumption) rfl)
    | exact ev_h_letters (by assumption) (by assumption) (by assumption) (ev_var (by assumption) rfl)
    | exact ev_h_gaps (by assumption) (by assumption) (by assumption) (ev_var (by assumption) rfl)
    | exact ev_h_classes (by assumption) (by assumption) (by assumption) (ev_var (by assumption) rfl)
    | exact ev_h_features (by assumption) (by assumption) (by assumption) (ev_var (by assumption) rfl)
    | exact ev_h_rules (by assumption) (by assumption) (by assumption) (ev_var (by assumption) rfl)
    | (refine' ev_dinK (by assumption) ?_ ?_ ?_ <;> (try walk_at "ev"))
    | (refine' ev_dniK (by assumption) ?_ ?_ ?_ <;> (try walk_at "ev"))
    | (refine' ev_dinT (by assumption) ?_ ?_ ?_ <;> (try walk_at "ev")))
  | (show EvA _ _ _ _; first
    | exact ea_nil (by assumption)
    | (refine' ea_cons (by assumption) ?_ ?_ <;> (try walk_at "ev")))
  | (show RV _ _ _ _ _; first
    | exact rv_int (by assumption)
    | exact rv_cmp (by assumption)
    | exact rv_eq (by assumption) rfl
    | exact rv_ne (by assumption) rfl
    | exact rv_isN (by assumption) rfl
    | exact rv_notN (by assumption) rfl
    | exact rv_inT (by assumption) (.inl rfl)
    | exact rv_inT (by assumption) (.inr rfl)
    | exact rv_niT (by assumption) (.inl rfl)
    | exact rv_niT (by assumption) (.inr rfl)
    | exact rv_inS (by assumption)
    | exact rv_niS (by assumption)
    | exact rv_ixS (by assumption) (by assumption)
    | exact rv_ixL (by assumption) (by assumption)
    | exact rv_ixT (by assumption) (by assumption)
    | exact rv_ixT (by assumption) rfl
    | exact rv_ixL (by assumption) rfl
    | (refine' rv_inM (by assumption) ?_ <;> (try walk_at "ev"))
    | (refine' rv_niM (by assumption) ?_ <;> (try walk_at "ev"))
    | (refine' rv_inX (by assumption) ?_ (.inl rfl) <;> (try walk_at "ev"))
    | (refine' rv_inX (by assumption) ?_ (.inr rfl) <;> (try walk_at "ev"))
    | (refine' rv_niX (by assumption) ?_ (.inl rfl) <;> (try walk_at "ev"))
    | (refine' rv_niX (by assumption) ?_ (.inr rfl) <;> (try walk_at "ev"))
    | exact rv_in (neg := false) (by assumption) rfl rfl (.inr rfl)
    | exact rv_in (neg := true) (by assumption) rfl rfl (.inr rfl)
    | exact rv_intC (g := fun i j => i % j) (by assumption) (by decide)
    | exact rv_intC (g := fun i j => i / j) (by assumption) (cdiv_ok (by decide)))
  | (show EvT _ _ _ _; first
    | exact et_yes (by assumption)
    | (refine' et_and (by assumption) ?_ (fun _ => ?_) <;> (try walk_at "ev"))
    | (refine' et_or (by assumption) ?_ (fun _ => ?_) <;> (try walk_at "ev"))
    | (refine' et_not ?_ <;> (try walk_at "ev"))
    | (refine' et_test ?_ <;> (try walk_at "ev"))
    | (refine' et_B ?_ <;> (try walk_at "ev")))
  | (show RC _ _ _ _; first
    | exact rc_lenL (by assumption)
    | exact rc_lenT (by assumption)
    | exact rc_lenS (by assumption)
    | exact rc_all (by assumption)
    | exact rc_intB (by assumption)
    | exact rc_strS (by assumption)
    | exact rc_listOf (by assumption) (.inl rfl)
    | exact rc_listOf (by assumption) (.inr rfl)
    | exact rc_tupOf (by assumption)
    | (refine' rc_lenD (by assumption) ?_ <;> (try walk_at "ev"))
    | (refine' rc_lenM (by assumption) ?_ <;> (try walk_at "ev")))
  | (show RM _ _ _ _ _; first
    | exact rm_strip' (by assumption))
  | (show EvO _ _ _ _; first
    | exact eo_none (by assumption)
    | (refine' eo_some ?_ <;> (try walk_at "ev")))
  | (show List.length _ ≤ Lim; with_unfolding_all exact Nat.le_of_ble_eq_true rfl)
  | (show List.length _ = _; with_unfolding_all rfl)
  | exact (fun _ _ _ => ⟨_, rfl, rfl⟩)
  | exact (fun _ _ _ => ⟨_, _, rfl, rfl⟩)
  | exact (fun _ _ _ => ⟨_, _, _, rfl, rfl⟩)
  | exact (fun _ _ _ => ⟨_, rfl, by assumption, rfl⟩)
  | exact hall_s (by assumption)
  | exact hall_m (by assumption)
  | exact hall_p (by assumption)
  | exact hall_l (by assumption)
  | exact hall_g (by assumption)
  | exact hall_c (by assumption)
  | exact hall_f (by assumption)
  | exact hall_r (by assumption)
  | exact TxL.of _
  | exact TxL.nil
  | (refine' TxL.cons ?_ <;> (try walk_at "ev")))


abbrev s_hall_text : Stmt := top 38
abbrev N_hall_text : List Str := ["hall", "rows", "name", "mark", "key", "spot", "letter", "on", "width", "shapes", "rule", "words"]
abbrev P_hall_text : List Str := ["hall"]
theorem sc_hall_text : FnScope N_hall_text P_hall_text (defScope s_hall_text) := ⟨rfl, rfl, rfl, by decide +kernel, rfl, by decide +kernel, by decide +kernel⟩

abbrev spHallText (cl : Addr) : Sp := SpF 1 fun G H as r => ∃ a t, as = [.obj a.x] ∧ HallAt cl a t G H ∧ Fit t ∧ t.size ≤ 900 ∧ r = .str (Txt.join (Str.ofString "\n") (lineOf t))
theorem cal_hall_text (B : Blt mg) (HK : HallK K cl) (D : Dfn K mg "hall_text" s_hall_text) (C_row_of : Cal P w K mg base "row_of" 1 P_row_of spRowOf) (C_rule_words : Cal P w K mg base "rule_words" 1 P_rule_words spRuleWords) :
    Cal P w K mg base "hall_text" 2 P_hall_text (spHallText cl) := by
  have sc := sc_hall_text
  refine cal_of D (fun f fd F => fnok F sc fun cdv A outer s H E hr => have hr1 := hr; ⟨_, (pss_cons (ps_lock (ps_setLc (i := 1) (own := [("name", 2), ("width", 8)]) (by rfl) sc.nd rfl rfl (sw_true rfl rfl rfl (by decide +kernel)) (pi_items (pe_fldK (K := K) rfl (pv 0) rfl)) (blkOk_by (N := N_hall_text) (sc := defScope s_hall_text) (by decide +kernel)) (fun _ _ _ _ _ => (pg_tupK (K := K) (n := 2) rfl rfl (pgs_cons (pg_name (i := 2) sc.nd rfl (Or.inl rfl)) (pgs_cons (pg_name (i := 8) sc.nd rfl (Or.inl rfl)) pgs_nil)))) (fun _ _ _ _ _ => pts_nil) (fun _ _ _ _ _ => (pe_lst (pa_cons pe_str (pa_cons (pv 2) (pa_cons (pv 8) pa_nil)))))))
      (pss_cons (ps_lock (ps_for PassesOwn.never rfl (pi_items (pe_fldK (K := K) rfl (pv 0) rfl)) (pg_tupK (K := K) (n := 2) rfl rfl (pgs_cons (pg_name (i := 2) sc.nd rfl (Or.inl rfl)) (pgs_cons (pg_name (i := 3) sc.nd rfl (Or.inl rfl)) pgs_nil))) (pss_one (ps_expr (pe_bm PySem.F.plainAttrs_list PySem.F.slot_list_append PySem.F.type_list_append mt_append (pv 1) (pa_cons (pe_op op_cat (pe_op op_cat (pe_lst (pa_cons pe_str (pa_cons (pv 2) (pa_cons (pe_ix (r := rIxT K) ix_tup (pv 3) pe_int (fun _ _ => rfl)) pa_nil)))) (pe_callTy (r := rListOf K) call_listOf (by rfl) B.list_ (by decide +kernel) (pa_cons (pe_ix (r := rIxT K) ix_tup (pv 3) pe_int (fun _ _ => rfl)) pa_nil))) (pe_callTy (r := rListOf K) call_listOf (by rfl) B.list_ (by decide +kernel) (pa_cons (pe_ix (r := rIxT K) ix_tup (pv 3) pe_int (fun _ _ => rfl)) pa_nil))) pa_nil))))))
      (pss_cons (ps_lock (ps_for PassesOwn.never rfl (pi_itemsT (pe_fldK (K := K) rfl (pv 0) rfl)) (pg_tupK (K := K) (n := 2) rfl rfl (pgs_cons (pg_name (i := 4) sc.nd rfl (Or.inl rfl)) (pgs_cons (pg_name (i := 5) sc.nd rfl (Or.inl rfl)) pgs_nil))) (pss_one (ps_expr (pe_bm PySem.F.plainAttrs_list PySem.F.slot_list_append PySem.F.type_list_append mt_append (pv 1) (pa_cons (pe_op op_cat (pe_op op_cat (pe_lst (pa_cons pe_str pa_nil)) (pe_callTy (r := rListOf K) call_listOf (by rfl) B.list_ (by decide +kernel) (pa_cons (pv 4) pa_nil))) (pe_callTy (r := rListOf K) call_listOf (by rfl) B.list_ (by decide +kernel) (pa_cons (pv 5) pa_nil))) pa_nil))))))
      (pss_cons (ps_lock (ps_for PassesOwn.never rfl (pi_items (pe_fldK (K := K) rfl (pv 0) rfl)) (pg_tupK (K := K) (n := 2) rfl rfl (pgs_cons (pg_name (i := 2) sc.nd rfl (Or.inl rfl)) (pgs_cons (pg_name (i := 6) sc.nd rfl (Or.inl rfl)) pgs_nil))) (pss_one (ps_expr (pe_bm PySem.F.plainAttrs_list PySem.F.slot_list_append PySem.F.type_list_append mt_append (pv 1) (pa_cons (pe_op op_cat (pe_lst (pa_cons pe_str (pa_cons (pv 2) (pa_cons (pe_ix (r := rIxT K) ix_tup (pv 6) pe_int (fun _ _ => rfl)) (pa_cons (pe_ix (r := rIxT K) ix_tup (pv 6) pe_int (fun _ _ => rfl)) pa_nil))))) (pe_callTy (r := rListOf K) call_listOf (by rfl) B.list_ (by decide +kernel) (pa_cons (pe_ix (r := rIxT K) ix_tup (pv 6) pe_int (fun _ _ => rfl)) pa_nil))) pa_nil))))))
      (pss_cons (ps_aug (i := 1) sc.nd rfl (Or.inl rfl) (pe_lc (own := [("name", 2)]) (by rfl) sc.nd (pi_list (pe_fldK (K := K) rfl (pv 0) rfl)) (blkOk_by (N := N_hall_text) (sc := defScope s_hall_text) (by decide +kernel)) (fun _ _ _ _ _ => (pg_name (i := 2) sc.nd rfl (Or.inl rfl))) (fun _ _ _ _ _ => pts_nil) (fun _ _ _ _ _ => (pe_lst (pa_cons pe_str (pa_cons (pv 2) pa_nil))))) ip_ext)
      (pss_cons (ps_lock (ps_aug (i := 1) sc.nd rfl (Or.inl rfl) (pe_lc (own := [("name", 2), ("shapes", 9)]) (by rfl) sc.nd (pi_items (pe_fldK (K := K) rfl (pv 0) rfl)) (blkOk_by (N := N_hall_text) (sc := defScope s_hall_text) (by decide +kernel)) (fun _ _ _ _ _ => (pg_tupK (K := K) (n := 2) rfl rfl (pgs_cons (pg_name (i := 2) sc.nd rfl (Or.inl rfl)) (pgs_cons (pg_name (i := 9) sc.nd rfl (Or.inl rfl)) pgs_nil)))) (fun _ _ _ _ _ => pts_nil) (fun _ _ _ _ _ => (pe_op op_cat (pe_lst (pa_cons pe_str (pa_cons (pv 2) pa_nil))) (pe_callTy (r := rListOf K) call_listOf (by rfl) B.list_ (by decide +kernel) (pa_cons (pv 9) pa_nil))))) ip_ext))
      (pss_cons (ps_lock (ps_for PassesOwn.never rfl (pi_items (pe_fldK (K := K) rfl (pv 0) rfl)) (pg_tupK (K := K) (n := 2) rfl rfl (pgs_cons (pg_name (i := 2) sc.nd rfl (Or.inl rfl)) (pgs_cons (pg_name (i := 7) sc.nd rfl (Or.inl rfl)) pgs_nil))) (pss_one (ps_expr (pe_bm PySem.F.plainAttrs_list PySem.F.slot_list_append PySem.F.type_list_append mt_append (pv 1) (pa_cons (pe_lst (pa_cons pe_str (pa_cons (pv 2) (pa_cons (pe_ifExp (pt_val (pv 7)) pe_str pe_str) pa_nil)))) pa_nil))))))
      (pss_cons (ps_aug (i := 1) sc.nd rfl (Or.inl rfl) (pe_lc (own := [("rule", 10)]) (by rfl) sc.nd (pi_list (pe_fldK (K := K) rfl (pv 0) rfl)) (blkOk_by (N := N_hall_text) (sc := defScope s_hall_text) (by decide +kernel)) (fun _ _ _ _ _ => (pg_name (i := 10) sc.nd rfl (Or.inl rfl))) (fun _ _ _ _ _ => pts_nil) (fun _ _ _ _ _ => (pe_callC C_rule_words hr1 rfl (pa_cons (pv 10) pa_nil)))) ip_ext)
      (pss_one (ps_ret (pe_m1 (r := rJoin K) PySem.F.slot_str_join PySem.F.type_str_join mt_join pe_str (pe_lc (own := [("words", 11)]) (by rfl) sc.nd (pi_list (pv 1)) (blkOk_by (N := N_hall_text) (sc := defScope s_hall_text) (by decide +kernel)) (fun _ _ _ _ _ => (pg_name (i := 11) sc.nd rfl (Or.inl rfl))) (fun _ _ _ _ _ => pts_nil) (fun _ _ _ _ _ => (pe_callC C_row_of hr1 rfl (pa_cons (pv 11) pa_nil))))))))))))))), fun G as r D hl sm hp hq hx => ?_⟩) (fun _ _ _ _ _ _ us hl => match us, hl with | [_], _ => rfl)
  obtain ⟨a, t, rfl, ha, F, hz, rfl⟩ := hp
  have L := TLen.of F
  have sz := size_names t
  have ok : Cok (Bs No G H) := Bs.ok
  have hins : ∀ {G1 H1}, Bs No G H G1 H1 → G1 a.x = some (.ins cl a.dx a.fs) := fun k => k.gg _ _ ha.ins
  have nl : ∀ {x : Str} {n : Nat}, x.length ≤ n → n ≤ 100 → x.length ≤ Lim := fun h h' => Nat.le_trans h (Nat.le_trans h' (by decide))
  -- the containers
  have fs : ∀ {G1 H1}, Bs No G H G1 H1 → DK a.ds t.shapesK G1 H1 := fun k => ha.s.stp k fun z => z
  have fm : ∀ {G1 H1}, Bs No G H G1 H1 → DK a.dm t.marksK G1 H1 := fun k => ha.m.stp k fun z => z
  have fp : ∀ {G1 H1}, Bs No G H G1 H1 → DT a.dp t.pointsK G1 H1 := fun k => ha.p.stp k fun z => z
  have fl : ∀ {G1 H1}, Bs No G H G1 H1 → DK a.dl t.lettersK G1 H1 := fun k => ha.l.stp k fun z => z
  have fg : ∀ {G1 H1}, Bs No G H G1 H1 → Mu a.dg (tx t.gaps) G1 H1 := fun k => ha.g.stp' k fun z => z
  have fc : ∀ {G1 H1}, Bs No G H G1 H1 → DK a.dc t.classesK G1 H1 := fun k => ha.c.stp k fun z => z
  have ff : ∀ {G1 H1}, Bs No G H G1 H1 → DK a.df t.featuresK G1 H1 := fun k => ha.f.stp k fun z => z
  have fr : ∀ {G1 H1}, Bs No G H G1 H1 → Mu a.dr t.rulesD G1 H1 := fun k => ha.r.stp' k fun z => z
  have mutK : ∀ {d xs G1 H1}, DK d xs G1 H1 → G1 d = none ∧ ∃ u, H1 d = some u ∧ Mut (some u) := fun h => ⟨h.1, _, h.2.choose_spec.1, trivial⟩
  have mutT : ∀ {d xs G1 H1}, DT d xs G1 H1 → G1 d = none ∧ ∃ u, H1 d = some u ∧ Mut (some u) := fun h => ⟨h.1, _, h.2.choose_spec.1, trivial⟩
  have neK : ∀ {d p xs}, DK d xs G H → H p = none → p ≠ d := fun h hp z => by
    obtain ⟨_, kvs, e, _⟩ := h
    rw [← z, hp] at e; cases e
  have neT : ∀ {d p xs}, DT d xs G H → H p = none → p ≠ d := fun h hp z => by
    obtain ⟨_, kvs, e, _⟩ := h
    rw [← z, hp] at e; cases e
  have okB : ∀ {d od u}, Cok (LkU d od u (Bs No G H)) := LkU.ok ok
  have okL : ∀ {d od u p R}, Cok (LkU d od u (CT G H p R)) := LkU.ok CT.ok
  have okp : ∀ {p R}, Cok (CT G H p R) := CT.ok
  -- shapes
  refine run_lock (ι := {p : Addr // H p = none}) (C' := fun p => CT G H p.1 (t.shapes.map fun q => .lst (shapeW q))) (ds' := fun p => [some (.obj a.x), some (.obj p.1), none, none, none, none, none, none, none, none, none, none]) (fun G1 H1 k => mutK (fs k)) (fun od u D' hD' => ?_) ?_
  · refine run_asgN (Z := fun p => H p = none) (xs := t.shapes.map fun q => .lst (shapeW q)) okB (en_map t.shapes (fun p => Dt.tup [.str p.1, .int p.2]) (fun p => [(2, .str p.1), (8, .int p.2)]) (fun p => .lst (shapeW p)) okB (ei_itemsKm (S := No) t.shapes (fun p => p.1) (fun p => .int p.2) rfl ok (ev_fldH (K := K) (q := a.ds) okB (fun _ _ k => hins k.2.2) HK.c HK.shapes (by rfl) (ev_var okB rfl)) (fun _ _ k => fs k) (fun p hp => nl (L.s p hp).1 (by decide)) (fun z => z))
      (fun _ _ => tg_tup (tgs_cons tg_name (tgs_cons tg_name tgs_nil)) rfl) (fun _ _ i hi => by simpa using hi) (fun p hp => by exact ev_lstA okB (ea_cons okB (ev_str okB) (ea_cons okB (ev_var okB rfl) (ea_cons okB (ev_var okB rfl) (ea_nil okB))))) (by show _ ≤ 16000000; omega)) (fun G1 H1 p k hp => ?_) (fun p hp => ?_)
    · refine k.2.2.th p ?_
      rw [upd_ne (fun z => by rw [z, k.1] at hp; cases hp)]; exact hp
    · intro G1 σ1 H1 k1 s1
      obtain ⟨⟨b1, b2, b3⟩, m1, vs, m2, m3⟩ := k1
      exact hD' ⟨p, hp⟩ G1 σ1 H1 ⟨b1, b2, b3, m1, vs, by show upd H1 a.ds u p = _; rw [upd_ne (show p ≠ a.ds from fun z => by rw [z, b1] at m2; cases m2)]; exact m2, m3⟩ s1
  rintro ⟨p, hp⟩
  dsimp only
  have npm := neK ha.m hp
  have npp := neT ha.p hp
  have npl := neK ha.l hp
  have npc := neK ha.c hp
  have npf := neK ha.f hp
  generalize e1 : (t.shapes.map fun q => Dt.lst (shapeW q)) = R1
  have n1 : R1.length = t.shapes.length := by rw [← e1, List.length_map]
  have app : ∀ {d od u R' C' ds te e D'}, p ≠ d → R'.length < Lim → Cok C' → (∀ G1 H1, C' G1 H1 → LkU d od u (CT G H p R') G1 H1) → ds[1]? = some (some (.obj p)) → EvD te C' ds e →
      (∀ G1 σ1 H1 H2, C' G1 H1 → Slots G1 σ1 ds → Mu p (R' ++ [e]) G1 H2 → Stp (fun b => b = p) G1 H1 G1 H2 → D'.nx σ1 H2) → Run (tDrop (tBM K "list" rAppend (tVar 1) (tCons te tNil))) C' ds D' := fun n hR ok' hc h he q =>
    run_append ok' (ev_var ok' h) he (fun G1 H1 k => LkU.mu (hc G1 H1 k).2.2.2 n) hR (fun G1 σ1 H1 k s1 H2 mu st => q G1 σ1 H1 H2 k s1 mu st)
  -- marks
  refine run_lock (ι := Unit) (C' := fun _ => CT G H p (R1 ++ t.marks.map fun q => .lst (markW q))) (ds' := fun _ => [some (.obj a.x), some (.obj p), none, none, none, none, none, none, none, none, none, none]) (fun G1 H1 k => mutK (fm k.1)) (fun od u D' hD' => ?_) (fun _ => ?_)
  · refine run_rowsFor (CC := fun R => LkU a.dm od u (CT G H p R)) (p := p) t.marks (fun p => Dt.tup [.str p.1, .tup [.str p.2.1, ptD p.2.2.1, ptD p.2.2.2]]) (fun p => [(2, .str p.1), (3, .tup [.str p.2.1, ptD p.2.2.1, ptD p.2.2.2])]) (fun q => .lst (markW q)) R1 [some (.obj a.x), some (.obj p), none, none, none, none, none, none, none, none, none, none]
      (fun _ => okL) (LkU.put npm (CT.put hp)) (ei_itemsKm (S := fun b => b = p) t.marks (fun p => p.1) (fun p => .tup [.str p.2.1, ptD p.2.2.1, ptD p.2.2.2]) rfl okp (ev_fldH (K := K) (q := a.dm) okL (fun _ _ k => hins k.2.2.1) HK.c HK.marks (by rfl) (ev_var okL rfl)) (fun _ _ k => fm k.1) (fun p hp => nl (L.m p hp).1 (by decide)) (fun z => npm z.symm)) (fun _ _ => tg_tup (tgs_cons tg_name (tgs_cons tg_name tgs_nil)) rfl) (Less.refl _) (by omega) ?_ (fun G1 σ1 H1 k s1 => hD' () G1 σ1 H1 k s1)
    intro y hy R' C' hR ok' hc D2 hD2
    refine app npm hR ok' hc rfl ?_ (fun G1 σ1 H1 H2 k s1 mu st => hD2 G1 σ1 H1 H2 k (s1.less (.keep (.keep (.gone (.gone (.keep (.keep (.keep (.keep (.keep (.keep (.keep (.keep .nil)))))))))))))  mu st)
    exact ev_cat ok' (ev_cat ok' (ev_lstA ok' (ea_cons ok' (ev_str ok') (ea_cons ok' (ev_var ok' rfl) (ea_cons ok' (ev_op ok' (ev_var ok' rfl) (ev_int ok') (rv_ixT ok' (at_nat (k := 0) rfl))) (ea_nil ok'))))) (ev_cb ok' (ea_cons ok' (ev_op ok' (ev_var ok' rfl) (ev_int ok') (rv_ixT ok' (at_nat (k := 1) rfl))) (ea_nil ok')) (rc_listOf ok' (.inr rfl)))) (ev_cb ok' (ea_cons ok' (ev_op ok' (ev_var ok' rfl) (ev_int ok') (rv_ixT ok' (at_nat (k := 2) rfl))) (ea_nil ok')) (rc_listOf ok' (.inr rfl)))
  generalize e2 : (R1 ++ t.marks.map fun q => Dt.lst (markW q)) = R2
  have n2 : R2.length = R1.length + t.marks.length := by rw [← e2, List.length_append, List.length_map]
  -- points
  refine run_lock (ι := Unit) (C' := fun _ => CT G H p (R2 ++ t.points.map fun q => .lst (pointW q))) (ds' := fun _ => [some (.obj a.x), some (.obj p), none, none, none, none, none, none, none, none, none, none]) (fun G1 H1 k => mutT (fp k.1)) (fun od u D' hD' => ?_) (fun _ => ?_)
  · refine run_rowsFor (CC := fun R => LkU a.dp od u (CT G H p R)) (p := p) t.points (fun p => Dt.tup [.tup (tx [p.1, p.2.1]), ptD p.2.2]) (fun p => [(4, .tup (tx [p.1, p.2.1])), (5, ptD p.2.2)]) (fun q => .lst (pointW q)) R2 [some (.obj a.x), some (.obj p), none, none, none, none, none, none, none, none, none, none]
      (fun _ => okL) (LkU.put npp (CT.put hp)) (ei_itemsTm (S := fun b => b = p) t.points (fun p => [p.1, p.2.1]) (fun p => ptD p.2.2) rfl okp (ev_fldH (K := K) (q := a.dp) okL (fun _ _ k => hins k.2.2.1) HK.c HK.points (by rfl) (ev_var okL rfl)) (fun _ _ k => fp k.1) (fun p hp x hx => by
          simp only [List.mem_cons, List.not_mem_nil, or_false] at hx
          rcases hx with rfl | rfl
          · exact nl (L.p p hp).1 (by decide)
          · exact nl (L.p p hp).2.1 (by decide)) (fun z => npp z.symm)) (fun _ _ => tg_tup (tgs_cons tg_name (tgs_cons tg_name tgs_nil)) rfl) (Less.refl _) (by omega) ?_ (fun G1 σ1 H1 k s1 => hD' () G1 σ1 H1 k s1)
    intro y hy R' C' hR ok' hc D2 hD2
    refine app npp hR ok' hc rfl ?_ (fun G1 σ1 H1 H2 k s1 mu st => hD2 G1 σ1 H1 H2 k (s1.less (.keep (.keep (.keep (.keep (.gone (.gone (.keep (.keep (.keep (.keep (.keep (.keep .nil)))))))))))))  mu st)
    exact ev_cat ok' (ev_cat ok' (ev_lstA ok' (ea_cons ok' (ev_str ok') (ea_nil ok'))) (ev_cb ok' (ea_cons ok' (ev_var ok' rfl) (ea_nil ok')) (rc_listOf ok' (.inr rfl)))) (ev_cb ok' (ea_cons ok' (ev_var ok' rfl) (ea_nil ok')) (rc_listOf ok' (.inr rfl)))
  generalize e3 : (R2 ++ t.points.map fun q => Dt.lst (pointW q)) = R3
  have n3 : R3.length = R2.length + t.points.length := by rw [← e3, List.length_append, List.length_map]
  -- letters
  refine run_lock (ι := Unit) (C' := fun _ => CT G H p (R3 ++ t.letters.map fun q => .lst (letterW q))) (ds' := fun _ => [some (.obj a.x), some (.obj p), none, none, none, none, none, none, none, none, none, none]) (fun G1 H1 k => mutK (fl k.1)) (fun od u D' hD' => ?_) (fun _ => ?_)
  · refine run_rowsFor (CC := fun R => LkU a.dl od u (CT G H p R)) (p := p) t.letters (fun p => Dt.tup [.str p.1, .tup [.str p.2.1, .str p.2.2.1, .tup (tx p.2.2.2)]]) (fun p => [(2, .str p.1), (6, .tup [.str p.2.1, .str p.2.2.1, .tup (tx p.2.2.2)])]) (fun q => .lst (letterW q)) R3 [some (.obj a.x), some (.obj p), none, none, none, none, none, none, none, none, none, none]
      (fun _ => okL) (LkU.put npl (CT.put hp)) (ei_itemsKm (S := fun b => b = p) t.letters (fun p => p.1) (fun p => .tup [.str p.2.1, .str p.2.2.1, .tup (tx p.2.2.2)]) rfl okp (ev_fldH (K := K) (q := a.dl) okL (fun _ _ k => hins k.2.2.1) HK.c HK.letters (by rfl) (ev_var okL rfl)) (fun _ _ k => fl k.1) (fun p hp => nl (L.l p hp).1 (by decide)) (fun z => npl z.symm)) (fun _ _ => tg_tup (tgs_cons tg_name (tgs_cons tg_name tgs_nil)) rfl) (Less.refl _) (by omega) ?_ (fun G1 σ1 H1 k s1 => hD' () G1 σ1 H1 k s1)
    intro y hy R' C' hR ok' hc D2 hD2
    have h4 := (L.l y hy).2.2.2.1
    refine app npl hR ok' hc rfl ?_ (fun G1 σ1 H1 H2 k s1 mu st => hD2 G1 σ1 H1 H2 k (s1.less (.keep (.keep (.gone (.keep (.keep (.keep (.gone (.keep (.keep (.keep (.keep (.keep .nil)))))))))))))  mu st)
    exact ev_catT (xs := ["letter", y.1, y.2.1, y.2.2.1]) ok' (ev_lstA ok' (ea_cons ok' (ev_str ok') (ea_cons ok' (ev_var ok' rfl) (ea_cons ok' (ev_op ok' (ev_var ok' rfl) (ev_int ok') (rv_ixT ok' (at_nat (k := 0) rfl))) (ea_cons ok' (ev_op ok' (ev_var ok' rfl) (ev_int ok') (rv_ixT ok' (at_nat (k := 1) rfl))) (ea_nil ok')))))) (ev_cb ok' (ea_cons ok' (ev_op ok' (ev_var ok' rfl) (ev_int ok') (rv_ixT ok' (at_nat (k := 2) rfl))) (ea_nil ok')) (rc_listOf ok' (.inr rfl))) (by simp only [List.length_cons, List.length_nil]; omega)
  generalize e4 : (R3 ++ t.letters.map fun q => Dt.lst (letterW q)) = R4
  have n4 : R4.length = R3.length + t.letters.length := by rw [← e4, List.length_append, List.length_map]
  -- gaps
  refine run_augS (C' := CT G H p (R4 ++ t.gaps.map fun q => .lst (gapW q))) (ys := t.gaps.map fun q => .lst (gapW q)) okp rfl (en_map t.gaps Dt.str (fun q => [(2, .str q)]) (fun q => .lst (gapW q)) okp (ei_mu okp (ev_fldH (K := K) (q := a.dg) okp (fun _ _ k => hins k.1) HK.c HK.gaps (by rfl) (ev_var okp rfl)) (fun _ _ k => fg k.1) (fun z => z)) (fun _ _ => tg_name) (fun _ _ i hi => by simpa using hi)
    (fun q hq => by exact ev_lstA okp (ea_cons okp (ev_str okp) (ea_cons okp (ev_var okp rfl) (ea_nil okp)))) (by show _ ≤ 16000000; omega)) (fun _ _ k => k.2) (by rw [List.length_map]; show _ ≤ 16000000; omega) (fun _ _ _ k mu st => CT.put hp _ _ _ _ _ k mu st) ?_
  generalize e5 : (R4 ++ t.gaps.map fun q => Dt.lst (gapW q)) = R5
  have n5 : R5.length = R4.length + t.gaps.length := by rw [← e5, List.length_append, List.length_map]
  -- classes
  refine run_lock (ι := Unit) (C' := fun _ => CT G H p (R5 ++ t.classes.map fun q => .lst (classW q))) (ds' := fun _ => [some (.obj a.x), some (.obj p), none, none, none, none, none, none, none, none, none, none]) (fun G1 H1 k => mutK (fc k.1)) (fun od u D' hD' => ?_) (fun _ => ?_)
  · refine run_aug (ys := t.classes.map fun q => .lst (classW q)) okL rfl (en_map t.classes (fun p => Dt.tup [.str p.1, .tup (tx p.2)]) (fun p => [(2, .str p.1), (9, .tup (tx p.2))]) (fun q => .lst (classW q)) okL (ei_itemsKm (S := No) t.classes (fun p => p.1) (fun p => .tup (tx p.2)) rfl okp (ev_fldH (K := K) (q := a.dc) okL (fun _ _ k => hins k.2.2.1) HK.c HK.classes (by rfl) (ev_var okL rfl)) (fun _ _ k => fc k.1) (fun p hp => nl (L.c p hp).1 (by decide)) (fun z => z)) (fun _ _ => tg_tup (tgs_cons tg_name (tgs_cons tg_name tgs_nil)) rfl) (fun _ _ i hi => by simpa using hi) (fun q hq => ?_) (by show _ ≤ 16000000; omega)) (fun _ _ k => LkU.mu k.2.2.2 npc) (by rw [List.length_map]; show _ ≤ 16000000; omega) (fun G1 σ1 H1 H2 k s1 mu st => hD' () G1 σ1 H2 (LkU.put npc (CT.put hp) _ _ _ _ _ k mu st) s1)
    have h4 := (L.c q hq).2.1
    exact ev_catT (xs := ["class", q.1]) okL (ev_lstA okL (ea_cons okL (ev_str okL) (ea_cons okL (ev_var okL rfl) (ea_nil okL)))) (ev_cb okL (ea_cons okL (ev_var okL rfl) (ea_nil okL)) (rc_listOf okL (.inr rfl))) (by simp only [List.length_cons, List.length_nil]; omega)
  generalize e6 : (R5 ++ t.classes.map fun q => Dt.lst (classW q)) = R6
  have n6 : R6.length = R5.length + t.classes.length := by rw [← e6, List.length_append, List.length_map]
  -- features
  refine run_lock (ι := Unit) (C' := fun _ => CT G H p (R6 ++ t.features.map fun q => .lst (featW q))) (ds' := fun _ => [some (.obj a.x), some (.obj p), none, none, none, none, none, none, none, none, none, none]) (fun G1 H1 k => mutK (ff k.1)) (fun od u D' hD' => ?_) (fun _ => ?_)
  · refine run_rowsFor (CC := fun R => LkU a.df od u (CT G H p R)) (p := p) t.features (fun p => Dt.tup [.str p.1, .bl p.2]) (fun p => [(2, .str p.1), (7, .bl p.2)]) (fun q => .lst (featW q)) R6 [some (.obj a.x), some (.obj p), none, none, none, none, none, none, none, none, none, none]
      (fun _ => okL) (LkU.put npf (CT.put hp)) (ei_itemsKm (S := fun b => b = p) t.features (fun p => p.1) (fun p => .bl p.2) rfl okp (ev_fldH (K := K) (q := a.df) okL (fun _ _ k => hins k.2.2.1) HK.c HK.features (by rfl) (ev_var okL rfl)) (fun _ _ k => ff k.1) (fun p hp => nl (L.f p hp) (by decide)) (fun z => npf z.symm)) (fun _ _ => tg_tup (tgs_cons tg_name (tgs_cons tg_name tgs_nil)) rfl) (Less.refl _) (by omega) ?_ (fun G1 σ1 H1 k s1 => hD' () G1 σ1 H1 k s1)
    intro y hy R' C' hR ok' hc D2 hD2
    refine app npf hR ok' hc rfl ?_ (fun G1 σ1 H1 H2 k s1 mu st => hD2 G1 σ1 H1 H2 k (s1.less (.keep (.keep (.gone (.keep (.keep (.keep (.keep (.gone (.keep (.keep (.keep (.keep .nil)))))))))))))  mu st)
    exact ev_lstA ok' (ea_cons ok' (ev_str ok') (ea_cons ok' (ev_var ok' rfl) (ea_cons ok' (ev_if (p := y.2) ok' (et_B (ev_var ok' rfl)) (fun e => EvD.is (ev_str ok') (by rw [e]; rfl)) (fun e => EvD.is (ev_str ok') (by rw [e]; rfl))) (ea_nil ok'))))
  generalize e7 : (R6 ++ t.features.map fun q => Dt.lst (featW q)) = R7
  have n7 : R7.length = R6.length + t.features.length := by rw [← e7, List.length_append, List.length_map]
  -- rules
  refine run_augS (C' := CT G H p (R7 ++ t.rules.map fun q => .lst (ruleW q))) (ys := t.rules.map fun q => .lst (ruleW q)) okp rfl (en_map t.rules ruleD (fun q => [(10, ruleD q)]) (fun q => .lst (ruleW q)) okp (ei_mu okp (ev_fldH (K := K) (q := a.dr) okp (fun _ _ k => hins k.1) HK.c HK.rules (by rfl) (ev_var okp rfl)) (fun _ _ k => fr k.1) (fun z => z)) (fun _ _ => tg_name) (fun _ _ i hi => by simpa using hi)
    (fun q hq => ev_call okp (ea_cons okp (ev_var okp rfl) (ea_nil okp)) rfl (fun _ _ _ => ⟨q, rfl, (L.r q hq).1, rfl⟩)) (by show _ ≤ 16000000; omega)) (fun _ _ k => k.2) (by rw [List.length_map]; show _ ≤ 16000000; omega) (fun _ _ _ k mu st => CT.put hp _ _ _ _ _ k mu st) ?_
  have eR : (R7 ++ t.rules.map fun q => Dt.lst (ruleW q)) = (wordsT t).map Dt.lst := by
    rw [← e7, ← e6, ← e5, ← e4, ← e3, ← e2, ← e1]
    unfold wordsT
    simp only [List.map_append, List.map_map]
    rfl
  rw [eR]
  have W := words_ok L
  refine run_ret okp (ev_m1 okp (ev_str okp) (EvD.is (EvN.ev okp (en_map (wordsT t) Dt.lst (fun ws => [(11, .lst ws)]) (fun ws => .str (rowT ws)) okp (ei_mu okp (ev_var okp rfl) (fun _ _ k => k.2) (fun z => z)) (fun _ _ => tg_name) (fun _ _ i hi => by simpa using hi)
      (fun ws hw => ev_call okp (ea_cons okp (ev_var okp rfl) (ea_nil okp)) rfl (fun _ _ _ => ⟨ws, rfl, (W ws hw).1, (W ws hw).2, rfl⟩)) (by rw [words_cnt]; show _ ≤ 16000000; omega))) (?_ : _ = Dt.lst (tx (lineOf t))))
    (rm_joinS okp (by rw [line_cnt]; omega) (line_len L) (by decide +kernel))) rfl (fun v G3 H3 k3 r3 => hq v G3 H3 k3.1 r3)
  rw [← words_lines, tx, List.map_map]; rfl
end
end Kx

namespace Kx
open PySem L2
/-! ## the signs of the pieces of a text -/
theorem spl_mem (S : List Nat) : ∀ (l : List Nat) (k : Nat) (acc : List Nat), ∀ p ∈ TL.spl S k acc l, ∀ c ∈ p, c ∈ acc ∨ c ∈ l
  | [], k, acc, p, h => by
    rw [TL.spl_nil] at h
    rw [List.mem_singleton.mp h]
    exact fun c hc => .inl hc
  | d :: r, 0, acc, p, h => by
    rw [TL.spl] at h
    split at h
    · rcases List.mem_cons.mp h with rfl | h
      · exact fun c hc => .inl hc
      · intro c hc
        rcases spl_mem S r _ [] p h c hc with z | z
        · cases z
        · exact .inr (List.mem_cons_of_mem _ z)
    · intro c hc
      rcases spl_mem S r _ _ p h c hc with z | z
      · rcases List.mem_append.mp z with z | z
        · exact .inl z
        · rw [List.mem_singleton.mp z]; exact .inr List.mem_cons_self
      · exact .inr (List.mem_cons_of_mem _ z)
  | d :: r, k + 1, acc, p, h => by
    intro c hc
    rcases spl_mem S r k acc p h c hc with z | z
    · exact .inl z
    · exact .inr (List.mem_cons_of_mem _ z)
theorem words_plain {x : Str} (h : plain x = true) : ∀ z ∈ wordsOf x, PyData.strOk z = true := fun z hz => by
  refine plain_ok (plain_sub h fun c hc => ?_)
  have hz2 := (List.mem_filter.mp hz).1
  have e := TL.split_spl x " " (by decide +kernel) (TL.kind_ok (by decide +kernel))
  have m : tl z ∈ (Txt.split x " ").map TL.tl := List.mem_map.mpr ⟨z, hz2, rfl⟩
  rw [e] at m
  rcases spl_mem _ _ _ _ _ m c hc with q | q
  · cases q
  · exact q
/-! ## lines, and what a text of them tells -/
structure LineOk (l : Str) : Prop where
  pl : plain l = true
  ln : l.length ≤ 2000
theorem LineOk.nl {l : Str} (h : LineOk l) : 10 ∉ tl l := fun m => by
  have := plain_mem h.pl m
  omega
abbrev NL : Str := Str.ofString "\n"
theorem step_nil (t : Told) : rowStep t "" = (("" : Str), t) := by
  have e : wordsOf "" = [] := by decide +kernel
  unfold rowStep; rw [e]
theorem split_lines {ls : List Str} (h : ∀ l ∈ ls, LineOk l) (t : Told) (k : Nat) : toldBy t (Txt.split (Txt.join NL ls) NL) = toldBy t ls ∧ faultsBy t k (Txt.split (Txt.join NL ls) NL) = faultsBy t k ls := by
  cases ls with
  | nil =>
    have e : Txt.split (Txt.join NL []) NL = [("" : Str)] := by decide +kernel
    rw [e]
    refine ⟨?_, ?_⟩
    · show toldBy (rowStep t "").2 [] = _
      rw [step_nil]
    · show (if (rowStep t "").1 = "" then _ else _) = _
      rw [step_nil]; rfl
  | cons x r =>
    rw [TL.split_join (s := 10) (S := []) (by decide +kernel) (by decide +kernel) (by simp) (fun p hp => (h p hp).nl)]
    exact ⟨rfl, rfl⟩
theorem text_len {ls : List Str} (h : ∀ l ∈ ls, LineOk l) (hn : ls.length ≤ 200) : (Txt.join NL ls).length ≤ 500000 := by
  have h1 := join_le (x := NL) (n := 2000) fun y hy => (h y hy).ln
  have h2 : NL.length = 1 := by decide +kernel
  rw [h2] at h1
  omega
/-! ## faulty rows left out one by one -/
theorem faults_shift : ∀ (ls : List Str) (t : Told) (k : Nat), faultsBy t (k + 1) ls = (faultsBy t k ls).map fun q => (q.1 + 1, q.2)
  | [], _, _ => rfl
  | r :: ls, t, k => by
    show (if (rowStep t r).1 = "" then faultsBy (rowStep t r).2 (k + 1 + 1) ls else (k + 1, (rowStep t r).1) :: faultsBy (rowStep t r).2 (k + 1 + 1) ls) = (if (rowStep t r).1 = "" then faultsBy (rowStep t r).2 (k + 1) ls else (k, (rowStep t r).1) :: faultsBy (rowStep t r).2 (k + 1) ls).map _
    rw [faults_shift ls _ (k + 1)]
    split <;> rfl
theorem faults_cut : ∀ (ls : List Str) (t : Told) (k p : Nat) (w : Str) (rest : List (Nat × Str)), faultsBy t k ls = (p, w) :: rest →
    ∃ j, p = k + j ∧ j < ls.length ∧ rest = (faultsBy t k (ls.take j ++ ls.drop (j + 1))).map (fun q => (q.1 + 1, q.2)) ∧ toldBy t (ls.take j ++ ls.drop (j + 1)) = toldBy t ls
  | [], _, _, _, _, _, h => by cases h
  | r :: ls, t, k, p, w, rest, h => by
    by_cases e : (rowStep t r).1 = ""
    · have h2 : faultsBy (rowStep t r).2 (k + 1) ls = (p, w) :: rest := by
        have h3 : (if (rowStep t r).1 = "" then faultsBy (rowStep t r).2 (k + 1) ls else (k, (rowStep t r).1) :: faultsBy (rowStep t r).2 (k + 1) ls) = (p, w) :: rest := h
        rwa [if_pos e] at h3
      obtain ⟨j, h4, h5, h6, h7⟩ := faults_cut ls _ _ _ _ _ h2
      refine ⟨j + 1, by omega, by rw [List.length_cons]; omega, ?_, ?_⟩
      · rw [h6]
        show _ = (if (rowStep t r).1 = "" then faultsBy (rowStep t r).2 (k + 1) (ls.take j ++ ls.drop (j + 1)) else _).map _
        rw [if_pos e]
      · exact h7
    · have h3 : (if (rowStep t r).1 = "" then faultsBy (rowStep t r).2 (k + 1) ls else (k, (rowStep t r).1) :: faultsBy (rowStep t r).2 (k + 1) ls) = (p, w) :: rest := h
      rw [if_neg e, step_bad e] at h3
      injection h3 with h4 h5
      injection h4 with h6 h7
      refine ⟨0, by omega, by rw [List.length_cons]; omega, ?_, ?_⟩
      · rw [← h5, faults_shift]; rfl
      · show toldBy t ls = toldBy (rowStep t r).2 ls
        rw [step_bad e]
def cutF (ls : List Str) : List Str := match faultsBy {} 0 ls with
  | [] => ls
  | (j, _) :: _ => ls.take j ++ ls.drop (j + 1)
def leftF (ls : List Str) : Nat → List Str
  | 0 => ls
  | i + 1 => cutF (leftF ls i)
theorem cutF_sub (ls : List Str) : (∀ l ∈ cutF ls, l ∈ ls) ∧ (cutF ls).length ≤ ls.length := by
  unfold cutF
  split
  · exact ⟨fun _ h => h, Nat.le_refl _⟩
  · rename_i j _ _ _
    refine ⟨fun l hl => ?_, by rw [List.length_append, List.length_take, List.length_drop]; omega⟩
    rcases List.mem_append.mp hl with h | h
    · exact List.mem_of_mem_take h
    · exact List.mem_of_mem_drop h
theorem leftF_sub (ls : List Str) : ∀ i, (∀ l ∈ leftF ls i, l ∈ ls) ∧ (leftF ls i).length ≤ ls.length
  | 0 => ⟨fun _ h => h, Nat.le_refl _⟩
  | i + 1 => by
    obtain ⟨a, b⟩ := leftF_sub ls i
    obtain ⟨c, d⟩ := cutF_sub (leftF ls i)
    exact ⟨fun l hl => a l (c l hl), Nat.le_trans d b⟩
/-- behind i faults left out: those that are left, told from there on -/
theorem leftF_inv (ls : List Str) : ∀ i, i ≤ (faultsBy {} 0 ls).length → (faultsBy {} 0 ls).drop i = (faultsBy {} 0 (leftF ls i)).map (fun q => (q.1 + i, q.2)) ∧ toldBy {} (leftF ls i) = toldBy {} ls
  | 0, _ => ⟨by rw [List.drop_zero]; exact (List.map_id' _).symm, rfl⟩
  | i + 1, h => by
    obtain ⟨h1, h2⟩ := leftF_inv ls i (by omega)
    cases e : faultsBy {} 0 (leftF ls i) with
    | nil =>
      rw [e] at h1
      have := congrArg List.length h1
      rw [List.length_drop, List.map_nil, List.length_nil] at this
      omega
    | cons q rest =>
      obtain ⟨p, w⟩ := q
      obtain ⟨j, h3, h4, h5, h6⟩ := faults_cut _ _ _ _ _ _ e
      have ec : leftF ls (i + 1) = (leftF ls i).take j ++ (leftF ls i).drop (j + 1) := by
        show cutF (leftF ls i) = _
        unfold cutF
        rw [e]
        rw [show p = j by omega]
      refine ⟨?_, by rw [ec, h6, h2]⟩
      rw [e] at h1
      have h7 : (faultsBy {} 0 ls).drop (i + 1) = ((faultsBy {} 0 ls).drop i).drop 1 := by rw [List.drop_drop]
      rw [h7, h1, ec]
      show (rest.map fun q => (q.1 + i, q.2)) = _
      rw [h5, List.map_map]
      exact List.map_congr_left fun q _ => by show (q.1 + 1 + i, q.2) = (q.1 + (i + 1), q.2); rw [Nat.add_assoc, Nat.add_comm 1 i]
theorem leftF_at (ls : List Str) {i p : Nat} {w : Str} (h : (faultsBy {} 0 ls)[i]? = some (p, w)) : ∃ j rest, p = j + i ∧ j < (leftF ls i).length ∧ faultsBy {} 0 (leftF ls i) = (j, w) :: rest ∧ leftF ls (i + 1) = (leftF ls i).take j ++ (leftF ls i).drop (j + 1) := by
  have hi := (List.getElem?_eq_some_iff.mp h).1
  obtain ⟨h1, h2⟩ := leftF_inv ls i (by omega)
  have h0 : ((faultsBy {} 0 ls).drop i)[0]? = some (p, w) := by rw [List.getElem?_drop]; exact h
  rw [h1] at h0
  cases e : faultsBy {} 0 (leftF ls i) with
  | nil => rw [e] at h0; cases h0
  | cons q rest =>
    rw [e] at h0
    obtain ⟨p2, w2⟩ := q
    have h3 : (p2 + i, w2) = (p, w) := Option.some.inj h0
    injection h3 with h4 h5
    subst h5
    obtain ⟨j, a, b, _, _⟩ := faults_cut _ _ _ _ _ _ e
    refine ⟨p2, rest, h4.symm, by omega, rfl, ?_⟩
    show cutF (leftF ls i) = _
    unfold cutF
    rw [e]
theorem leftF_end (ls : List Str) : faultsBy {} 0 (leftF ls (faultsBy {} 0 ls).length) = [] ∧ toldBy {} (leftF ls (faultsBy {} 0 ls).length) = toldBy {} ls := by
  obtain ⟨h1, h2⟩ := leftF_inv ls _ (Nat.le_refl _)
  refine ⟨?_, h2⟩
  rw [List.drop_length] at h1
  cases e : faultsBy {} 0 (leftF ls (faultsBy {} 0 ls).length) with
  | nil => rfl
  | cons q rest => rw [e] at h1; cases h1
/-! ## enumerate -/
def idxG {α : Type} : Nat → List α → List (Nat × α)
  | _, [] => []
  | k, x :: r => (k, x) :: idxG (k + 1) r
theorem enum_idxG {α : Type} (c : α → Dt) : ∀ (l : List α) (k : Nat), enumF k (l.map c) = (idxG k l).map fun p => .tup [.int (p.1 : Nat), c p.2]
  | [], _ => rfl
  | x :: r, k => by
    show Dt.tup [.int (k : Nat), c x] :: enumF (k + 1) (r.map c) = _ :: _
    rw [enum_idxG c r (k + 1)]
theorem idxG_at {α : Type} : ∀ (l : List α) (k i : Nat) (p : Nat × α), (idxG k l)[i]? = some p → p.1 = k + i ∧ l[i]? = some p.2
  | [], k, i, p, h => by simp [idxG] at h
  | w :: r, k, 0, p, h => by
    have e : (k, w) = p := Option.some.inj h
    subst e; exact ⟨rfl, rfl⟩
  | w :: r, k, i + 1, p, h => by
    obtain ⟨h1, h2⟩ := idxG_at r (k + 1) i p h
    exact ⟨by omega, h2⟩
theorem idxG_len {α : Type} : ∀ (l : List α) (k : Nat), (idxG k l).length = l.length
  | [], _ => rfl
  | x :: r, k => by show (idxG (k + 1) r).length + 1 = _; rw [idxG_len r]; rfl
end Kx

namespace Kx
open PySem L2
/-! ## what the law's own walk asks -/
theorem FnOk.quiet {P : Program} {w : World} {K : PySem.W.Frag} {mg : Str → Option Value} {base : Heap} {k : Nat} {f : Addr} {fd : FuncData} {ps : List Str} {sp : Sp} (F : FnOk P w K mg base (L2.CX P w) k f fd ps sp) : FnOk P w K mg base CX0 k f fd ps (fun vs H Q _ => sp vs H Q fun _ _ _ => False) :=
  ⟨fun vs H Q E h => F.len vs H Q _ h, fun A outer s H args us vs Q E hr he hb hv hs => codeAny_mono (F.run A outer s H args us vs Q _ hr he hb hv hs) fun r s' hq => by
    cases r with
    | error e =>
      obtain ⟨_, _, _, _, _, _, _, _, _, _, _, _, z⟩ := hq
      exact z.elim
    | ok fl => cases fl <;> exact hq⟩
def spReadQ (cl cB : Addr) : Sp := fun vs H Q _ => spReadHall cl cB vs H Q fun _ _ _ => False
section
variable {C : Hp → Hp → Prop} {ds : List (Option Dt)} {K : PySem.W.Frag} {ta te : TE} {tl' : TA} {t u : TS} {c : TT} {D : Ends} {E : XK}
theorem run_setRH {i : Nat} {cl cB : Addr} {x : Str} (ok : Cok C) (ha : EvA tl' C ds [.str x]) (hx : x.length ≤ 500000) (hf : faultsBy {} 0 (Txt.split x NL) = [])
    (q : ∀ a : HA, Run u (fun G H => C G H ∧ HallAt cl a (toldBy {} (Txt.split x NL)) G H) (ds.set i (some (.obj a.x))) D) : Run (tSeq (tAsg (tCall (spReadQ cl cB) [] E tl') (gName i)) u) C ds D := fun G σ H k s =>
  ha G σ H k s _ fun vs G1 H1 p1 r1 => by
    cases r1 with
    | cons r1 r2 =>
      cases r2; cases r1
      refine ⟨G1, x, p1.gh, rfl, hx, fun a G' H' _ pu hall => ?_, fun k f rest e => ?_⟩
      · exact q a G' _ H' ⟨ok.stp k (p1.trans pu), hall⟩ (((s.mono p1.gg).mono pu.gg).set (.obj a.x) i)
      · have e2 := hf.symm.trans e
        cases e2
theorem RepA.ints {G : Hp} : ∀ cs : List Int, RepA G (cs.map V.int) (cs.map Dt.int)
  | [] => .nil
  | c :: cs => .cons (.int c) (RepA.ints cs)
theorem ev_sliceQ {a : Addr} {ns : List Int} (lo hi : Option Int) : ∃ cs : List Int, cs.length ≤ ns.length ∧ ∀ {C : Hp → Hp → Prop} {ds : List (Option Dt)} {te : TE} {t1 t2 : TO}, Cok C → (∀ G H, C G H → SqL K H a (ns.map V.int)) → EvD te C ds (.obj a) → EvO t1 C ds lo → EvO t2 C ds hi → EvD (tSl (rSlL K) te t1 t2) C ds (.lst (cs.map Dt.int)) := by
  refine ⟨(ns.drop (HT.sIx (ns.map V.int).length 0 lo)).take (HT.sIx (ns.map V.int).length (ns.map V.int).length hi - HT.sIx (ns.map V.int).length 0 lo), by rw [List.length_take, List.length_drop]; omega, ?_⟩
  intro C ds te t1 t2 ok hs h hl hu G σ H k s Q z
  refine h G σ H k s _ fun v G1 H1 p1 r1 => hl G1 σ H1 (ok.stp k p1) (s.mono p1.gg) _ fun G2 H2 p2 => hu G2 σ H2 (ok.stp k (p1.trans p2)) (s.mono (p1.trans p2).gg) _ fun G3 H3 p3 => ?_
  have p13 := (p1.trans p2).trans p3
  cases r1
  refine ⟨a, _, rfl, hs G3 H3 (ok.stp k p13), fun p hp => ?_⟩
  have pn : Pu G3 H3 (upd G3 p (.lst (cutV (ns.map V.int) lo hi))) (upd H3 p (.lst (cutV (ns.map V.int) lo hi))) := Pu.new p13.gh hp
  refine z _ _ _ (p13.trans pn) (.lst upd_same ?_)
  have e : cutV (ns.map V.int) lo hi = ((ns.drop (HT.sIx (ns.map V.int).length 0 lo)).take (HT.sIx (ns.map V.int).length (ns.map V.int).length hi - HT.sIx (ns.map V.int).length 0 lo)).map V.int := by
    unfold cutV
    rw [List.map_take, List.map_drop]
  rw [e]
  exact RepA.ints _
variable {n : Nat} {pre : Hp → Hp → List Dt → (Hp → Hp → Dt → Prop) → Prop} {as : List Dt}
/-- a call whose result is one of several -/
theorem run_setXE {i : Nat} {ι : Type} {fD : ι → Dt} {Cn : Hp → Hp → Prop} (ok : Cok C) (ha : EvA tl' C ds as) (hn : as.length = n) (hp : ∀ G H, C G H → ∃ post, pre G H as post ∧ ∀ G' H' r, post G' H' r → ∃ x, Same G G' ∧ Cn G' H' ∧ r = fD x) (q : ∀ x, Run u Cn (ds.set i (some (fD x))) D) : Run (tSeq (tAsg (tCall (SpX n pre) [] E tl') (gName i)) u) C ds D := fun G σ H k s =>
  ha G σ H k s _ fun vs G1 H1 p1 r1 => by
    obtain ⟨post, h1, h2⟩ := hp G1 H1 (ok.stp k p1)
    exact ⟨G1, as, post, p1.gh, by rw [List.append_nil]; exact r1, hn, h1, fun v G' H' r po re => by
      obtain ⟨x, h3, h4, rfl⟩ := h2 G' H' r po
      exact q x G' _ H' h4 (((s.mono p1.gg).mono h3).set re i)⟩
theorem run_ifXE {i : Nat} {b : Bool} {ι : Type} {fD : ι → Dt} {x0 : ι} (ok : Cok C) (hb : EvT c C ds b) (h0 : ds[i]? = some (some (fD x0))) (ha : EvA tl' C ds as) (hn : as.length = n) (hp : ∀ G H, C G H → ∃ post, pre G H as post ∧ ∀ G' H' r, post G' H' r → ∃ x, Same G G' ∧ C G' H' ∧ r = fD x) (q : ∀ x, Run u C (ds.set i (some (fD x))) D) :
    Run (tSeq (tIfS c (tAsg (tCall (SpX n pre) [] E tl') (gName i)) tNext) u) C ds D :=
  run_seq (run_if ok hb (fun _ => (run_setXE (u := tNext) ok ha hn hp (fun x => q x) : Run (tSeq (tAsg (tCall (SpX n pre) [] E tl') (gName i)) tNext) C ds { D with nx := u D })) fun _ G σ H k s => q x0 G σ H k (s.same i h0))
end
/-! ### plain texts with a bound -/
def EvP (te : TE) (C : Hp → Hp → Prop) (ds : List (Option Dt)) (x : Str) (n : Nat) : Prop := EvD te C ds (.str x) ∧ Wd n x
section
variable {C : Hp → Hp → Prop} {ds : List (Option Dt)} {K : PySem.W.Frag} {ta tb : TE} {x y : Str} {n m : Nat}
theorem ep_add (ok : Cok C) (a : EvP ta C ds x n) (b : EvP tb C ds y m) (h : n + m ≤ 15000 := by decide) : EvP (tOp rAddT ta tb) C ds (x ++ y) (n + m) :=
  ⟨ev_op ok a.1 b.1 (rv_addT ok (by have := a.2.2; have := b.2.2; show _ ≤ 16000000; omega)), wd_app a.2 b.2⟩
theorem ep_str (ok : Cok C) (h1 : plain x = true) (h : x.length ≤ n) (hn : n ≤ 15000 := by decide) : EvP (tC (.str x)) C ds x n := ⟨ev_str ok (by show _ ≤ 16000000; omega), h1, h⟩
theorem ep_name {i k : Nat} {ns : List Str} (ok : Cok C) (h : ds[i]? = some (some (.lst (tx ns)))) (hk : k < ns.length) (hw : ∀ s ∈ ns, Wd 10 s) : EvP (tOp (rIxL K) (tVar i) (tC (.int (k : Nat)))) C ds (ns.getD k "") 10 := by
  refine ⟨ev_op ok (ev_var ok h) (ev_int ok) (rv_ixL ok ?_), wd_getD hw k⟩
  have := at_txt (l := ns) (i := (k : Int)) (by omega) (by omega)
  rw [Int.toNat_natCast] at this
  exact this
end
theorem wd_line {n : Nat} {x : Str} (h : Wd n x) (hn : n ≤ 2000) : LineOk x := ⟨h.1, Nat.le_trans h.2 hn⟩
theorem plain_join {a : Str} (ha : plain a = true) : ∀ {ys : List Str}, (∀ y ∈ ys, plain y = true) → plain (Str.join a ys) = true
  | [], _ => rfl
  | [x], h => h x List.mem_cons_self
  | x :: y :: r, h => by
    have ih := plain_join ha (ys := y :: r) fun z hz => h z (List.mem_cons_of_mem _ hz)
    show plain ((x ++ a) ++ Str.join a (y :: r)) = true
    exact plain_app (plain_app (h x List.mem_cons_self) ha) ih
/-- a few blanks -/
theorem blanks (e : Int) (h0 : 0 ≤ e) (h2 : e ≤ 2) : MulOk " " e ∧ Wd 2 (Txt.mul " " e) := by
  rcases (show e = 0 ∨ e = 1 ∨ e = 2 by omega) with rfl | rfl | rfl
  · exact ⟨⟨by decide +kernel, fun h => absurd (by decide) h, fun h => absurd (by decide) h⟩, by decide +kernel, by decide +kernel⟩
  · exact ⟨⟨by decide +kernel, fun _ h => absurd h (by decide +kernel), fun _ h => absurd h (by decide +kernel)⟩, by decide +kernel, by decide +kernel⟩
  · exact ⟨⟨by decide +kernel, fun _ _ => by decide +kernel, fun _ _ => by decide +kernel⟩, by decide +kernel, by decide +kernel⟩
theorem ep_blanks {C : Hp → Hp → Prop} {ds : List (Option Dt)} {te : TE} {e : Int} (ok : Cok C) (h : EvD te C ds (.int e)) (h0 : 0 ≤ e) (h2 : e ≤ 2) : EvP (tOp rMulT (tC (.str " ")) te) C ds (Txt.mul " " e) 2 :=
  ⟨ev_op ok (ev_str ok) h (rv_mulT ok (blanks e h0 h2).1 (Nat.le_trans (blanks e h0 h2).2.2 (by decide))), (blanks e h0 h2).2⟩
/-- lines of one's own at p -/
def CL2 (G0 H0 : Hp) (p : Addr) (n : Nat) : Hp → Hp → Prop := fun G H => Bs No G0 H0 G H ∧ ∃ ls : List Str, Mu p (tx ls) G H ∧ ls.length ≤ n ∧ ∀ l ∈ ls, LineOk l
theorem CL2.ok {G0 H0 : Hp} {p : Addr} {n : Nat} : Cok (CL2 G0 H0 p n) := ⟨fun c => c.1.gh, fun c q => ⟨c.1.trans (Stp.of q), c.2.choose, c.2.choose_spec.1.stp q, c.2.choose_spec.2⟩⟩
theorem run_appendS {C C' : Hp → Hp → Prop} {ds : List (Option Dt)} {K : PySem.W.Frag} {ta te : TE} {t2 : TS} {D : Ends} {p : Addr} {xs : List Dt} {d : Dt} (ok : Cok C) (hp : EvD ta C ds (.obj p)) (he : EvD te C ds d) (hm : ∀ G H, C G H → Mu p xs G H) (hl : xs.length < Lim)
    (hc : ∀ G H H', C G H → Mu p (xs ++ [d]) G H' → Stp (fun b => b = p) G H G H' → C' G H') (q : Run t2 C' ds D) : Run (tSeq (tDrop (tBM K "list" rAppend ta (tCons te tNil))) t2) C ds D := run_seq (run_append ok hp he hm hl fun G σ H k s H' mu st => q G σ H' (hc G H H' k mu st) s)
theorem run_cl2 {t : TS} {D : Ends} {S : Addr → Prop} {G0 H0 Ga Ha : Hp} {p : Addr} {n : Nat} {ds : List (Option Dt)} (h : ∀ ls : List Str, ls.length ≤ n → (∀ l ∈ ls, LineOk l) → Run t (In (CT G0 H0 p (tx ls)) S Ga Ha) ds D) : Run t (In (CL2 G0 H0 p n) S Ga Ha) ds D := fun G σ H k s => by
  obtain ⟨⟨kb, ls, mu, hn, hl⟩, st⟩ := k
  exact h ls hn hl G σ H ⟨⟨kb, mu⟩, st⟩ s
theorem run_sealCL {t2 : TS} {D : Ends} {G0 H0 : Hp} {p : Addr} {n i : Nat} {ds : List (Option Dt)} (hp : H0 p = none) (h3 : ds[i]? = some (some (.obj p))) (q : ∀ ls : List Str, ls.length ≤ n → (∀ l ∈ ls, LineOk l) → Run t2 (Bs No G0 H0) (ds.set i (some (.lst (tx ls)))) D) : Run t2 (CL2 G0 H0 p n) ds D := fun G σ H k s => by
  obtain ⟨kb, ls, mu, hn, hl⟩ := k
  obtain ⟨v, hv, rv⟩ := s.get h3
  cases rv
  exact q ls hn hl (sealL [p] G H) σ H (seal_stp kb (fun b hb => by rw [List.mem_singleton.mp hb]; exact hp)) ((s.mono (seal_same kb.gh)).recast (seal_mu mu kb.gh List.mem_cons_self) i hv)
theorem Mu.tx1 {G H : Hp} {p : Addr} {ls : List Str} {l : Str} (h : Mu p (tx ls ++ [.str l]) G H) : Mu p (tx (ls ++ [l])) G H := by
  rw [tx, List.map_append]; exact h
theorem snoc_ok {ls : List Str} {l : Str} (h : ∀ x ∈ ls, LineOk x) (hl : LineOk l) : ∀ x ∈ ls ++ [l], LineOk x := fun x hx => by
  rcases List.mem_append.mp hx with hx | hx
  · exact h x hx
  · rw [List.mem_singleton.mp hx]; exact hl
def nameF (m : Int) (k : Nat) : Str := (["a", "b", "c"] : List Str).getD ((0 + (k : Int)) % 3).toNat "" ++ numT ((m + 7 * (0 + (k : Int))) % 30)
theorem name_wd (m : Int) (k : Nat) : Wd 10 (nameF m k) := by
  have h1 := Int.emod_nonneg (m + 7 * (0 + (k : Int))) (show (30 : Int) ≠ 0 by decide)
  have h2 := Int.emod_lt_of_pos (m + 7 * (0 + (k : Int))) (show (0 : Int) < 30 by decide)
  refine (wd_app (n := 1) (m := 3) (wd_getD (by
    intro s hs
    simp only [List.mem_cons, List.not_mem_nil, or_false] at hs
    rcases hs with rfl | rfl | rfl <;> exact ⟨by decide +kernel, by decide +kernel⟩) _) ⟨numT_plain _, numT_len (k := 2) (by decide) ?_⟩).up (by decide)
  show ((m + 7 * (0 + (k : Int))) % 30).natAbs < 100
  omega
end Kx

namespace Kx
open PySem L2
section
variable {P : Program} {w : World} {K : PySem.W.Frag} {mg : Str → Option Value} {base : Heap} {cl cB : Addr}
local macro_rules | `(tactic| walk_at "ev") => `(tactic| with_reducible first
  | (show EvD _ _ _ _; first
    | exact ev_var (by assumption) rfl
    | exact ev_int (by assumption)
    | exact ev_str (by assumption)
    | exact ev_non (by assumption)
    | exact ev_bl (by assumption)
    | (refine' ev_call (by assumption) ?_ ?_ ?_ <;> (try walk_at "ev"))
    | (refine' ev_op (by assumption) ?_ ?_ ?_ <;> (try walk_at "ev"))
    | (refine' ev_un (by assumption) ?_ rfl <;> (try walk_at "ev"))
    | (refine' ev_andV (by assumption) ?_ (fun _ => ?_) <;> (try walk_at "ev"))
    | (refine' ev_orV (by assumption) ?_ (fun _ => ?_) <;> (try walk_at "ev"))
    | (refine' ev_notV (by assumption) ?_ <;> (try walk_at "ev"))
    | (refine' ev_chain (by assumption) ?_ ?_ ?_ ?_ ?_ <;> (try walk_at "ev"))
    | (refine' ev_cb (by assumption) ?_ ?_ <;> (try walk_at "ev"))
    | (refine' ev_bm (by assumption) ?_ ?_ ?_ <;> (try walk_at "ev"))
    | (refine' ev_m1 (by assumption) ?_ ?_ ?_ <;> (try walk_at "ev"))
    | (refine' ev_sliceS (by assumption) ?_ ?_ ?_ <;> (try walk_at "ev"))
    | (refine' ev_slice (by assumption) ?_ ?_ ?_ <;> (try walk_at "ev"))
    | (refine' ev_tup (by assumption) ?_ ?_ <;> (try walk_at "ev"))
    | (refine' ev_lst (by assumption) ?_ ?_ <;> (try walk_at "ev"))
    | exact ev_h_shapes (by assumption) (by assumption) (by assumption) (ev_var (by assumption) rfl)
    | exact ev_h_marks (by assumption) (by assumption) (by assumption) (ev_var (by assumption) rfl)
    | exact ev_h_points (by assumption) (by assumption) (by assumption) (ev_var (by assumption) rfl)
    | exact ev_h_letters (by assumption) (by assumption) (by assumption) (ev_var (by assumption) rfl)
    | exact ev_h_gaps (by assumption) (by assumption) (by assumption) (ev_var (by assumption) rfl)
    | exact ev_h_classes (by assumption) (by assumption) (by assumption) (ev_var (by assumption) rfl)
    | exact ev_h_features (by assumption) (by assumption) (by assumption) (ev_var (by assumption) rfl)
    | exact ev_h_rules (by assumption) (by assumption) (by assumption) (ev_var (by assumption) rfl)
    | (refine' ev_dinK (by assumption) ?_ ?_ ?_ <;> (try walk_at "ev"))
    | (refine' ev_dniK (by assumption) ?_ ?_ ?_ <;> (try walk_at "ev"))
    | (refine' ev_dinT (by assumption) ?_ ?_ ?_ <;> (try walk_at "ev")))
  | (show EvA _ _ _ _; first
    | exact ea_nil (by assumption)
    | (refine' ea_cons (by assumption) ?_ ?_ <;> (try walk_at "ev")))
  | (show RV _ _ _ _ _; first
    | exact rv_int (by assumption)
    | exact rv_cmp (by assumption)
    | exact rv_eq (by assumption) rfl
    | exact rv_ne (by assumption) rfl
    | exact rv_isN (by assumption) rfl
    | exact rv_notN (by assumption) rfl
    | exact rv_inT (by assumption) (.inl rfl)
    | exact rv_inT (by assumption) (.inr rfl)
    | exact rv_niT (by assumption) (.inl rfl)
    | exact rv_niT (by assumption) (.inr rfl)
    | exact rv_inS (by assumption)
    | exact rv_niS (by assumption)
    | exact rv_ixS (by assumption) (by assumption)
    | exact rv_ixL (by assumption) (by assumption)
    | exact rv_ixT (by assumption) (by assumption)
    | exact rv_ixT (by assumption) rfl
    | exact rv_ixL (by assumption) rfl
    | (refine' rv_inM (by assumption) ?_ <;> (try walk_at "ev"))
    | (refine' rv_niM (by assumption) ?_ <;> (try walk_at "ev"))
    | (refine' rv_inX (by assumption) ?_ (.inl rfl) <;> (try walk_at "ev"))
    | (refine' rv_inX (by assumption) ?_ (.inr rfl) <;> (try walk_at "ev"))
    | (refine' rv_niX (by assumption) ?_ (.inl rfl) <;> (try walk_at "ev"))
    | (refine' rv_niX (by assumption) ?_ (.inr rfl) <;> (try walk_at "ev"))
    | exact rv_in (neg := false) (by assumption) rfl rfl (.inr rfl)
    | exact rv_in (neg := true) (by assumption) rfl rfl (.inr rfl)
    | exact rv_intC (g := fun i j => i % j) (by assumption) (by decide)
    | exact rv_intC (g := fun i j => i / j) (by assumption) (cdiv_ok (by decide)))
  | (show EvT _ _ _ _; first
    | exact et_yes (by assumption)
    | (refine' et_and (by assumption) ?_ (fun _ => ?_) <;> (try walk_at "ev"))
    | (refine' et_or (by assumption) ?_ (fun _ => ?_) <;> (try walk_at "ev"))
    | (refine' et_not ?_ <;> (try walk_at "ev"))
    | (refine' et_test ?_ <;> (try walk_at "ev"))
    | (refine' et_B ?_ <;> (try walk_at "ev")))
  | (show RC _ _ _ _; first
    | exact rc_lenL (by assumption)
    | exact rc_lenT (by assumption)
    | exact rc_lenS (by assumption)
    | exact rc_all (by assumption)
    | exact rc_intB (by assumption)
    | exact rc_strS (by assumption)
    | exact rc_listOf (by assumption) (.inl rfl)
    | exact rc_listOf (by assumption) (.inr rfl)
    | exact rc_tupOf (by assumption)
    | (refine' rc_lenD (by assumption) ?_ <;> (try walk_at "ev"))
    | (refine' rc_lenM (by assumption) ?_ <;> (try walk_at "ev")))
  | (show RM _ _ _ _ _; first
    | exact rm_strip' (by assumption))
  | (show EvO _ _ _ _; first
    | exact eo_none (by assumption)
    | (refine' eo_some ?_ <;> (try walk_at "ev")))
  | (show List.length _ ≤ Lim; with_unfolding_all exact Nat.le_of_ble_eq_true rfl)
  | (show List.length _ = _; with_unfolding_all rfl)
  | exact (fun _ _ _ => ⟨_, rfl, rfl⟩)
  | exact (fun _ _ _ => ⟨_, _, rfl, rfl⟩)
  | exact (fun _ _ _ => ⟨_, _, _, rfl, rfl⟩)
  | exact (fun _ _ _ => ⟨_, rfl, by assumption, rfl⟩)
  | exact hall_s (by assumption)
  | exact hall_m (by assumption)
  | exact hall_p (by assumption)
  | exact hall_l (by assumption)
  | exact hall_g (by assumption)
  | exact hall_c (by assumption)
  | exact hall_f (by assumption)
  | exact hall_r (by assumption)
  | exact TxL.of _
  | exact TxL.nil
  | (refine' TxL.cons ?_ <;> (try walk_at "ev")))


abbrev s_law : Stmt := top 62
abbrev N_law : List Str := ["_law_script", "_law_m", "_law_names", "_law_lines", "_law_k", "_law_cell", "_law_n", "_law_words", "_law_line", "_law_due", "_law_faults", "_law_place", "_law_word_here", "_law_hall"]
abbrev P_law : List Str := ["_law_script"]
theorem sc_law : FnScope N_law P_law (defScope s_law) := ⟨rfl, rfl, rfl, by decide +kernel, rfl, by decide +kernel, by decide +kernel⟩

abbrev spLaw (K : PySem.W.Frag) : Sp := SpF 1 fun _ H as r => ∃ (a : Addr) (ns : List Int), as = [.obj a] ∧ SqL K H a (ns.map V.int) ∧ ns.length ≤ 63 ∧ r = .bl true
theorem ok_law (B : Blt mg) {f : Addr} {fd : FuncData} (F : Fun K "law" "law" s_law f fd) (C_law_cell_at : Cal P w K mg base "_law_cell_at" 1 P_law_cell_at (spCellAt K)) (C_law_mixed : Cal P w K mg base "_law_mixed" 1 P_law_mixed spMixed) (C_law_row_words : Cal P w K mg base "_law_row_words" 3 P_law_row_words (SpX 3 preRW)) (C_law_spoilt : Cal P w K mg base "_law_spoilt" 1 P_law_spoilt (SpX 2 preSpoilt))
    (C_law_judged : Cal P w K mg base "_law_judged" 5 P_law_judged spJudged) (C_law_fault : Cal P w K mg base "_law_fault" 7 P_law_fault spFault) (C_read_hall : Cal P w K mg base "read_hall" 6 P_read_hall (spReadQ cl cB)) (C_law_hall_is : Cal P w K mg base "_law_hall_is" 7 P_law_hall_is (spHallIs cl)) (C_hall_text : Cal P w K mg base "hall_text" 2 P_hall_text (spHallText cl)) (C_law_hall_text : Cal P w K mg base "_law_hall_text" 2 P_law_hall_text spLawText) :
    FnOk P w K mg base CX0 8 f fd P_law (spLaw K) := by
  have sc := sc_law
  replace C_law_cell_at := C_law_cell_at.mono (k := 7) (by decide)
  replace C_law_mixed := C_law_mixed.mono (k := 7) (by decide)
  replace C_law_row_words := C_law_row_words.mono (k := 7) (by decide)
  replace C_law_spoilt := C_law_spoilt.mono (k := 7) (by decide)
  replace C_law_judged := C_law_judged.mono (k := 7) (by decide)
  replace C_read_hall := C_read_hall.mono (k := 7) (by decide)
  replace C_hall_text := C_hall_text.mono (k := 7) (by decide)
  replace C_law_hall_text := C_law_hall_text.mono (k := 7) (by decide)
  refine fnok F sc fun cdv A outer s H E hr => have hr1 := hr; ⟨_, (pss_cons (ps_set (i := 1) sc.nd rfl (Or.inr rfl) (pe_callC C_law_mixed hr1 rfl (pa_cons (pe_callC C_law_cell_at hr1 rfl (pa_cons (pv 0) (pa_cons pe_int pa_nil))) (pa_cons pe_int pa_nil))))
      (pss_cons (ps_setLc (i := 2) (own := [("_law_k", 4)]) (by rfl) sc.nd rfl rfl (sw_true rfl rfl rfl (by decide +kernel)) (pi_range1 (by rfl) B.range_ (pa_cons pe_int pa_nil)) (blkOk_by (N := N_law) (sc := defScope s_law) (by decide +kernel)) (fun _ _ _ _ _ => (pg_name (i := 4) sc.nd rfl (Or.inl rfl))) (fun _ _ _ _ _ => pts_nil) (fun _ _ _ _ _ => (pe_op op_addT (pe_ix (r := rIxL K) ix_list (pe_lst (pa_cons pe_str (pa_cons pe_str (pa_cons pe_str pa_nil)))) (pe_op op_mod (pv 4) pe_int) (fun _ _ => rfl)) (pe_callTy call_strI (by rfl) B.str_ (by decide +kernel) (pa_cons (pe_op op_mod (pe_op op_add (pv 1) (pe_op op_mul pe_int (pv 4))) pe_int) pa_nil)))))
      (pss_cons (ps_set (i := 3) sc.nd rfl (Or.inl rfl) (pe_lst (pa_cons (pe_op op_addT (pe_op op_addT pe_str (pe_ix (r := rIxL K) ix_list (pv 2) pe_int (fun _ _ => rfl))) pe_str) (pa_cons (pe_op op_addT (pe_op op_addT pe_str (pe_ix (r := rIxL K) ix_list (pv 2) pe_int (fun _ _ => rfl))) pe_str) (pa_cons (pe_op op_addT (pe_op op_addT pe_str (pe_ix (r := rIxL K) ix_list (pv 2) pe_int (fun _ _ => rfl))) pe_str) pa_nil)))))
      (pss_cons (ps_set (i := 3) sc.nd rfl (Or.inl rfl) (pe_op op_cat (pv 3) (pe_lst (pa_cons (pe_op op_addT (pe_op op_addT pe_str (pe_ix (r := rIxL K) ix_list (pv 2) pe_int (fun _ _ => rfl))) pe_str) (pa_cons (pe_op op_addT (pe_op op_addT (pe_op op_addT pe_str (pe_ix (r := rIxL K) ix_list (pv 2) pe_int (fun _ _ => rfl))) pe_str) (pe_ix (r := rIxL K) ix_list (pv 2) pe_int (fun _ _ => rfl))) pa_nil)))))
      (pss_cons (ps_expr (pe_bm PySem.F.plainAttrs_list PySem.F.slot_list_append PySem.F.type_list_append mt_append (pv 3) (pa_cons (pe_op op_addT (pe_op op_addT (pe_op op_addT (pe_op op_addT (pe_op op_addT pe_str (pe_ix (r := rIxL K) ix_list (pv 2) pe_int (fun _ _ => rfl))) pe_str) (pe_ix (r := rIxL K) ix_list (pv 2) pe_int (fun _ _ => rfl))) pe_str) (pe_ix (r := rIxL K) ix_list (pv 2) pe_int (fun _ _ => rfl))) pa_nil)))
      (pss_cons (ps_for PassesOwn.never rfl (pi_enum (by rfl) B.enumerate_ (pa_cons (pe_slice (r := rSlL K) sl_list (pv 0) (po_some pe_int) (po_some pe_int)) pa_nil)) (pg_tupK (K := K) (n := 2) rfl rfl (pgs_cons (pg_name (i := 4) sc.nd rfl (Or.inl rfl)) (pgs_cons (pg_name (i := 5) sc.nd rfl (Or.inl rfl)) pgs_nil))) (pss_cons (ps_set (i := 6) sc.nd rfl (Or.inl rfl) (pe_callC C_law_mixed hr1 rfl (pa_cons (pv 5) (pa_cons (pe_op op_add (pv 4) pe_int) pa_nil))))
      (pss_cons (ps_set (i := 7) sc.nd rfl (Or.inl rfl) (pe_callC C_law_row_words hr1 rfl (pa_cons (pv 2) (pa_cons (pe_callC C_law_mixed hr1 rfl (pa_cons (pv 5) (pa_cons pe_int pa_nil))) (pa_cons (pv 6) pa_nil)))))
      (pss_cons (ps_if (pt_cmpR op_eq (pe_op op_mod (pe_op op_fdiv (pv 6) pe_int) pe_int) pe_int (nomark _)) (pss_one (ps_set (i := 7) sc.nd rfl (Or.inl rfl) (pe_callC C_law_spoilt hr1 rfl (pa_cons (pv 7) (pa_cons (pe_op op_fdiv (pv 6) pe_int) pa_nil))))) pss_nil)
      (pss_cons (ps_set (i := 8) sc.nd rfl (Or.inl rfl) (pe_m1 (r := rJoin K) PySem.F.slot_str_join PySem.F.type_str_join mt_join (pe_op op_mulT pe_str (pe_op op_add pe_int (pe_op op_mod (pe_op op_fdiv (pv 6) pe_int) pe_int))) (pv 7)))
      (pss_cons (ps_expr (pe_bm PySem.F.plainAttrs_list PySem.F.slot_list_append PySem.F.type_list_append mt_append (pv 3) (pa_cons (pe_op op_addT (pe_op op_addT (pe_op op_mulT pe_str (pe_op op_mod (pe_op op_fdiv (pv 6) pe_int) pe_int)) (pv 8)) (pe_op op_mulT pe_str (pe_op op_mod (pe_op op_fdiv (pv 6) pe_int) pe_int))) pa_nil)))
      (pss_one (ps_if (pt_cmpR op_eq (pe_op op_mod (pe_op op_fdiv (pv 6) pe_int) pe_int) pe_int (nomark _)) (pss_one (ps_expr (pe_bm PySem.F.plainAttrs_list PySem.F.slot_list_append PySem.F.type_list_append mt_append (pv 3) (pa_cons (pe_op op_mulT pe_str (pe_op op_mod (pe_op op_fdiv (pv 6) pe_int) pe_int)) pa_nil)))) pss_nil))))))))
      (pss_cons (ps_asg (pe_callC C_law_judged hr1 rfl (pa_cons (pv 3) pa_nil)) (pg_tupK (K := K) (n := 2) rfl rfl (pgs_cons (pg_name (i := 9) sc.nd rfl (Or.inl rfl)) (pgs_cons (pg_name (i := 10) sc.nd rfl (Or.inl rfl)) pgs_nil))))
      (pss_cons (ps_for PassesOwn.never rfl (pi_enum (by rfl) B.enumerate_ (pa_cons (pv 10) pa_nil)) (pg_tupK (K := K) (n := 2) rfl rfl (pgs_cons (pg_name (i := 4) sc.nd rfl (Or.inl rfl)) (pgs_cons (pg_tupK (K := K) (n := 2) rfl rfl (pgs_cons (pg_name (i := 11) sc.nd rfl (Or.inl rfl)) (pgs_cons (pg_name (i := 12) sc.nd rfl (Or.inl rfl)) pgs_nil))) pgs_nil))) (pss_cons (ps_if (PW.pt (pw_and (pt_cmpR op_lt (pv 4) pe_int (nomark _)) (pw_and1 (pt_not (pt_val (pe_callC C_law_fault hr1 rfl (pa_cons (pe_m1 (r := rJoin K) PySem.F.slot_str_join PySem.F.type_str_join mt_join pe_str (pv 3)) (pa_cons (pe_op op_sub (pv 11) (pv 4)) (pa_cons (pv 12) pa_nil))))))))) (pss_one (ps_ret pe_bl)) pss_nil)
      (pss_one (ps_set (i := 3) sc.nd rfl (Or.inl rfl) (pe_op op_cat (pe_slice (r := rSlL K) sl_list (pv 3) po_none (po_some (pe_op op_sub (pv 11) (pv 4)))) (pe_slice (r := rSlL K) sl_list (pv 3) (po_some (pe_op op_add (pe_op op_sub (pv 11) (pv 4)) pe_int)) po_none))))))
      (pss_cons (ps_set (i := 13) sc.nd rfl (Or.inl rfl) (pe_callC C_read_hall hr1 rfl (pa_cons (pe_m1 (r := rJoin K) PySem.F.slot_str_join PySem.F.type_str_join mt_join pe_str (pv 3)) pa_nil)))
      (pss_one (ps_ret (pe_and (pe_callC C_law_hall_is hr1 rfl (pa_cons (pv 13) (pa_cons (pv 9) pa_nil))) (pe_one (pe_cmpR op_eq (pe_callC C_hall_text hr1 rfl (pa_cons (pv 13) pa_nil)) (pe_callC C_law_hall_text hr1 rfl (pa_cons (pv 9) pa_nil)) (nomark _))))))))))))))), fun G as r D hl sm hp hq hx => ?_⟩
  obtain ⟨a, ns, rfl, hs, hn, rfl⟩ := hp
  have ok : Cok (Bs No G H) := Bs.ok
  have hf : ∀ G1 H1, Bs No G H G1 H1 → SqL K H1 a (ns.map V.int) := fun G1 H1 c => sq_mono hs (Pu.hs c)
  -- the number that all hangs on
  refine run_set (d := .int (mixOf (ns.getD 0 0) 1)) ok (ev_call ok (ea_cons ok (ev_call ok (ea_cons ok (ev_var ok rfl) (ea_cons ok (ev_int ok) (ea_nil ok))) rfl (fun G1 H1 k => ⟨a, ns, 0, rfl, hf G1 H1 k, rfl⟩)) (ea_cons ok (ev_int ok) (ea_nil ok))) rfl (fun _ _ _ => ⟨_, 1, rfl, by decide, by decide, rfl⟩)) ?_
  have hm := mix_pos (ns.getD 0 0) 1
  generalize mixOf (ns.getD 0 0) 1 = m at hm
  -- names
  refine run_set (d := .lst (tx ((List.range 8).map (nameF m)))) ok (EvD.is (EvN.ev ok (en_map (List.range 8) (fun (k : Nat) => Dt.int (0 + (k : Int))) (fun k => [(4, .int (0 + (k : Int)))]) (fun k => .str (nameF m k)) ok (ei_range1 (n := 8) (ea_cons ok (ev_int ok) (ea_nil ok)) ⟨by decide, by decide⟩) (fun _ _ => tg_name) (fun _ _ i hi => by simpa using hi) (fun k hk => ?_) (by decide))) (by rw [tx, List.map_map]; rfl)) ?_
  · have h1 := Int.emod_nonneg (m + 7 * (0 + (k : Int))) (show (30 : Int) ≠ 0 by decide)
    have h2 := Int.emod_lt_of_pos (m + 7 * (0 + (k : Int))) (show (0 : Int) < 30 by decide)
    refine ev_op ok (ev_op ok (ev_lstA ok (ea_cons ok (ev_str ok) (ea_cons ok (ev_str ok) (ea_cons ok (ev_str ok) (ea_nil ok))))) (ev_op ok (ev_var ok rfl) (ev_int ok) (rv_intC (g := fun i j => i % j) ok (by decide))) (rv_ixL ok (at_txt (l := ["a", "b", "c"]) (by omega) (by show _ < (3 : Int); omega))))
      (ev_numT ok (ev_op ok (ev_op ok (ev_var ok rfl) (ev_op ok (ev_int ok) (ev_var ok rfl) (rv_intC (g := fun i j => i * j) ok (.inl ⟨by decide, by decide⟩))) (rv_int (g := fun i j => i + j) ok)) (ev_int ok) (rv_intC (g := fun i j => i % j) ok (by decide))) (by omega)) (rv_addT ok ?_)
    have h3 := (name_wd m k).2
    unfold nameF at h3
    rw [len_app] at h3
    show _ ≤ 16000000
    omega
  have hw : ∀ x ∈ (List.range 8).map (nameF m), Wd 10 x := fun x hx => by
    obtain ⟨k, _, rfl⟩ := List.mem_map.mp hx
    exact name_wd m k
  have hl8 : ((List.range 8).map (nameF m)).length = 8 := by rw [List.length_map, List.length_range]
  generalize (List.range 8).map (nameF m) = names at hw hl8
  -- six good lines
  have nm : ∀ {C : Hp → Hp → Prop} {ds : List (Option Dt)} (k : Nat), Cok C → ds[2]? = some (some (.lst (tx names))) → k < 8 → EvP (tOp (rIxL K) (tVar 2) (tC (.int (k : Nat)))) C ds (names.getD k "") 10 := fun k ok h hk => ep_name ok h (by omega) hw
  have st : ∀ {C : Hp → Hp → Prop} {ds : List (Option Dt)} (x : Str), Cok C → plain x = true → x.length ≤ 20 → EvP (tC (.str x)) C ds x 20 := fun x ok h1 h2 => ep_str ok h1 h2
  have L1 : ∀ {C : Hp → Hp → Prop} {ds : List (Option Dt)}, Cok C → ds[2]? = some (some (.lst (tx names))) → EvP _ C ds _ _ := fun ok h => ep_add ok (ep_add ok (st "shape " ok (by decide +kernel) (by decide +kernel)) (nm 1 ok h (by decide))) (st " 5" ok (by decide +kernel) (by decide +kernel))
  have L2 : ∀ {C : Hp → Hp → Prop} {ds : List (Option Dt)}, Cok C → ds[2]? = some (some (.lst (tx names))) → EvP _ C ds _ _ := fun ok h => ep_add ok (ep_add ok (st "shape " ok (by decide +kernel) (by decide +kernel)) (nm 0 ok h (by decide))) (st " 0" ok (by decide +kernel) (by decide +kernel))
  have L3 : ∀ {C : Hp → Hp → Prop} {ds : List (Option Dt)}, Cok C → ds[2]? = some (some (.lst (tx names))) → EvP _ C ds _ _ := fun ok h => ep_add ok (ep_add ok (st "shape " ok (by decide +kernel) (by decide +kernel)) (nm 2 ok h (by decide))) (st " 12" ok (by decide +kernel) (by decide +kernel))
  have L4 : ∀ {C : Hp → Hp → Prop} {ds : List (Option Dt)}, Cok C → ds[2]? = some (some (.lst (tx names))) → EvP _ C ds _ _ := fun ok h => ep_add ok (ep_add ok (st "feature " ok (by decide +kernel) (by decide +kernel)) (nm 0 ok h (by decide))) (st " on" ok (by decide +kernel) (by decide +kernel))
  have L5 : ∀ {C : Hp → Hp → Prop} {ds : List (Option Dt)}, Cok C → ds[2]? = some (some (.lst (tx names))) → EvP _ C ds _ _ := fun ok h => ep_add ok (ep_add ok (ep_add ok (st "letter " ok (by decide +kernel) (by decide +kernel)) (nm 1 ok h (by decide))) (st " none left " ok (by decide +kernel) (by decide +kernel))) (nm 0 ok h (by decide))
  have L6 : ∀ {C : Hp → Hp → Prop} {ds : List (Option Dt)}, Cok C → ds[2]? = some (some (.lst (tx names))) → EvP _ C ds _ _ := fun ok h => ep_add ok (ep_add ok (ep_add ok (ep_add ok (ep_add ok (st "class " ok (by decide +kernel) (by decide +kernel)) (nm 2 ok h (by decide))) (st " " ok (by decide +kernel) (by decide +kernel))) (nm 1 ok h (by decide))) (st " " ok (by decide +kernel) (by decide +kernel))) (nm 0 ok h (by decide))
  have Z0 : [(none : Option Dt), none, some (.lst (tx names))][2]? = some (some (.lst (tx names))) := rfl
  have w1 := wd_line (L1 ok Z0).2 (by decide)
  have w2 := wd_line (L2 ok Z0).2 (by decide)
  have w3 := wd_line (L3 ok Z0).2 (by decide)
  have w4 := wd_line (L4 ok Z0).2 (by decide)
  have w5 := wd_line (L5 ok Z0).2 (by decide)
  have w6 := wd_line (L6 ok Z0).2 (by decide)
  refine run_set ok (ev_lstA ok (ea_cons ok (L1 ok rfl).1 (ea_cons ok (L2 ok rfl).1 (ea_cons ok (L3 ok rfl).1 (ea_nil ok))))) ?_
  refine run_setN (Z := fun p => H p = none) ok (en_op ok (ev_var ok rfl) (ev_lstA ok (ea_cons ok (L4 ok rfl).1 (ea_cons ok (L5 ok rfl).1 (ea_nil ok)))) (rn_cat ok (Nat.le_of_ble_eq_true rfl))) (fun _ _ p k hp => k.th p hp) fun p hp => ?_
  have okp : ∀ {R}, Cok (CT G H p R) := CT.ok
  have absorb : ∀ {G1 H1 H2}, Bs No G H G1 H1 → Stp (fun b => b = p) G1 H1 G1 H2 → Bs No G H G1 H2 := fun k st => stp_absorb k st fun b hb => hb ▸ hp
  refine run_appendS (C' := CL2 G H p 6) okp (ev_var okp rfl) (L6 okp rfl).1 (fun _ _ k => k.2) (by show 5 < 16000000; decide) (fun G1 H1 H2 k mu st => ⟨absorb k.1 st, [_, _, _, _, _, _], mu, Nat.le_of_ble_eq_true rfl, ?_⟩) ?_
  · intro l hl
    simp only [List.mem_cons, List.not_mem_nil, or_false] at hl
    rcases hl with rfl | rfl | rfl | rfl | rfl | rfl <;> assumption
  -- the drawn lines
  obtain ⟨cs, hcs, hsl⟩ := ev_sliceQ (K := K) (a := a) (ns := ns) (some 1) (some 81)
  refine run_seq (run_for (S := fun b => b = p) (idxG 0 cs) (fun q => Dt.tup [.int (q.1 : Nat), .int q.2]) (fun q => [(4, .int (q.1 : Nat)), (5, .int q.2)]) (fun i => CL2 G H p (6 + 2 * i)) (fun _ => [some (.obj a), some (.int m), some (.lst (tx names)), some (.obj p), none, none, none, none, none, none, none, none, none, none]) CL2.ok (fun _ => CL2.ok)
    (by rw [← enum_idxG Dt.int]; exact ei_enum (ea_cons CL2.ok (hsl CL2.ok (fun G1 H1 k => hf G1 H1 k.1) (ev_var CL2.ok rfl) (eo_some (ev_int CL2.ok)) (eo_some (ev_int CL2.ok))) (ea_nil CL2.ok)))
    (fun _ _ => tg_tup (tgs_cons tg_name (tgs_cons tg_name tgs_nil)) rfl) (fun G1 H1 k => k) (Less.refl _) (fun i y hy Ga Ha ca => ?_) ?_)
  · obtain ⟨k, c⟩ := y
    obtain ⟨hk, hc⟩ := idxG_at cs 0 i (k, c) hy
    rw [Nat.zero_add] at hk
    replace hk : k = i := hk
    subst hk
    have hkl : k < cs.length := (List.getElem?_eq_some_iff.mp hc).1
    refine run_cl2 fun ls hln hlo => ?_
    have ok2 : Cok (In (CT G H p (tx ls)) (fun b => b = p) Ga Ha) := In.ok CT.ok
    refine run_set (d := .int (mixOf c ((k : Int) + 3))) ok2 (ev_call ok2 (ea_cons ok2 (ev_var ok2 rfl) (ea_cons ok2 (ev_op ok2 (ev_var ok2 rfl) (ev_int ok2) (rv_int (g := fun i j => i + j) ok2)) (ea_nil ok2))) rfl (fun _ _ _ => ⟨c, _, rfl, by omega, by omega, rfl⟩)) ?_
    have hn2 := mix_pos c ((k : Int) + 3)
    generalize mixOf c ((k : Int) + 3) = n at hn2
    refine run_setXE (ι := {vs : List Str // vs ≠ [] ∧ Gd 40 vs}) (fD := fun vs => .lst (tx vs.1)) (Cn := In (CT G H p (tx ls)) (fun b => b = p) Ga Ha) ok2 (ea_cons ok2 (ev_var ok2 rfl) (ea_cons ok2 (ev_call ok2 (ea_cons ok2 (ev_var ok2 rfl) (ea_cons ok2 (ev_int ok2) (ea_nil ok2))) rfl (fun _ _ _ => ⟨c, 2, rfl, by decide, by decide, rfl⟩)) (ea_cons ok2 (ev_var ok2 rfl) (ea_nil ok2)))) rfl
      (fun G1 H1 k1 => ⟨_, ⟨names, mixOf c 2, n, rfl, hl8, hw, (mix_pos c 2).1, (mix_pos c 2).2, hn2.1, hn2.2, rfl⟩, fun G2 H2 r po => ?_⟩) ?_
    · obtain ⟨pu, vs, rfl, h1, h2⟩ := po
      exact ⟨⟨vs, h1, h2⟩, pu.gg, ok2.stp k1 pu, rfl⟩
    rintro ⟨ws, hne, hgd⟩
    refine run_ifXE (ι := {vs : List Str // Gd 81 vs}) (fD := fun vs => .lst (tx vs.1)) (x0 := ⟨ws, hgd.up (by decide)⟩) ok2 (by walk_at "ev") rfl (ea_cons ok2 (ev_var ok2 rfl) (ea_cons ok2 (by walk_at "ev") (ea_nil ok2))) rfl
      (fun G1 H1 k1 => ⟨_, ⟨ws, n / 40, rfl, hne, hgd, by omega, rfl⟩, fun G2 H2 r po => ?_⟩) ?_
    · obtain ⟨pu, vs, rfl, h2⟩ := po
      exact ⟨⟨vs, h2⟩, pu.gg, ok2.stp k1 pu, rfl⟩
    rintro ⟨vs, hg⟩
    have b1 := blanks (1 + n / 3 % 2) (by omega) (by omega)
    have hgl : ∀ y ∈ vs, y.length ≤ 12 := fun y hy => (hg.wd y hy).2
    have hgn := hg.ln
    have hsum := sum_le hgl
    have hs12 : vs.length * 12 ≤ 81 * 12 := Nat.mul_le_mul_right _ hgn
    have hs2 : vs.length * (Txt.mul " " (1 + n / 3 % 2)).length ≤ 81 * 2 := Nat.mul_le_mul hgn b1.2.2
    refine run_set (d := .str (Txt.join (Txt.mul " " (1 + n / 3 % 2)) vs)) ok2 (ev_m1 ok2 (ep_blanks ok2 (by walk_at "ev") (by omega) (by omega)).1 (ev_var ok2 rfl) (rm_join ok2 (.inl rfl) (by show _ ≤ 16000000; omega))) ?_
    have hj : Wd 1200 (Txt.join (Txt.mul " " (1 + n / 3 % 2)) vs) := by
      refine ⟨?_, ?_⟩
      · rw [TL.join_eq]; exact plain_join b1.2.1 fun y hy => (hg.wd y hy).1
      · have := join_le (x := Txt.mul " " (1 + n / 3 % 2)) hgl
        omega
    generalize Txt.join (Txt.mul " " (1 + n / 3 % 2)) vs = ln at hj
    have c1 := blanks (n / 7 % 2) (by omega) (by omega)
    have c2 := blanks (n / 11 % 2) (by omega) (by omega)
    have c3 := blanks (n / 17 % 2) (by omega) (by omega)
    have hline : LineOk ((Txt.mul " " (n / 7 % 2) ++ ln) ++ Txt.mul " " (n / 11 % 2)) := wd_line (wd_app (wd_app c1.2 hj) c2.2) (by decide)
    have hlen : ls.length ≤ 200 := by omega
    refine run_appendS (C' := In (CT G H p (tx (ls ++ [(Txt.mul " " (n / 7 % 2) ++ ln) ++ Txt.mul " " (n / 11 % 2)]))) (fun b => b = p) Ga Ha) ok2 (ev_var ok2 rfl) (ep_add ok2 (ep_add ok2 (ep_blanks ok2 (by walk_at "ev") (by omega) (by omega)) (⟨ev_var ok2 rfl, hj⟩ : EvP (tVar 8) _ _ ln 1200)) (ep_blanks ok2 (by walk_at "ev") (by omega) (by omega))).1 (fun _ _ k => k.1.2) (by rw [List.length_map]; show _ < 16000000; omega) (fun G1 H1 H2 k mu st => ⟨⟨absorb k.1.1 st, mu.tx1⟩, k.2.trans st⟩) ?_
    have hlo2 := snoc_ok hlo hline
    have hln2 : (ls ++ [(Txt.mul " " (n / 7 % 2) ++ ln) ++ Txt.mul " " (n / 11 % 2)]).length ≤ 6 + 2 * k + 1 := by rw [List.length_append, List.length_singleton]; omega
    generalize ls ++ [(Txt.mul " " (n / 7 % 2) ++ ln) ++ Txt.mul " " (n / 11 % 2)] = ls2 at hlo2 hln2
    have ok3 : Cok (In (CT G H p (tx ls2)) (fun b => b = p) Ga Ha) := In.ok CT.ok
    clear ok2
    refine run_if ok3 (by walk_at "ev") (fun _ => ?_) (fun _ G1 σ1 H1 k1 s1 => ?_)
    · refine run_append ok3 (ev_var ok3 rfl) (ep_blanks ok3 (by walk_at "ev") (by omega) (by omega)).1 (fun _ _ k => k.1.2) (by rw [List.length_map]; show _ < 16000000; omega) (fun G1 σ1 H1 k1 s1 H2 mu st => ⟨G1, k1.2.trans st, ⟨absorb k1.1.1 st, _, mu.tx1, by rw [List.length_append, List.length_singleton]; omega, snoc_ok hlo2 (wd_line c3.2 (by decide))⟩, s1.less ?_⟩)
      exact .keep (.keep (.keep (.keep (.gone (.gone (.gone (.gone (.gone (.keep (.keep (.keep (.keep (.keep .nil)))))))))))))
    · exact ⟨G1, k1.2, ⟨k1.1.1, ls2, k1.1.2, by omega, hlo2⟩, s1.less (.keep (.keep (.keep (.keep (.gone (.gone (.gone (.gone (.gone (.keep (.keep (.keep (.keep (.keep .nil))))))))))))))⟩
  refine run_nx (run_sealCL hp (i := 3) rfl fun ls hln hlo => ?_)
  rw [idxG_len] at hln
  have hlen : ls.length ≤ 132 := by omega
  have fT : Fit (toldBy {} ls) := fit_told ls {} fit_nil (by show 0 + ls.length < 300; omega)
  have szT : (toldBy {} ls).size ≤ 132 := by
    have h1 := toldBy_size ls {}
    have h2 : (({} : Told)).size = 0 := rfl
    omega
  refine run_tg (us := [(9, toldDt (toldBy {} ls)), (10, .lst ((faultsBy {} 0 ls).map faultD))]) ok (ev_call ok (ea_cons ok (ev_var ok rfl) (ea_nil ok)) rfl (fun _ _ _ => ⟨ls, rfl, by omega, fun l hl => ⟨Nat.le_trans (hlo l hl).ln (by decide), words_plain (hlo l hl).pl⟩, rfl⟩)) (tg_tup (tgs_cons tg_name (tgs_cons tg_name tgs_nil)) rfl) ?_
  have sub : ∀ i, (∀ l ∈ leftF ls i, LineOk l) ∧ (leftF ls i).length ≤ 132 := fun i => ⟨fun l hl => hlo l ((leftF_sub ls i).1 l hl), Nat.le_trans (leftF_sub ls i).2 hlen⟩
  have jn : ∀ {C : Hp → Hp → Prop} {ds : List (Option Dt)} (i : Nat), Cok C → ds[3]? = some (some (.lst (tx (leftF ls i)))) → EvD (tM1 (rJoin K) (tC (.str NL)) (tVar 3)) C ds (.str (Txt.join NL (leftF ls i))) := fun i ok h => ev_m1 ok (ev_str ok) (ev_var ok h) (rm_joinS ok (by have := (sub i).2; omega) (fun y hy => Nat.le_trans ((sub i).1 y hy).ln (by decide)) (by decide +kernel))
  -- faulty lines one by one
  refine run_seq (run_for (S := No) (idxG 0 (faultsBy {} 0 ls)) (fun q => Dt.tup [.int (q.1 : Nat), faultD q.2]) (fun q => [(4, .int (q.1 : Nat)), (11, .int (q.2.1 : Nat)), (12, .str q.2.2)]) (fun _ => Bs No G H)
    (fun i => [some (.obj a), some (.int m), some (.lst (tx names)), some (.lst (tx (leftF ls i))), none, none, none, none, none, some (toldDt (toldBy {} ls)), some (.lst ((faultsBy {} 0 ls).map faultD)), none, none, none]) ok (fun _ => ok)
    (by rw [← enum_idxG faultD]; exact ei_enum (ea_cons ok (ev_var ok rfl) (ea_nil ok))) (fun _ _ => tg_tup (tgs_cons tg_name (tgs_cons (tg_tup (tgs_cons tg_name (tgs_cons tg_name tgs_nil)) rfl) tgs_nil)) rfl) (fun _ _ k => k) (Less.refl _) (fun i y hy Ga Ha ca => ?_) ?_)
  · obtain ⟨k, pl, wd⟩ := y
    obtain ⟨hk, hc⟩ := idxG_at (faultsBy {} 0 ls) 0 i (k, pl, wd) hy
    rw [Nat.zero_add] at hk
    replace hk : k = i := hk
    subst hk
    obtain ⟨j, rest, hpj, hj, hfa, hcut⟩ := leftF_at ls hc
    have ok2 : Cok (In (Bs No G H) No Ga Ha) := In.ok ok
    have hsub : (pl : Int) - (k : Int) = ((j : Nat) : Int) := by omega
    obtain ⟨s1, s2⟩ := sub k
    have pm : ∀ {ds : List (Option Dt)}, ds[11]? = some (some (.int (pl : Nat))) → ds[4]? = some (some (.int (k : Nat))) → EvD (tOp (rI0 fun i j => .int (i - j)) (tVar 11) (tVar 4)) (In (Bs No G H) No Ga Ha) ds (.int ((j : Nat) : Int)) := fun h1 h2 => EvD.is (ev_op ok2 (ev_var ok2 h1) (ev_var ok2 h2) (rv_int (g := fun i j => i - j) ok2)) (by rw [hsub])
    refine run_skip ok2 (EvT.is (et_and (p := decide ((k : Int) < 8)) (q := false) ok2 (et_test (ev_op ok2 (ev_var ok2 rfl) (ev_int ok2) (rv_cmp ok2))) (fun _ => EvT.is (et_not (et_B (ev_call ok2 (ea_cons ok2 (jn k ok2 rfl) (ea_cons ok2 (pm rfl rfl) (ea_cons ok2 (ev_var ok2 rfl) (ea_nil ok2)))) rfl (fun _ _ _ => ⟨_, j, wd, rest, rfl, text_len s1 (by omega), by rw [(split_lines s1 {} 0).2]; exact hfa, rfl⟩)))) rfl)) (Bool.and_false _)) ?_
    refine run_asg (d := .lst (tx (leftF ls (k + 1)))) ok2 (EvD.is (ev_op ok2 (EvD.is (ev_slice ok2 (ev_var ok2 rfl) (eo_none ok2) (eo_some (pm rfl rfl))) (by rw [cutD_L, tx_take])) (EvD.is (ev_slice ok2 (ev_var ok2 rfl) (eo_some (EvD.is (ev_op ok2 (pm rfl rfl) (ev_int ok2) (rv_int (g := fun i j => i + j) ok2)) (show _ = Dt.int ((j + 1 : Nat) : Int) by rw [Int.natCast_add]; rfl))) (eo_none ok2)) (by rw [cutD_R, tx_drop])) (EvN_ev2 ok2 (rn_cat ok2 (by rw [List.length_map, List.length_map, List.length_take, List.length_drop]; show _ ≤ 16000000; omega)))) (by rw [hcut, tx, tx, tx, List.map_append])) (fun G1 σ1 H1 k1 s1 => ⟨G1, k1.2, k1.1, s1.less ?_⟩)
    exact .keep (.keep (.keep (.keep (.gone (.keep (.keep (.keep (.keep (.keep (.keep (.gone (.gone (.keep .nil)))))))))))))
  rw [idxG_len]
  obtain ⟨e1, e2⟩ := leftF_end ls
  obtain ⟨s1, s2⟩ := sub (faultsBy {} 0 ls).length
  obtain ⟨e3, e4⟩ := split_lines s1 {} 0
  rw [e1] at e4
  rw [e2] at e3
  refine run_nx (run_setRH ok (ea_cons ok (jn _ ok rfl) (ea_nil ok)) (text_len s1 (by omega)) e4 (fun ha => ?_))
  rw [e3]
  have ok5 : Cok (fun G1 H1 => Bs No G H G1 H1 ∧ HallAt cl ha (toldBy {} ls) G1 H1) := ⟨fun c => ok.sub c.1, fun c p => ⟨ok.stp c.1 p, c.2.stp p fun _ _ z => z⟩⟩
  exact run_ret ok5 (ev_andV (p := true) (q := true) ok5 (ev_call ok5 (ea_cons ok5 (ev_var ok5 rfl) (ea_cons ok5 (ev_var ok5 rfl) (ea_nil ok5))) rfl (fun G1 H1 k => ⟨ha, _, rfl, k.2, fT, by omega, rfl⟩)) (fun _ => EvD.is (ev_op ok5 (ev_call ok5 (ea_cons ok5 (ev_var ok5 rfl) (ea_nil ok5)) rfl (fun G1 H1 k => ⟨ha, _, rfl, k.2, fT, by omega, rfl⟩)) (ev_call ok5 (ea_cons ok5 (ev_var ok5 rfl) (ea_nil ok5)) rfl (fun _ _ _ => ⟨_, rfl, fT, by omega, rfl⟩)) (rv_eq ok5 rfl)) (by rw [decide_eq_true rfl]))) rfl (fun v G3 H3 k3 r3 => hq v G3 H3 k3.1 r3)
end
end Kx

namespace Kx
open PySem L2
/-- a def of the text, from what the top has left -/
theorem dfn_mk {K : PySem.W.Frag} {h : Heap} {mg : Str → Option Value} {x : Str} {st : Stmt} {f : Addr} {oc : Value} {od an : Option Addr} {osl : Array (Option Value)} {kV doc pm cdv ct : Value} (X : K.In h) (G : h.Ns mainGlobals mg) (a : PySem.W.nsIn K mainGlobals x = some (some (.ref f)))
    (l : K.lookup f = some ⟨oc, od, .func (PySem.W.fnOf x x (defArgs st) (defBody st) (defScope st) .none kV doc pm an cdv ct), osl⟩) (c : PySem.W.codeIn K cdv x = true) (k : PySem.W.keepIn K (.ref f) = true) : Dfn K mg x st := ⟨f, _, PySem.W.mg_of X G a, fun_mk l c k⟩
/-- a class's own __init__ -/
theorem init_mk {K : PySem.W.Frag} {q : Str} {st : Stmt} {f : Addr} {oc : Value} {od an : Option Addr} {osl : Array (Option Value)} {kV doc pm cdv ct : Value}
    (l : K.lookup f = some ⟨oc, od, .func (PySem.W.fnOf "__init__" q (defArgs st) (defBody st) (defScope st) .none kV doc pm an cdv ct), osl⟩) (c : PySem.W.codeIn K cdv q = true) (k : PySem.W.keepIn K (.ref f) = true) : ∃ fd, Fun K "__init__" q st f fd := ⟨_, fun_mk l c k⟩
theorem blt_mk {K : PySem.W.Frag} {h : Heap} {mg : Str → Option Value} {t1 t2 : Tok} (X : K.In h) (G : h.Ns mainGlobals mg)
    (z : ∀ n ∈ (["len", "all", "int", "str", "list", "tuple", "bool", "dict", "isinstance", "range", "enumerate", "zip"] : List Str), PySem.W.nsIn K mainGlobals n = some none)
    (s : PySem.W.nsIn K mainGlobals "SIGNS" = some (some (.str "abcdefghijklmnopqrstuvwxyz0123456789" t1))) (f : PySem.W.nsIn K mainGlobals "FIGURES" = some (some (.str "0123456789" t2))) : Blt mg :=
  have g : ∀ n ∈ (["len", "all", "int", "str", "list", "tuple", "bool", "dict", "isinstance", "range", "enumerate", "zip"] : List Str), mg n = none := fun n hn => PySem.W.mg_none_of X G (z n hn)
  ⟨g _ (by simp), g _ (by simp), g _ (by simp), g _ (by simp), g _ (by simp), g _ (by simp), g _ (by simp), g _ (by simp), g _ (by simp), g _ (by simp), g _ (by simp), g _ (by simp), ⟨t1, PySem.W.mg_of X G s⟩, ⟨t2, PySem.W.mg_of X G f⟩⟩

theorem all_mk {P : Program} {w : World} {K : PySem.W.Frag} {mg : Str → Option Value} {fa cl cE cB fB fH c1 c2 c3 c4 : Addr} (hfa : mg "law" = some (.ref fa)) (B : Blt mg) (HK : HallK K cl) (HI : HallI K cl) (gH : mg "Hall" = some (.ref cl)) (M : Mk K cl fH) (T : BadK K mg cE cB fB) (BI : BadI K mg cB c1 c2 c3 c4)
    (EH : ∃ fd, Fun K "__init__" "Hall.__init__" s_Hall_init fH fd) (EB : ∃ fd, Fun K "__init__" "BadHall.__init__" s_Bad_init fB fd)
    (D_is_name : Dfn K mg "is_name" s_is_name) (D_number_of : Dfn K mg "number_of" s_number_of) (D_signed_of : Dfn K mg "signed_of" s_signed_of) (D_is_item : Dfn K mg "is_item" s_is_item) (D_words_of : Dfn K mg "words_of" s_words_of) (D_first_due : Dfn K mg "first_due" s_first_due) (D_all_names : Dfn K mg "all_names" s_all_names) (D_lacking : Dfn K mg "lacking" s_lacking) (D_spots_of : Dfn K mg "spots_of" s_spots_of) (D_item_lacks : Dfn K mg "item_lacks" s_item_lacks) (D_shape_row : Dfn K mg "shape_row" s_shape_row) (D_mark_row : Dfn K mg "mark_row" s_mark_row) (D_point_row : Dfn K mg "point_row" s_point_row) (D_faces_due : Dfn K mg "faces_due" s_faces_due) (D_letter_row : Dfn K mg "letter_row" s_letter_row) (D_gap_row : Dfn K mg "gap_row" s_gap_row) (D_class_row : Dfn K mg "class_row" s_class_row) (D_feature_row : Dfn K mg "feature_row" s_feature_row) (D_parted : Dfn K mg "parted" s_parted) (D_rule_parts : Dfn K mg "rule_parts" s_rule_parts) (D_rule_row : Dfn K mg "rule_row" s_rule_row) (D_hall_row : Dfn K mg "hall_row" s_hall_row) (D_read_hall : Dfn K mg "read_hall" s_read_hall) (D_law_cell_at : Dfn K mg "_law_cell_at" s_law_cell_at) (D_law_mixed : Dfn K mg "_law_mixed" s_law_mixed) (D_law_pair_text : Dfn K mg "_law_pair_text" s_law_pair_text) (D_law_rule_text : Dfn K mg "_law_rule_text" s_law_rule_text) (D_law_hall_text : Dfn K mg "_law_hall_text" s_law_hall_text) (D_law_some : Dfn K mg "_law_some" s_law_some) (D_law_item : Dfn K mg "_law_item" s_law_item) (D_law_row_words : Dfn K mg "_law_row_words" s_law_row_words) (D_law_spoilt : Dfn K mg "_law_spoilt" s_law_spoilt) (D_law_is_name : Dfn K mg "_law_is_name" s_law_is_name) (D_law_is_number : Dfn K mg "_law_is_number" s_law_is_number) (D_law_is_signed : Dfn K mg "_law_is_signed" s_law_is_signed) (D_law_rule_parts : Dfn K mg "_law_rule_parts" s_law_rule_parts) (D_law_form : Dfn K mg "_law_form" s_law_form) (D_law_lacks : Dfn K mg "_law_lacks" s_law_lacks) (D_law_put : Dfn K mg "_law_put" s_law_put) (D_law_word : Dfn K mg "_law_word" s_law_word) (D_law_judged : Dfn K mg "_law_judged" s_law_judged) (D_row_of : Dfn K mg "row_of" s_row_of) (D_rule_words : Dfn K mg "rule_words" s_rule_words) (D_hall_text : Dfn K mg "hall_text" s_hall_text) (D_law_alike : Dfn K mg "_law_alike" s_law_alike) (D_law_dict_is : Dfn K mg "_law_dict_is" s_law_dict_is) (D_law_hall_is : Dfn K mg "_law_hall_is" s_law_hall_is) (D_law_fault : Dfn K mg "_law_fault" s_law_fault) (D_law : Dfn K mg "law" s_law) :
    ∃ fd : FuncData, (∀ (s : Shared) (u : Value), BindsTo s fd ⟨[u], []⟩ [("_law_script", u)]) ∧ ∀ base : Heap, FnOk P w K mg base CX0 8 fa fd ["_law_script"] (spLaw K) := by
  obtain ⟨fdH, FH⟩ := EH
  obtain ⟨fdB, FB⟩ := EB
  have bH := FH.binds (ps := N_Hall_init) (fun _ _ _ _ _ _ us hl => match us, hl with | [_], _ => rfl)
  have bB := FB.binds (ps := N_Bad_init) (fun _ _ _ _ _ _ us hl => match us, hl with | [_, _, _], _ => rfl)
  obtain ⟨fR, fdR, gR, FR⟩ := D_read_hall.ex
  obtain ⟨fL, fdL, gL, FL⟩ := D_law.ex
  have e := hfa.symm.trans gL
  cases e
  refine ⟨fdL, fun s u => ?_, fun base => ?_⟩
  · obtain ⟨oc, od, kV, doc, pm, an, cdv, ct, osl, rfl, _, _⟩ := FL.ex
    exact .of_eq rfl

  have C_is_name := cal_is_name (P := P) (w := w) (base := base) B D_is_name
  have C_number_of := cal_number_of (P := P) (w := w) (base := base) B D_number_of
  have C_signed_of := cal_signed_of (P := P) (w := w) (base := base) B D_signed_of C_number_of
  have C_is_item := cal_is_item (P := P) (w := w) (base := base) B D_is_item C_is_name
  have C_words_of := cal_words_of (P := P) (w := w) (base := base) B D_words_of
  have C_first_due := cal_first_due (P := P) (w := w) (base := base) B D_first_due
  have C_all_names := cal_all_names (P := P) (w := w) (base := base) B D_all_names C_is_name
  have C_lacking := cal_lacking (P := P) (w := w) (base := base) B D_lacking
  have C_spots_of := cal_spots_of (P := P) (w := w) (base := base) B D_spots_of C_signed_of
  have C_item_lacks := cal_item_lacks (P := P) (w := w) (base := base) HK D_item_lacks
  have C_shape_row := cal_shape_row (P := P) (w := w) (base := base) B HK D_shape_row C_is_name C_number_of C_first_due
  have C_mark_row := cal_mark_row (P := P) (w := w) (base := base) B HK D_mark_row C_is_name C_spots_of C_first_due
  have C_point_row := cal_point_row (P := P) (w := w) (base := base) B HK D_point_row C_is_name C_spots_of C_first_due
  have C_faces_due := cal_faces_due (P := P) (w := w) (base := base) B D_faces_due
  have C_letter_row := cal_letter_row (P := P) (w := w) (base := base) B HK D_letter_row C_is_name C_faces_due C_all_names C_lacking C_first_due
  have C_gap_row := cal_gap_row (P := P) (w := w) (base := base) B HK D_gap_row C_is_name C_first_due
  have C_class_row := cal_class_row (P := P) (w := w) (base := base) B HK D_class_row C_all_names C_lacking C_first_due
  have C_feature_row := cal_feature_row (P := P) (w := w) (base := base) B HK D_feature_row C_is_name C_first_due
  have C_parted := cal_parted (P := P) (w := w) (base := base) B D_parted
  have C_rule_parts := cal_rule_parts (P := P) (w := w) (base := base) B D_rule_parts C_parted C_all_names C_is_item
  have C_rule_row := cal_rule_row (P := P) (w := w) (base := base) B HK D_rule_row C_all_names C_rule_parts C_lacking C_item_lacks C_first_due
  have C_hall_row := cal_hall_row (P := P) (w := w) (base := base) B D_hall_row C_shape_row C_mark_row C_point_row C_letter_row C_gap_row C_class_row C_feature_row C_rule_row
  have bR := FR.binds (ps := P_read_hall) (fun _ _ _ _ _ _ us hl => match us, hl with | [_], _ => rfl)
  have GR := ok_read_hall (P := P) (w := w) (base := base) B HK T M gH FH FB bH bB C_words_of C_hall_row FR
  have C_read_hall : Cal P w K mg base "read_hall" 6 P_read_hall (spReadQ cl cB) := ⟨fR, fdR, FnOk.quiet GR, gR, FR.kp, bR⟩
  have C_law_cell_at := cal_law_cell_at (P := P) (w := w) (base := base) B D_law_cell_at
  have C_law_mixed := cal_law_mixed (P := P) (w := w) (base := base) B D_law_mixed
  have C_law_pair_text := cal_law_pair_text (P := P) (w := w) (base := base) B D_law_pair_text
  have C_law_rule_text := cal_law_rule_text (P := P) (w := w) (base := base) B D_law_rule_text
  have C_law_hall_text := cal_law_hall_text (P := P) (w := w) (base := base) B D_law_hall_text C_law_pair_text C_law_rule_text
  have C_law_some := cal_law_some (P := P) (w := w) (base := base) B D_law_some
  have C_law_item := cal_law_item (P := P) (w := w) (base := base) B D_law_item C_law_some
  have C_law_row_words := cal_law_row_words (P := P) (w := w) (base := base) B D_law_row_words C_law_some C_law_item
  have C_law_spoilt := cal_law_spoilt (P := P) (w := w) (base := base) B D_law_spoilt
  have C_law_is_name := cal_law_is_name (P := P) (w := w) (base := base) B D_law_is_name
  have C_law_is_number := cal_law_is_number (P := P) (w := w) (base := base) B D_law_is_number
  have C_law_is_signed := cal_law_is_signed (P := P) (w := w) (base := base) B D_law_is_signed C_law_is_number
  have C_law_rule_parts := cal_law_rule_parts (P := P) (w := w) (base := base) B D_law_rule_parts C_law_is_name
  have C_law_form := cal_law_form (P := P) (w := w) (base := base) B D_law_form C_law_is_name C_law_is_number C_law_is_signed C_law_rule_parts
  have C_law_lacks := cal_law_lacks (P := P) (w := w) (base := base) B D_law_lacks C_law_rule_parts
  have C_law_put := cal_law_put (P := P) (w := w) (base := base) B D_law_put C_law_rule_parts
  have C_law_word := cal_law_word (P := P) (w := w) (base := base) B D_law_word C_law_form C_law_lacks C_law_put
  have C_law_judged := cal_law_judged (P := P) (w := w) (base := base) B D_law_judged C_law_word
  have C_row_of := cal_row_of (P := P) (w := w) (base := base) B D_row_of
  have C_rule_words := cal_rule_words (P := P) (w := w) (base := base) B D_rule_words
  have C_hall_text := cal_hall_text (P := P) (w := w) (base := base) B HK D_hall_text C_row_of C_rule_words
  have C_law_alike := cal_law_alike (P := P) (w := w) (base := base) B D_law_alike 4
  have C_law_dict_isK := cal_law_dict_isK (P := P) (w := w) (base := base) (n := 4) B D_law_dict_is C_law_alike
  have C_law_dict_isT := cal_law_dict_isT (P := P) (w := w) (base := base) (n := 4) B D_law_dict_is C_law_alike
  have C_law_hall_is := cal_law_hall_is (P := P) (w := w) (base := base) B HK HI gH D_law_hall_is C_law_alike C_law_dict_isK C_law_dict_isT
  have C_law_fault := cal_law_fault (P := P) (w := w) (base := base) B T BI D_law_fault C_law_alike GR gR FR.kp bR
  exact ok_law B FL C_law_cell_at C_law_mixed C_law_row_words C_law_spoilt C_law_judged C_law_fault C_read_hall C_law_hall_is C_hall_text C_law_hall_text
end Kx

namespace Kx
open PySem L2
theorem fin_mk {P : Program} {w : World} {K : PySem.W.Frag} {h : Heap} {mg : Str → Option Value} {fa cl cE cB fB fH c1 c2 c3 c4 : Addr} (X : K.In h) (G : h.Ns mainGlobals mg) (hfa : mg "law" = some (.ref fa))
    {oc1 kV1 dc1 pm1 cd1 ct1 oc2 kV2 dc2 pm2 cd2 ct2 : Value} {od1 an1 od2 an2 : Option Addr} {sl1 sl2 : Array (Option Value)} {t1 t2 : Tok}
    {nm q : Str} {N : Addr} {bs bm : List Value} {sn : List Str} {sub : List Value} {ab : Bool} {col : Option Bool} {dd : Option Addr} {k0 k1 k2 k3 k5 : Option Value}
    (D_is_name : Dfn K mg "is_name" s_is_name) (D_number_of : Dfn K mg "number_of" s_number_of) (D_signed_of : Dfn K mg "signed_of" s_signed_of) (D_is_item : Dfn K mg "is_item" s_is_item) (D_words_of : Dfn K mg "words_of" s_words_of) (D_first_due : Dfn K mg "first_due" s_first_due) (D_all_names : Dfn K mg "all_names" s_all_names) (D_lacking : Dfn K mg "lacking" s_lacking) (D_spots_of : Dfn K mg "spots_of" s_spots_of) (D_item_lacks : Dfn K mg "item_lacks" s_item_lacks) (D_shape_row : Dfn K mg "shape_row" s_shape_row) (D_mark_row : Dfn K mg "mark_row" s_mark_row) (D_point_row : Dfn K mg "point_row" s_point_row) (D_faces_due : Dfn K mg "faces_due" s_faces_due) (D_letter_row : Dfn K mg "letter_row" s_letter_row) (D_gap_row : Dfn K mg "gap_row" s_gap_row) (D_class_row : Dfn K mg "class_row" s_class_row) (D_feature_row : Dfn K mg "feature_row" s_feature_row) (D_parted : Dfn K mg "parted" s_parted) (D_rule_parts : Dfn K mg "rule_parts" s_rule_parts) (D_rule_row : Dfn K mg "rule_row" s_rule_row) (D_hall_row : Dfn K mg "hall_row" s_hall_row) (D_read_hall : Dfn K mg "read_hall" s_read_hall) (D_law_cell_at : Dfn K mg "_law_cell_at" s_law_cell_at) (D_law_mixed : Dfn K mg "_law_mixed" s_law_mixed) (D_law_pair_text : Dfn K mg "_law_pair_text" s_law_pair_text) (D_law_rule_text : Dfn K mg "_law_rule_text" s_law_rule_text) (D_law_hall_text : Dfn K mg "_law_hall_text" s_law_hall_text) (D_law_some : Dfn K mg "_law_some" s_law_some) (D_law_item : Dfn K mg "_law_item" s_law_item) (D_law_row_words : Dfn K mg "_law_row_words" s_law_row_words) (D_law_spoilt : Dfn K mg "_law_spoilt" s_law_spoilt) (D_law_is_name : Dfn K mg "_law_is_name" s_law_is_name) (D_law_is_number : Dfn K mg "_law_is_number" s_law_is_number) (D_law_is_signed : Dfn K mg "_law_is_signed" s_law_is_signed) (D_law_rule_parts : Dfn K mg "_law_rule_parts" s_law_rule_parts) (D_law_form : Dfn K mg "_law_form" s_law_form) (D_law_lacks : Dfn K mg "_law_lacks" s_law_lacks) (D_law_put : Dfn K mg "_law_put" s_law_put) (D_law_word : Dfn K mg "_law_word" s_law_word) (D_law_judged : Dfn K mg "_law_judged" s_law_judged) (D_row_of : Dfn K mg "row_of" s_row_of) (D_rule_words : Dfn K mg "rule_words" s_rule_words) (D_hall_text : Dfn K mg "hall_text" s_hall_text) (D_law_alike : Dfn K mg "_law_alike" s_law_alike) (D_law_dict_is : Dfn K mg "_law_dict_is" s_law_dict_is) (D_law_hall_is : Dfn K mg "_law_hall_is" s_law_hall_is) (D_law_fault : Dfn K mg "_law_fault" s_law_fault) (D_law : Dfn K mg "law" s_law)
    (aHall : PySem.W.nsIn K mainGlobals "Hall" = some (some (.ref cl)))
    (aErr : PySem.W.nsIn K mainGlobals "HallError" = some (some (.ref cE)))
    (aBad : PySem.W.nsIn K mainGlobals "BadHall" = some (some (.ref cB)))
    (aD : PySem.W.nsIn K mainGlobals "BadDeed" = some (some (.ref c1)))
    (aF : PySem.W.nsIn K mainGlobals "NoFeature" = some (some (.ref c2)))
    (aL : PySem.W.nsIn K mainGlobals "NoLetter" = some (some (.ref c3)))
    (aR : PySem.W.nsIn K mainGlobals "NoRow" = some (some (.ref c4)))
    (pg : PySem.W.plainGet K cl Str.empty = true)
    (hd : PySem.W.hasDictIn K cl = true)
    (po : PySem.W.plainOver K cl = true)
    (sa : PySem.W.findIn K (.ref cl) "__setattr__" = some (some (.builtin "object.__setattr__")))
    (n_shapes : PySem.W.findIn K (.ref cl) "shapes" = some none)
    (n_marks : PySem.W.findIn K (.ref cl) "marks" = some none)
    (n_points : PySem.W.findIn K (.ref cl) "points" = some none)
    (n_letters : PySem.W.findIn K (.ref cl) "letters" = some none)
    (n_gaps : PySem.W.findIn K (.ref cl) "gaps" = some none)
    (n_classes : PySem.W.findIn K (.ref cl) "classes" = some none)
    (n_features : PySem.W.findIn K (.ref cl) "features" = some none)
    (n_rules : PySem.W.findIn K (.ref cl) "rules" = some none)
    (ha : PySem.W.findIn K (.ref cl) "__class__" = some (some (.builtin "object.__class__")))
    (hn : PySem.W.specialIn K (.builtin "object.__class__") "__get__" = some (some (.builtin "getset_descriptor.__get__")))
    (ht : PySem.W.takesIn K (.builtin "object.__class__") = some true)
    (hm : PySem.W.mroIn K cl (.type "object") = some true)
    (hme : PySem.W.kitOne K (.ref cl) (.ref cl) = some true)
    (mk : PySem.W.makesIn K cl = true)
    (iH : PySem.W.findIn K (.ref cl) "__init__" = some (some (.ref fH)))
    (fnH : PySem.W.isFn K (.ref fH) = true)
    (kH : PySem.W.keepIn K (.ref cl) = true)
    (lH : K.lookup fH = some ⟨oc1, od1, .func (PySem.W.fnOf "__init__" "Hall.__init__" (defArgs s_Hall_init) (defBody s_Hall_init) (defScope s_Hall_init) .none kV1 dc1 pm1 an1 cd1 ct1), sl1⟩)
    (cH : PySem.W.codeIn K cd1 "Hall.__init__" = true)
    (kfH : PySem.W.keepIn K (.ref fH) = true)
    (rd : PySem.W.readsIn K cE (.type "type") = true)
    (ga : PySem.W.specialIn K (.ref cE) "__getattribute__" = some (some (.builtin "type.__getattribute__")))
    (vV : PySem.W.findCls K (.ref cE) (.type "type") "__init__" = some (.val (.builtin "ValueError.__init__")))
    (xL : K.lookup cB = some (excClassObj nm q cB N bs bm true sn sub ab col dd k0 k1 k2 k3 k5 "ValueError.__new__"))
    (xR : PySem.HandSPX.refsVE bm = true)
    (xs : PySem.W.findIn K (.ref cB) "__setattr__" = some (some (.builtin "object.__setattr__")))
    (xe : PySem.W.subIn K (.ref cB) (.type "BaseException") = some true)
    (xt : PySem.W.typeIn K (.ref cB) = some (.type "type"))
    (xk : PySem.W.keepIn K (.ref cB) = true)
    (nP : PySem.W.findIn K (.ref cB) "place" = some none)
    (nW : PySem.W.findIn K (.ref cB) "word" = some none)
    (iB : PySem.W.findIn K (.ref cB) "__init__" = some (some (.ref fB)))
    (tB : PySem.W.typeIn K (.ref fB) = some (.type "function"))
    (lB : K.lookup fB = some ⟨oc2, od2, .func (PySem.W.fnOf "__init__" "BadHall.__init__" (defArgs s_Bad_init) (defBody s_Bad_init) (defScope s_Bad_init) .none kV2 dc2 pm2 an2 cd2 ct2), sl2⟩)
    (cBi : PySem.W.codeIn K cd2 "BadHall.__init__" = true)
    (kfB : PySem.W.keepIn K (.ref fB) = true)
    (xga : PySem.W.findIn K (.ref cB) "__getattribute__" = some (some (.builtin "BaseException.__getattribute__")))
    (xgt : PySem.W.findIn K (.ref cB) "__getattr__" = some none)
    (xd : PySem.W.hasDictIn K cB = true)
    (xc : PySem.W.findIn K (.ref cB) "__class__" = some (some (.builtin "object.__class__")))
    (xo : PySem.W.mroIn K cB (.type "object") = some true)
    (exm : PySem.W.exmOne K (.ref cB) (.ref cE) = some true)
    (bme : PySem.W.kitOne K (.ref cB) (.ref cB) = some true)
    (bve : PySem.W.kitOne K (.ref cB) (.type "ValueError") = some true)
    (bno : PySem.W.kitAny K (.ref cB) [.ref c1, .ref c2, .ref c3, .ref c4] = some false)
    (bv : PySem.W.nsIn K mainGlobals "ValueError" = some none)
    (z_len : PySem.W.nsIn K mainGlobals "len" = some none)
    (z_all : PySem.W.nsIn K mainGlobals "all" = some none)
    (z_int : PySem.W.nsIn K mainGlobals "int" = some none)
    (z_str : PySem.W.nsIn K mainGlobals "str" = some none)
    (z_list : PySem.W.nsIn K mainGlobals "list" = some none)
    (z_tuple : PySem.W.nsIn K mainGlobals "tuple" = some none)
    (z_bool : PySem.W.nsIn K mainGlobals "bool" = some none)
    (z_dict : PySem.W.nsIn K mainGlobals "dict" = some none)
    (z_isinstance : PySem.W.nsIn K mainGlobals "isinstance" = some none)
    (z_range : PySem.W.nsIn K mainGlobals "range" = some none)
    (z_enumerate : PySem.W.nsIn K mainGlobals "enumerate" = some none)
    (z_zip : PySem.W.nsIn K mainGlobals "zip" = some none)
    (cS : PySem.W.nsIn K mainGlobals "SIGNS" = some (some (.str "abcdefghijklmnopqrstuvwxyz0123456789" t1)))
    (cF : PySem.W.nsIn K mainGlobals "FIGURES" = some (some (.str "0123456789" t2))) :
    ∃ fd : FuncData, (∀ (s : Shared) (u : Value), BindsTo s fd ⟨[u], []⟩ [("_law_script", u)]) ∧ ∀ base : Heap, FnOk P w K mg base CX0 8 fa fd ["_law_script"] (spLaw K) :=
  have g : ∀ {n : Str} {v : Value}, PySem.W.nsIn K mainGlobals n = some (some v) → mg n = some v := fun a => PySem.W.mg_of X G a
  have z : ∀ {n : Str}, PySem.W.nsIn K mainGlobals n = some none → mg n = none := fun a => PySem.W.mg_none_of X G a
  have B : Blt mg := ⟨z z_len, z z_all, z z_int, z z_str, z z_list, z z_tuple, z z_bool, z z_dict, z z_isinstance, z z_range, z z_enumerate, z z_zip, ⟨t1, g cS⟩, ⟨t2, g cF⟩⟩
  have HK : HallK K cl := ⟨⟨pg, hd, po, sa⟩, n_shapes, n_marks, n_points, n_letters, n_gaps, n_classes, n_features, n_rules⟩
  have HI : HallI K cl := ⟨ha, hn, ht, hm, hme⟩
  have M : Mk K cl fH := ⟨mk, iH, fnH, kH⟩
  have T : BadK K mg cE cB fB := ⟨g aErr, g aBad, rd, ga, vV, ⟨⟨nm, q, N, bs, bm, sn, sub, ab, col, dd, k0, k1, k2, k3, k5, xL, xR⟩, xs, xe, xt, xk⟩, nP, nW, iB, tB, ⟨xga, xgt, xe, xd, xc, hn, ht, xo⟩, exm⟩
  have BI : BadI K mg cB c1 c2 c3 c4 := ⟨bme, bve, bno, g aD, g aF, g aL, g aR, z bv⟩
  all_mk hfa B HK HI (g aHall) M T BI (init_mk lH cH kfH) (init_mk lB cBi kfB) D_is_name D_number_of D_signed_of D_is_item D_words_of D_first_due D_all_names D_lacking D_spots_of D_item_lacks D_shape_row D_mark_row D_point_row D_faces_due D_letter_row D_gap_row D_class_row D_feature_row D_parted D_rule_parts D_rule_row D_hall_row D_read_hall D_law_cell_at D_law_mixed D_law_pair_text D_law_rule_text D_law_hall_text D_law_some D_law_item D_law_row_words D_law_spoilt D_law_is_name D_law_is_number D_law_is_signed D_law_rule_parts D_law_form D_law_lacks D_law_put D_law_word D_law_judged D_row_of D_rule_words D_hall_text D_law_alike D_law_dict_is D_law_hall_is D_law_fault D_law

theorem walk {l : PySem.W.OpenLaw} {q : Program} {loose : List Str} {XP : (Str → Option Value) → Heap → Prop} {YP : World → Heap → Prop} {d : DefRec} {K : Params → PySem.W.Frag} (hn : l.most = some 63) (hdf : d.params.defaults = [])
    (hY : ∀ (w : World) (h : Heap), YP w h → (K w.params).In h)
    (F : ∀ (w : World) (mg : Str → Option Value) (fa : Addr) (h : Heap), (K w.params).In h → h.Ns mainGlobals mg → mg d.name = some (.ref fa) →
      ∃ fd : FuncData, (∀ (s : Shared) (u : Value), BindsTo s fd ⟨[u], []⟩ [("_law_script", u)]) ∧ ∀ base : Heap, FnOk l.prog w (K w.params) mg base CX0 8 fa fd ["_law_script"] (spLaw (K w.params))) :
    PySem.W.WalkO q loose XP YP l.row.toRowW d [] (fun f vs => PySem.call f vs) :=
  L2.walk_of (n := 63) (k := 8) (x := "_law_script") (CX := fun _ => CX0) (sp := fun w => spLaw (K w.params)) hn (by decide) hdf ⟨rfl, by decide, by decide⟩ hY (fun w mg fa h a b c => by
    obtain ⟨fd, h1, h2⟩ := F w mg fa h a b c
    exact ⟨fd, h1, fun base _ _ => h2 base⟩) (fun w H a ns hl _ hS => ⟨fun _ => none, [.obj a], .bl true, (fun b o e => by cases e), .cons (.obj a) .nil, rfl, ⟨a, ns, rfl, hS, hl, rfl⟩, fun v G' H' _ r => by cases r; rfl⟩) fun _ _ _ _ _ z => z
end Kx

open PySem PySem.W PyProof.Rows in
set_option maxRecDepth 100000 in
set_option maxHeartbeats 0 in
theorem PySem.Challenge.cw_glyphhall_k08_whole_texts_holds : PySem.Challenge.rw_glyphhall_k08_whole_texts.Holds := by
  w_on; o_law; k_head; (case hw => w_witness2)
  k_fill
  refine Kx.walk (l := PySem.Challenge.rw_glyphhall_k08_whole_texts) rfl rfl (fun w h Y => PySem.W.kIn_of Y) ?F
  case F =>
    intro w mg fa h KX G hmg
    refine' Kx.fin_mk KX G hmg ?D_is_name ?D_number_of ?D_signed_of ?D_is_item ?D_words_of ?D_first_due ?D_all_names ?D_lacking ?D_spots_of ?D_item_lacks ?D_shape_row ?D_mark_row ?D_point_row ?D_faces_due ?D_letter_row ?D_gap_row ?D_class_row ?D_feature_row ?D_parted ?D_rule_parts ?D_rule_row ?D_hall_row ?D_read_hall ?D_law_cell_at ?D_law_mixed ?D_law_pair_text ?D_law_rule_text ?D_law_hall_text ?D_law_some ?D_law_item ?D_law_row_words ?D_law_spoilt ?D_law_is_name ?D_law_is_number ?D_law_is_signed ?D_law_rule_parts ?D_law_form ?D_law_lacks ?D_law_put ?D_law_word ?D_law_judged ?D_row_of ?D_rule_words ?D_hall_text ?D_law_alike ?D_law_dict_is ?D_law_hall_is ?D_law_fault ?D_law ?aHall ?aErr ?aBad ?aD ?aF ?aL ?aR ?pg ?hd ?po ?sa ?n_shapes ?n_marks ?n_points ?n_letters ?n_gaps ?n_classes ?n_features ?n_rules ?ha ?hn ?ht ?hm ?hme ?mk ?iH ?fnH ?kH ?lH ?cH ?kfH ?rd ?ga ?vV ?xL ?xR ?xs ?xe ?xt ?xk ?nP ?nW ?iB ?tB ?lB ?cBi ?kfB ?xga ?xgt ?xd ?xc ?xo ?exm ?bme ?bve ?bno ?bv ?z_len ?z_all ?z_int ?z_str ?z_list ?z_tuple ?z_bool ?z_dict ?z_isinstance ?z_range ?z_enumerate ?z_zip ?cS ?cF
    (case D_is_name => (refine' Kx.dfn_mk KX G ?a ?l ?c ?k; (case a => k_is); (case l => k_is); (case c => k_is); (case k => k_is)))
    (case D_number_of => (refine' Kx.dfn_mk KX G ?a ?l ?c ?k; (case a => k_is); (case l => k_is); (case c => k_is); (case k => k_is)))
    (case D_signed_of => (refine' Kx.dfn_mk KX G ?a ?l ?c ?k; (case a => k_is); (case l => k_is); (case c => k_is); (case k => k_is)))
    (case D_is_item => (refine' Kx.dfn_mk KX G ?a ?l ?c ?k; (case a => k_is); (case l => k_is); (case c => k_is); (case k => k_is)))
    (case D_words_of => (refine' Kx.dfn_mk KX G ?a ?l ?c ?k; (case a => k_is); (case l => k_is); (case c => k_is); (case k => k_is)))
    (case D_first_due => (refine' Kx.dfn_mk KX G ?a ?l ?c ?k; (case a => k_is); (case l => k_is); (case c => k_is); (case k => k_is)))
    (case D_all_names => (refine' Kx.dfn_mk KX G ?a ?l ?c ?k; (case a => k_is); (case l => k_is); (case c => k_is); (case k => k_is)))
    (case D_lacking => (refine' Kx.dfn_mk KX G ?a ?l ?c ?k; (case a => k_is); (case l => k_is); (case c => k_is); (case k => k_is)))
    (case D_spots_of => (refine' Kx.dfn_mk KX G ?a ?l ?c ?k; (case a => k_is); (case l => k_is); (case c => k_is); (case k => k_is)))
    (case D_item_lacks => (refine' Kx.dfn_mk KX G ?a ?l ?c ?k; (case a => k_is); (case l => k_is); (case c => k_is); (case k => k_is)))
    (case D_shape_row => (refine' Kx.dfn_mk KX G ?a ?l ?c ?k; (case a => k_is); (case l => k_is); (case c => k_is); (case k => k_is)))
    (case D_mark_row => (refine' Kx.dfn_mk KX G ?a ?l ?c ?k; (case a => k_is); (case l => k_is); (case c => k_is); (case k => k_is)))
    (case D_point_row => (refine' Kx.dfn_mk KX G ?a ?l ?c ?k; (case a => k_is); (case l => k_is); (case c => k_is); (case k => k_is)))
    (case D_faces_due => (refine' Kx.dfn_mk KX G ?a ?l ?c ?k; (case a => k_is); (case l => k_is); (case c => k_is); (case k => k_is)))
    (case D_letter_row => (refine' Kx.dfn_mk KX G ?a ?l ?c ?k; (case a => k_is); (case l => k_is); (case c => k_is); (case k => k_is)))
    (case D_gap_row => (refine' Kx.dfn_mk KX G ?a ?l ?c ?k; (case a => k_is); (case l => k_is); (case c => k_is); (case k => k_is)))
    (case D_class_row => (refine' Kx.dfn_mk KX G ?a ?l ?c ?k; (case a => k_is); (case l => k_is); (case c => k_is); (case k => k_is)))
    (case D_feature_row => (refine' Kx.dfn_mk KX G ?a ?l ?c ?k; (case a => k_is); (case l => k_is); (case c => k_is); (case k => k_is)))
    (case D_parted => (refine' Kx.dfn_mk KX G ?a ?l ?c ?k; (case a => k_is); (case l => k_is); (case c => k_is); (case k => k_is)))
    (case D_rule_parts => (refine' Kx.dfn_mk KX G ?a ?l ?c ?k; (case a => k_is); (case l => k_is); (case c => k_is); (case k => k_is)))
    (case D_rule_row => (refine' Kx.dfn_mk KX G ?a ?l ?c ?k; (case a => k_is); (case l => k_is); (case c => k_is); (case k => k_is)))
    (case D_hall_row => (refine' Kx.dfn_mk KX G ?a ?l ?c ?k; (case a => k_is); (case l => k_is); (case c => k_is); (case k => k_is)))
    (case D_read_hall => (refine' Kx.dfn_mk KX G ?a ?l ?c ?k; (case a => k_is); (case l => k_is); (case c => k_is); (case k => k_is)))
    (case D_law_cell_at => (refine' Kx.dfn_mk KX G ?a ?l ?c ?k; (case a => k_is); (case l => k_is); (case c => k_is); (case k => k_is)))
    (case D_law_mixed => (refine' Kx.dfn_mk KX G ?a ?l ?c ?k; (case a => k_is); (case l => k_is); (case c => k_is); (case k => k_is)))
    (case D_law_pair_text => (refine' Kx.dfn_mk KX G ?a ?l ?c ?k; (case a => k_is); (case l => k_is); (case c => k_is); (case k => k_is)))
    (case D_law_rule_text => (refine' Kx.dfn_mk KX G ?a ?l ?c ?k; (case a => k_is); (case l => k_is); (case c => k_is); (case k => k_is)))
    (case D_law_hall_text => (refine' Kx.dfn_mk KX G ?a ?l ?c ?k; (case a => k_is); (case l => k_is); (case c => k_is); (case k => k_is)))
    (case D_law_some => (refine' Kx.dfn_mk KX G ?a ?l ?c ?k; (case a => k_is); (case l => k_is); (case c => k_is); (case k => k_is)))
    (case D_law_item => (refine' Kx.dfn_mk KX G ?a ?l ?c ?k; (case a => k_is); (case l => k_is); (case c => k_is); (case k => k_is)))
    (case D_law_row_words => (refine' Kx.dfn_mk KX G ?a ?l ?c ?k; (case a => k_is); (case l => k_is); (case c => k_is); (case k => k_is)))
    (case D_law_spoilt => (refine' Kx.dfn_mk KX G ?a ?l ?c ?k; (case a => k_is); (case l => k_is); (case c => k_is); (case k => k_is)))
    (case D_law_is_name => (refine' Kx.dfn_mk KX G ?a ?l ?c ?k; (case a => k_is); (case l => k_is); (case c => k_is); (case k => k_is)))
    (case D_law_is_number => (refine' Kx.dfn_mk KX G ?a ?l ?c ?k; (case a => k_is); (case l => k_is); (case c => k_is); (case k => k_is)))
    (case D_law_is_signed => (refine' Kx.dfn_mk KX G ?a ?l ?c ?k; (case a => k_is); (case l => k_is); (case c => k_is); (case k => k_is)))
    (case D_law_rule_parts => (refine' Kx.dfn_mk KX G ?a ?l ?c ?k; (case a => k_is); (case l => k_is); (case c => k_is); (case k => k_is)))
    (case D_law_form => (refine' Kx.dfn_mk KX G ?a ?l ?c ?k; (case a => k_is); (case l => k_is); (case c => k_is); (case k => k_is)))
    (case D_law_lacks => (refine' Kx.dfn_mk KX G ?a ?l ?c ?k; (case a => k_is); (case l => k_is); (case c => k_is); (case k => k_is)))
    (case D_law_put => (refine' Kx.dfn_mk KX G ?a ?l ?c ?k; (case a => k_is); (case l => k_is); (case c => k_is); (case k => k_is)))
    (case D_law_word => (refine' Kx.dfn_mk KX G ?a ?l ?c ?k; (case a => k_is); (case l => k_is); (case c => k_is); (case k => k_is)))
    (case D_law_judged => (refine' Kx.dfn_mk KX G ?a ?l ?c ?k; (case a => k_is); (case l => k_is); (case c => k_is); (case k => k_is)))
    (case D_row_of => (refine' Kx.dfn_mk KX G ?a ?l ?c ?k; (case a => k_is); (case l => k_is); (case c => k_is); (case k => k_is)))
    (case D_rule_words => (refine' Kx.dfn_mk KX G ?a ?l ?c ?k; (case a => k_is); (case l => k_is); (case c => k_is); (case k => k_is)))
    (case D_hall_text => (refine' Kx.dfn_mk KX G ?a ?l ?c ?k; (case a => k_is); (case l => k_is); (case c => k_is); (case k => k_is)))
    (case D_law_alike => (refine' Kx.dfn_mk KX G ?a ?l ?c ?k; (case a => k_is); (case l => k_is); (case c => k_is); (case k => k_is)))
    (case D_law_dict_is => (refine' Kx.dfn_mk KX G ?a ?l ?c ?k; (case a => k_is); (case l => k_is); (case c => k_is); (case k => k_is)))
    (case D_law_hall_is => (refine' Kx.dfn_mk KX G ?a ?l ?c ?k; (case a => k_is); (case l => k_is); (case c => k_is); (case k => k_is)))
    (case D_law_fault => (refine' Kx.dfn_mk KX G ?a ?l ?c ?k; (case a => k_is); (case l => k_is); (case c => k_is); (case k => k_is)))
    (case D_law => (refine' Kx.dfn_mk KX G ?a ?l ?c ?k; (case a => k_is); (case l => k_is); (case c => k_is); (case k => k_is)))
    (case aHall => k_is)
    (case aErr => k_is)
    (case aBad => k_is)
    (case aD => k_is)
    (case aF => k_is)
    (case aL => k_is)
    (case aR => k_is)
    (case pg => k_is)
    (case hd => k_is)
    (case po => k_is)
    (case sa => k_is)
    (case n_shapes => k_is)
    (case n_marks => k_is)
    (case n_points => k_is)
    (case n_letters => k_is)
    (case n_gaps => k_is)
    (case n_classes => k_is)
    (case n_features => k_is)
    (case n_rules => k_is)
    (case ha => k_is)
    (case hn => k_is)
    (case ht => k_is)
    (case hm => k_is)
    (case hme => first | k_is | rfl | decide +kernel)
    (case mk => k_is)
    (case iH => k_is)
    (case fnH => k_is)
    (case kH => k_is)
    (case lH => k_is)
    (case cH => k_is)
    (case kfH => k_is)
    (case rd => k_is)
    (case ga => k_is)
    (case vV => k_is)
    (case xL => k_is)
    (case xR => decide +kernel)
    (case xs => k_is)
    (case xe => k_is)
    (case xt => k_is)
    (case xk => k_is)
    (case nP => k_is)
    (case nW => k_is)
    (case iB => k_is)
    (case tB => k_is)
    (case lB => k_is)
    (case cBi => k_is)
    (case kfB => k_is)
    (case xga => k_is)
    (case xgt => k_is)
    (case xd => k_is)
    (case xc => k_is)
    (case xo => k_is)
    (case exm => first | k_is | rfl | decide +kernel)
    (case bme => first | k_is | rfl | decide +kernel)
    (case bve => first | k_is | rfl | decide +kernel)
    (case bno => first | k_is | rfl | decide +kernel)
    (case bv => k_is)
    (case z_len => k_is)
    (case z_all => k_is)
    (case z_int => k_is)
    (case z_str => k_is)
    (case z_list => k_is)
    (case z_tuple => k_is)
    (case z_bool => k_is)
    (case z_dict => k_is)
    (case z_isinstance => k_is)
    (case z_range => k_is)
    (case z_enumerate => k_is)
    (case z_zip => k_is)
    (case cS => k_is)
    (case cF => k_is)
