import PyProof.Rows.All
import HandS.ForMost
import HandS.IsInst
import HandS.Style
import HandS.TupAny
import HandS.TupMul
import HandS.Wide
import HandS.SortRule
import HandS.Zip
import HandS.Flow
import HandS.Defaults
import HandS.MakeKwOnly
import KE.GoesEnum
import KE.GoesZip
import KE.GoesMore
import HandS.Head0
import HandS.Head1
import HandS.Head2
import HandS.HeadEnd
import HandS.HeadHook1
import HandS.HeadHook2
import PySem.Challenge.RW_holdrooms_k00_flats_have_one_form
set_option Elab.async false
set_option linter.all false
set_option maxRecDepth 100000
set_option maxHeartbeats 4000000
/-! PU, part 1: pure data, what represents it, the slots' relation. -/
namespace PU
open PySem PySem.Spec PyProof.Rows L2

inductive D where
  | non | bl (b : Bool) | int (i : Int) | str (x : Str)
  | lst (xs : List D) | tup (xs : List D)
  | ins (C : Addr) (ns : List Str) (xs : List D)

mutual
inductive Rp (K : PySem.W.Frag) (H : Hp) : V → D → Prop
  | non : Rp K H .non .non
  | bl (b : Bool) : Rp K H (.bl b) (.bl b)
  | int (i : Int) : Rp K H (.int i) (.int i)
  | str (x : Str) : Rp K H (.str x) (.str x)
  | lst {a : Addr} {vs : List V} {ds : List D} : H a = some (.lst vs) → RpL K H vs ds → Rp K H (.ref a) (.lst ds)
  | tup {a : Addr} {vs : List V} {ds : List D} : SqT K H a vs → RpL K H vs ds → Rp K H (.ref a) (.tup ds)
  | ins {a C dx : Addr} {ns : List Str} {vs : List V} {ds : List D} : H a = some (.ins C dx (ns.zip vs)) → ns.length = vs.length → RpL K H vs ds → Rp K H (.ref a) (.ins C ns ds)
inductive RpL (K : PySem.W.Frag) (H : Hp) : List V → List D → Prop
  | nil : RpL K H [] []
  | cons {v : V} {vs : List V} {d : D} {ds : List D} : Rp K H v d → RpL K H vs ds → RpL K H (v :: vs) (d :: ds)
end

theorem Same.seqT {K : PySem.W.Frag} {H H' : Hp} {a : Addr} {xs : List V} (e : Same H H') (h : SqT K H a xs) : SqT K H' a xs := by
  rcases h with (h | ⟨o, h⟩) | h
  · exact .inl (.inl (e _ _ h))
  · exact .inl (.inr ⟨o, e _ _ h⟩)
  · exact .inr h

section
variable {K : PySem.W.Frag} {H H' : Hp}
mutual
theorem Rp.mono (e : Same H H') : ∀ {d : D} {v : V}, Rp K H v d → Rp K H' v d
  | .non, _, h => by cases h; exact .non
  | .bl _, _, h => by cases h; exact .bl _
  | .int _, _, h => by cases h; exact .int _
  | .str _, _, h => by cases h; exact .str _
  | .lst ds, _, h => by cases h with | lst h1 h2 => exact .lst (e _ _ h1) (RpL.mono e h2)
  | .tup ds, _, h => by cases h with | tup h1 h2 => exact .tup (Same.seqT e h1) (RpL.mono e h2)
  | .ins C ns ds, _, h => by cases h with | ins h1 h3 h2 => exact .ins (e _ _ h1) h3 (RpL.mono e h2)
theorem RpL.mono (e : Same H H') : ∀ {ds : List D} {vs : List V}, RpL K H vs ds → RpL K H' vs ds
  | [], _, h => by cases h; exact .nil
  | _ :: _, _, h => by cases h with | cons h1 h2 => exact .cons (Rp.mono e h1) (RpL.mono e h2)
end
theorem RpL.length : ∀ {ds : List D} {vs : List V}, RpL K H vs ds → vs.length = ds.length
  | [], _, h => by cases h; rfl
  | _ :: _, _, h => by cases h with | cons _ h2 => simp [RpL.length h2]
theorem RpL.get : ∀ {ds : List D} {vs : List V} {i : Nat} {d : D}, RpL K H vs ds → ds[i]? = some d → ∃ v, vs[i]? = some v ∧ Rp K H v d
  | [], _, _, _, _, e => by simp at e
  | _ :: _, _, 0, _, h, e => by cases h with | cons h1 _ => simp at e; subst e; exact ⟨_, rfl, h1⟩
  | _ :: _, _, i + 1, _, h, e => by
    cases h with
    | cons _ h2 =>
      obtain ⟨v, a, b⟩ := RpL.get (i := i) h2 (by simpa using e)
      exact ⟨v, by simpa using a, b⟩
theorem RpL.get' : ∀ {ds : List D} {vs : List V} {i : Nat} {v : V}, RpL K H vs ds → vs[i]? = some v → ∃ d, ds[i]? = some d ∧ Rp K H v d
  | [], _, _, _, h, e => by cases h; simp at e
  | _ :: _, _, 0, _, h, e => by cases h with | cons h1 _ => simp at e; subst e; exact ⟨_, rfl, h1⟩
  | _ :: _, _, i + 1, _, h, e => by
    cases h with
    | cons _ h2 =>
      obtain ⟨v, a, b⟩ := RpL.get' (i := i) h2 (by simpa using e)
      exact ⟨v, by simpa using a, b⟩
theorem RpL.append : ∀ {ds es : List D} {vs us : List V}, RpL K H vs ds → RpL K H us es → RpL K H (vs ++ us) (ds ++ es)
  | [], _, _, _, h, h' => by cases h; exact h'
  | _ :: _, _, _, _, h, h' => by cases h with | cons h1 h2 => exact .cons h1 (RpL.append h2 h')
theorem RpL.take : ∀ {ds : List D} {vs : List V} (n : Nat), RpL K H vs ds → RpL K H (vs.take n) (ds.take n)
  | _, _, 0, _ => .nil
  | [], _, _ + 1, h => by cases h; exact .nil
  | _ :: _, _, n + 1, h => by cases h with | cons h1 h2 => exact .cons h1 (RpL.take n h2)
theorem RpL.drop : ∀ {ds : List D} {vs : List V} (n : Nat), RpL K H vs ds → RpL K H (vs.drop n) (ds.drop n)
  | _, _, 0, h => h
  | [], _, _ + 1, h => by cases h; exact .nil
  | _ :: _, _, n + 1, h => by cases h with | cons h1 h2 => exact RpL.drop n h2
theorem RpL.set {v : V} {d : D} (r : Rp K H v d) : ∀ {ds : List D} {vs : List V} (n : Nat), RpL K H vs ds → RpL K H (vs.set n v) (ds.set n d)
  | [], _, _, h => by cases h; exact .nil
  | _ :: _, _, 0, h => by cases h with | cons h1 h2 => exact .cons r h2
  | _ :: _, _, n + 1, h => by cases h with | cons h1 h2 => exact .cons h1 (RpL.set r n h2)
theorem RpL.eraseIdx : ∀ {ds : List D} {vs : List V} (n : Nat), RpL K H vs ds → RpL K H (vs.eraseIdx n) (ds.eraseIdx n)
  | [], _, _, h => by cases h; exact .nil
  | _ :: _, _, 0, h => by cases h with | cons h1 h2 => exact h2
  | _ :: _, _, n + 1, h => by cases h with | cons h1 h2 => exact .cons h1 (RpL.eraseIdx n h2)
theorem RpL.dropLast {ds : List D} {vs : List V} (h : RpL K H vs ds) : RpL K H vs.dropLast ds.dropLast := by
  rw [List.dropLast_eq_take, List.dropLast_eq_take, h.length]
  exact h.take _
theorem RpL.reverse : ∀ {ds : List D} {vs : List V}, RpL K H vs ds → RpL K H vs.reverse ds.reverse
  | [], _, h => by cases h; exact .nil
  | _ :: _, _, h => by
    cases h with
    | cons h1 h2 =>
      rw [List.reverse_cons, List.reverse_cons]
      exact (RpL.reverse h2).append (.cons h1 .nil)
theorem RpL.rep {ds : List D} {vs : List V} (h : RpL K H vs ds) : ∀ n, RpL K H (List.replicate n vs).flatten (List.replicate n ds).flatten
  | 0 => .nil
  | n + 1 => by
    rw [List.replicate_succ, List.replicate_succ, List.flatten_cons, List.flatten_cons]
    exact h.append (RpL.rep h n)
theorem RpL.ints : ∀ (ns : List Int), RpL K H (ns.map V.int) (ns.map D.int)
  | [] => .nil
  | n :: ns => .cons (.int n) (RpL.ints ns)
theorem RpL.ints_inv : ∀ {ns : List Int} {vs : List V}, RpL K H vs (ns.map D.int) → vs = ns.map V.int
  | [], _, h => by cases h; rfl
  | n :: ns, _, h => by
    cases h with
    | cons h1 h2 =>
      cases h1
      rw [RpL.ints_inv h2]; rfl
theorem RpL.of_get : ∀ {ds : List D} {vs : List V}, vs.length = ds.length → (∀ (i : Nat) (v : V) (d : D), vs[i]? = some v → ds[i]? = some d → Rp K H v d) → RpL K H vs ds
  | [], [], _, _ => .nil
  | [], _ :: _, h, _ => by simp at h
  | _ :: _, [], h, _ => by simp at h
  | d :: ds, v :: vs, h, f => .cons (f 0 v d rfl rfl) (RpL.of_get (by simpa using h) fun i v' d' a b => f (i + 1) v' d' (by simpa using a) (by simpa using b))
end

/-! ### the drawn state -/
structure Dl where
  i : Nat
  a : Addr
  c : Addr
def Hm (dl : Option Dl) (H : Hp) : Hp := fun b => match dl with
  | none => H b
  | some d => if b = d.a ∨ b = d.c then none else H b
theorem Hm_sm {d : Dl} {H : Hp} {b : Addr} : Hm (some d) H b = if b = d.a ∨ b = d.c then none else H b := rfl
structure DealAt (d : Dl) (G H : Hp) : Prop where
  ga : G d.a = none
  gc : G d.c = none
  ne : d.a ≠ d.c
  ex : ∃ (xs : List Int) (m : Int), H d.a = some (.lst [.ref d.c, .int m]) ∧ H d.c = some (.lst (xs.map V.int)) ∧ (xs.length ≤ 63 ∧ m.natAbs < 1099511627776)
theorem Hm_some {dl : Option Dl} {H : Hp} {b : Addr} {o : HO} (h : Hm dl H b = some o) : H b = some o := by
  cases dl with
  | none => exact h
  | some d =>
    rw [Hm_sm] at h
    split at h
    · cases h
    · exact h
theorem Hm_same {dl : Option Dl} {H : Hp} : Same (Hm dl H) H := fun _ _ h => Hm_some h

abbrev PEnv := List (Option D)
/-- what a derivation leans on: the written part, the drawn state, the slots of owned lists, the heaps at the def's start -/
structure Bs where
  K : PySem.W.Frag
  dl : Option Dl
  ow : List Nat
  G0 : Hp
  H0 : Hp
abbrev Bs.frz (B : Bs) : Bs := { B with ow := [] }

structure EnvR (B : Bs) (G H : Hp) (σ : L2.St) (ρ : PEnv) : Prop where
  len : σ.length = ρ.length
  gg : Same B.G0 G
  gh : Same G H
  hh : Same (Hm B.dl B.H0) (Hm B.dl H)
  fr : ∀ b o, B.H0 b = some o → G b = B.G0 b
  pur : ∀ i d, ρ[i]? = some (some d) → i ∉ B.ow → ∃ v, σ[i]? = some (some v) ∧ Rp B.K G v d
  own : ∀ i d, ρ[i]? = some (some d) → i ∈ B.ow → ∃ p vs ds, d = .lst ds ∧ σ[i]? = some (some (.ref p)) ∧ H p = some (.lst vs) ∧ G p = none ∧ B.H0 p = none ∧ RpL B.K G vs ds
  sep : ∀ i j p, i ∈ B.ow → j ∈ B.ow → (∃ d, ρ[i]? = some (some d)) → (∃ d, ρ[j]? = some (some d)) → σ[i]? = some (some (.ref p)) → σ[j]? = some (some (.ref p)) → i = j
  deal : ∀ d, B.dl = some d → DealAt d G H ∧ σ[d.i]? = some (some (.ref d.a)) ∧ ρ[d.i]? = some none ∧ B.H0 d.a ≠ none ∧ B.H0 d.c ≠ none

/-- a step between two heaps -/
structure Stp (B : Bs) (G H G' H' : Hp) : Prop where
  gg : Same G G'
  gh : Same G' H'
  hh : Same (Hm B.dl H) (Hm B.dl H')
  fr : ∀ b o, H b = some o → G' b = G b
  dl : ∀ d, B.dl = some d → DealAt d G' H'

section
variable {B : Bs} {G H G' H' G'' H'' : Hp} {σ : L2.St} {ρ : PEnv}
theorem Hm_of {dl : Option Dl} {b : Addr} {o : HO} (h : H b = some o) (n : ∀ d, dl = some d → b ≠ d.a ∧ b ≠ d.c) : Hm dl H b = some o := by
  cases dl with
  | none => exact h
  | some d =>
    obtain ⟨n1, n2⟩ := n d rfl
    rw [Hm_sm, if_neg (by simp [n1, n2])]
    exact h
theorem Same.hm {dl : Option Dl} (e : Same G H) (dd : ∀ d, dl = some d → G d.a = none ∧ G d.c = none) : Same G (Hm dl H) := fun b o h => Hm_of (e b o h) fun d hd => by
  obtain ⟨h1, h2⟩ := dd d hd
  exact ⟨fun z => (by rw [z, h1] at h; cases h), fun z => (by rw [z, h2] at h; cases h)⟩
theorem EnvR.ghm (E : EnvR B G H σ ρ) : Same G (Hm B.dl H) := Same.hm E.gh fun d hd => ⟨(E.deal d hd).1.ga, (E.deal d hd).1.gc⟩
theorem Stp.ghm (s : Stp B G H G' H') : Same G' (Hm B.dl H') := Same.hm s.gh fun d hd => ⟨(s.dl d hd).ga, (s.dl d hd).gc⟩
theorem Stp.refl (E : EnvR B G H σ ρ) : Stp B G H G H := ⟨Same.refl _, E.gh, Same.refl _, fun _ _ _ => rfl, fun d hd => (E.deal d hd).1⟩
theorem DealAt.tr {d : Dl} (h : DealAt d G H) : (∃ o, H d.a = some o) ∧ ∃ o, H d.c = some o := by
  obtain ⟨xs, m, h1, h2, _⟩ := h.ex
  exact ⟨⟨_, h1⟩, _, h2⟩
theorem Stp.trans (a : Stp B G H G' H') (b : Stp B G' H' G'' H'') : Stp B G H G'' H'' := by
  refine ⟨a.gg.trans b.gg, b.gh, a.hh.trans b.hh, fun c o h => ?_, b.dl⟩
  have : ∃ o', H' c = some o' := by
    by_cases hd : ∃ d, B.dl = some d ∧ (c = d.a ∨ c = d.c)
    · obtain ⟨d, e, z⟩ := hd
      rcases z with rfl | rfl
      · exact (a.dl d e).tr.1
      · exact (a.dl d e).tr.2
    · refine ⟨o, Hm_some (a.hh c o (Hm_of h fun d e => ⟨fun z => hd ⟨d, e, .inl z⟩, fun z => hd ⟨d, e, .inr z⟩⟩))⟩
  obtain ⟨o', h'⟩ := this
  rw [b.fr c o' h', a.fr c o h]
/-- the slots behind a step that changes no slot -/
theorem EnvR.step (E : EnvR B G H σ ρ) (s : Stp B G H G' H') : EnvR B G' H' σ ρ := by
  have trk : ∀ b o, B.H0 b = some o → ∃ o', H b = some o' := fun b o h => by
    by_cases hd : ∃ d, B.dl = some d ∧ (b = d.a ∨ b = d.c)
    · obtain ⟨d, e, z⟩ := hd
      rcases z with rfl | rfl
      · exact (E.deal d e).1.tr.1
      · exact (E.deal d e).1.tr.2
    · exact ⟨o, Hm_some (E.hh b o (Hm_of h fun d e => ⟨fun z => hd ⟨d, e, .inl z⟩, fun z => hd ⟨d, e, .inr z⟩⟩))⟩
  refine ⟨E.len, E.gg.trans s.gg, s.gh, E.hh.trans s.hh, fun b o h => ?_, fun i d h hi => ?_, fun i d h hi => ?_, E.sep, fun d hd => ?_⟩
  · obtain ⟨o', h'⟩ := trk b o h
    rw [s.fr b o' h', E.fr b o h]
  · obtain ⟨v, h1, h2⟩ := E.pur i d h hi
    exact ⟨v, h1, h2.mono s.gg⟩
  · obtain ⟨p, vs, ds, h1, h2, h3, h4, h5, h6⟩ := E.own i d h hi
    have np : ∀ d, B.dl = some d → p ≠ d.a ∧ p ≠ d.c := fun d hd => by
      obtain ⟨_, _, _, n1, n2⟩ := E.deal d hd
      exact ⟨fun z => n1 (z ▸ h5), fun z => n2 (z ▸ h5)⟩
    exact ⟨p, vs, ds, h1, h2, Hm_some (s.hh p _ (Hm_of h3 np)), by rw [s.fr p _ h3]; exact h4, h5, h6.mono s.gg⟩
  · obtain ⟨_, h1, h2, h3, h4⟩ := E.deal d hd
    exact ⟨s.dl d hd, h1, h2, h3, h4⟩
theorem same_new {p : Addr} {o : HO} (h : H p = none) : Same H (upd H p o) := fun b x e => by
  rw [upd_ne (ne_of_none e h)]
  exact e
theorem same_new2 {p : Addr} {o : HO} (e : Same G H) (h : H p = none) : Same (upd G p o) (upd H p o) := fun b x q => by
  by_cases hb : b = p
  · subst hb; rw [upd_same] at q ⊢; exact q
  · rw [upd_ne hb] at q ⊢; exact e b x q
theorem same_newR {p : Addr} {o : HO} (e : Same G H) (h : H p = none) : Same G (upd H p o) := e.trans (same_new h)
theorem DealAt.new {d : Dl} {p : Addr} {o u : HO} (h : DealAt d G H) (hp : H p = none) : DealAt d (upd G p o) (upd H p u) := by
  obtain ⟨⟨_, ta⟩, ⟨_, tc⟩⟩ := h.tr
  have n1 : d.a ≠ p := ne_of_none ta hp
  have n2 : d.c ≠ p := ne_of_none tc hp
  obtain ⟨xs, m, h1, h2, h3⟩ := h.ex
  exact ⟨by rw [upd_ne n1]; exact h.ga, by rw [upd_ne n2]; exact h.gc, h.ne, xs, m, by rw [upd_ne n1]; exact h1, by rw [upd_ne n2]; exact h2, h3⟩
theorem DealAt.newH {d : Dl} {p : Addr} {u : HO} (h : DealAt d G H) (hp : H p = none) : DealAt d G (upd H p u) := by
  obtain ⟨⟨_, ta⟩, ⟨_, tc⟩⟩ := h.tr
  have n1 : d.a ≠ p := ne_of_none ta hp
  have n2 : d.c ≠ p := ne_of_none tc hp
  obtain ⟨xs, m, h1, h2, h3⟩ := h.ex
  exact ⟨h.ga, h.gc, h.ne, xs, m, by rw [upd_ne n1]; exact h1, by rw [upd_ne n2]; exact h2, h3⟩
theorem Hm_new {dl : Option Dl} {p : Addr} {o : HO} (h : H p = none) : Same (Hm dl H) (Hm dl (upd H p o)) := by
  cases dl with
  | none => exact same_new h
  | some d =>
    intro b x e
    rw [Hm_sm] at e ⊢
    split at e
    · cases e
    · rename_i hn
      rw [if_neg hn]
      exact same_new h b x e
/-- a new object, tracked and pure -/
theorem EnvR.stpNew (E : EnvR B G H σ ρ) {p : Addr} (o : HO) (h : H p = none) : Stp B G H (upd G p o) (upd H p o) :=
  ⟨same_new (E.gh.free h), same_new2 E.gh h, Hm_new h, fun b x e => by rw [upd_ne (ne_of_none e h)], fun d hd => (E.deal d hd).1.new h⟩
/-- a new object that the pure part leaves out -/
theorem EnvR.stpNewH (E : EnvR B G H σ ρ) {p : Addr} (o : HO) (h : H p = none) : Stp B G H G (upd H p o) :=
  ⟨Same.refl _, same_newR E.gh h, Hm_new h, fun b x e => rfl, fun d hd => (E.deal d hd).1.newH h⟩
/-- one slot told anew, pure -/
theorem EnvR.set (E : EnvR B G H σ ρ) {i : Nat} {v : V} {d : D} (hi : i ∉ B.ow) (r : Rp B.K G v d) (hd : ∀ x, B.dl = some x → x.i ≠ i) : EnvR B G H (σ.set i (some v)) (ρ.set i (some d)) := by
  refine ⟨by simpa using E.len, E.gg, E.gh, E.hh, E.fr, fun j x h hj => ?_, fun j x h hj => ?_, fun j l p hj hl ej el sj sl => ?_, fun x hx => ?_⟩
  · by_cases e : i = j
    · subst e
      by_cases hl : i < ρ.length
      · rw [List.getElem?_set_self hl] at h
        cases h
        rw [List.getElem?_set_self (by rw [E.len]; exact hl)]
        exact ⟨v, rfl, r⟩
      · rw [List.getElem?_eq_none (by simpa using hl)] at h; cases h
    · rw [List.getElem?_set_ne e] at h ⊢
      exact E.pur j x h hj
  · have e : i ≠ j := fun z => hi (z ▸ hj)
    rw [List.getElem?_set_ne e] at h ⊢
    exact E.own j x h hj
  · have e1 : i ≠ j := fun z => hi (z ▸ hj)
    have e2 : i ≠ l := fun z => hi (z ▸ hl)
    rw [List.getElem?_set_ne e1] at ej sj
    rw [List.getElem?_set_ne e2] at el sl
    exact E.sep j l p hj hl ej el sj sl
  · obtain ⟨h1, h2, h3, h4⟩ := E.deal x hx
    have e := (hd x hx).symm
    exact ⟨h1, by rw [List.getElem?_set_ne e]; exact h2, by rw [List.getElem?_set_ne e]; exact h3, h4⟩
/-- one slot told anew, an owned list -/
theorem EnvR.setOwn (E : EnvR B G H σ ρ) {i : Nat} {p : Addr} {vs : List V} {ds : List D} (hi : i ∈ B.ow) (hp : H p = some (.lst vs)) (hg : G p = none) (h0 : B.H0 p = none)
    (np : ∀ j x, j ∈ B.ow → j ≠ i → ρ[j]? = some (some x) → σ[j]? ≠ some (some (.ref p))) (r : RpL B.K G vs ds) (hd : ∀ x, B.dl = some x → x.i ≠ i) : EnvR B G H (σ.set i (some (.ref p))) (ρ.set i (some (.lst ds))) := by
  have lt : ∀ {j : Nat} {x : Option D}, (ρ.set i (some (.lst ds)))[j]? = some x → j < σ.length := fun {j x} h => by
    have := (List.getElem?_eq_some_iff.mp h).1
    rw [List.length_set, ← E.len] at this
    exact this
  refine ⟨by simpa using E.len, E.gg, E.gh, E.hh, E.fr, fun j x h hj => ?_, fun j x h hj => ?_, fun j l q hj hl ej el sj sl => ?_, fun x hx => ?_⟩
  · have e : i ≠ j := fun z => hj (z ▸ hi)
    rw [List.getElem?_set_ne e] at h ⊢
    exact E.pur j x h hj
  · by_cases e : i = j
    · subst e
      have hl := lt h
      rw [List.getElem?_set_self (by rw [← E.len]; exact hl)] at h
      cases h
      exact ⟨p, vs, ds, rfl, by rw [List.getElem?_set_self hl], hp, hg, h0, r⟩
    · rw [List.getElem?_set_ne e] at h ⊢
      exact E.own j x h hj
  · obtain ⟨xj, ej⟩ := ej
    obtain ⟨xl, el⟩ := el
    by_cases e1 : i = j
    · subst e1
      by_cases e2 : i = l
      · exact e2
      · have hl' := lt ej
        rw [List.getElem?_set_self hl'] at sj
        cases sj
        rw [List.getElem?_set_ne e2] at el sl
        exact (np l xl hl (Ne.symm e2) el sl).elim
    · by_cases e2 : i = l
      · subst e2
        have hl' := lt el
        rw [List.getElem?_set_self hl'] at sl
        cases sl
        rw [List.getElem?_set_ne e1] at ej sj
        exact (np j xj hj (Ne.symm e1) ej sj).elim
      · rw [List.getElem?_set_ne e1] at ej sj
        rw [List.getElem?_set_ne e2] at el sl
        exact E.sep j l q hj hl ⟨xj, ej⟩ ⟨xl, el⟩ sj sl
  · obtain ⟨h1, h2, h3, h4⟩ := E.deal x hx
    have e := (hd x hx).symm
    exact ⟨h1, by rw [List.getElem?_set_ne e]; exact h2, by rw [List.getElem?_set_ne e]; exact h3, h4⟩
/-- an owned list written -/
theorem EnvR.write (E : EnvR B G H σ ρ) {i : Nat} {p : Addr} {vs us : List V} {ds es : List D} (hi : i ∈ B.ow) (e : ρ[i]? = some (some (.lst ds))) (es' : σ[i]? = some (some (.ref p))) (hp : H p = some (.lst vs)) (hg : G p = none) (h0 : B.H0 p = none)
    (r : RpL B.K G us es) : EnvR B G (upd H p (.lst us)) σ (ρ.set i (some (.lst es))) := by
  have np : ∀ d, B.dl = some d → p ≠ d.a ∧ p ≠ d.c := fun d hd => by
    obtain ⟨_, _, _, n1, n2⟩ := E.deal d hd
    exact ⟨fun z => n1 (z ▸ h0), fun z => n2 (z ▸ h0)⟩
  have hl : i < ρ.length := (List.getElem?_eq_some_iff.mp e).1
  refine ⟨by simpa using E.len, E.gg, fun b o h => ?_, fun b o h => ?_, E.fr, fun j x h hj => ?_, fun j x h hj => ?_, fun j l q hj hl ej el sj sl => ?_, fun x hx => ?_⟩
  · have : b ≠ p := fun z => by rw [z, hg] at h; cases h
    rw [upd_ne this]; exact E.gh b o h
  · have h1 := E.hh b o h
    have : b ≠ p := fun z => by
      have := Hm_some h
      rw [z, h0] at this; cases this
    have h2 : H b = some o := Hm_some h1
    refine Hm_of (by rw [upd_ne this]; exact h2) fun d hd => ?_
    rw [hd] at h
    rw [Hm_sm] at h
    split at h
    · cases h
    · rename_i hn
      exact ⟨fun z => hn (.inl z), fun z => hn (.inr z)⟩
  · have e1 : i ≠ j := fun z => hj (z ▸ hi)
    rw [List.getElem?_set_ne e1] at h
    exact E.pur j x h hj
  · by_cases e1 : i = j
    · subst e1
      rw [List.getElem?_set_self hl] at h
      cases h
      exact ⟨p, us, es, rfl, es', upd_same, hg, h0, r⟩
    · rw [List.getElem?_set_ne e1] at h
      obtain ⟨q, ws, fs, h1, h2, h3, h4, h5, h6⟩ := E.own j x h hj
      have : q ≠ p := fun z => e1 (E.sep i j p hi hj ⟨_, e⟩ ⟨_, h⟩ es' (z ▸ h2))
      exact ⟨q, ws, fs, h1, h2, by rw [upd_ne this]; exact h3, h4, h5, h6⟩
  · have f : ∀ {j : Nat}, (∃ d, (ρ.set i (some (.lst es)))[j]? = some (some d)) → ∃ d, ρ[j]? = some (some d) := fun {j} ⟨d, h⟩ => by
      by_cases e1 : i = j
      · subst e1; exact ⟨_, e⟩
      · rw [List.getElem?_set_ne e1] at h; exact ⟨d, h⟩
    exact E.sep j l q hj hl (f ej) (f el) sj sl
  · obtain ⟨h1, h2, h3, h4⟩ := E.deal x hx
    obtain ⟨n1, n2⟩ := np x hx
    obtain ⟨xs, m, k1, k2, k3⟩ := h1.ex
    have e1 : i ≠ x.i := fun z => by
      subst z
      rw [e] at h3; cases h3
    exact ⟨⟨h1.ga, h1.gc, h1.ne, xs, m, by rw [upd_ne (Ne.symm n1)]; exact k1, by rw [upd_ne (Ne.symm n2)]; exact k2, k3⟩, h2, by rw [List.getElem?_set_ne e1]; exact h3, h4⟩
end
end PU
set_option Elab.async false
set_option linter.all false
set_option maxRecDepth 100000
set_option maxHeartbeats 4000000
/-! PU, part 2: judgements, expressions. -/
namespace PU
open PySem PySem.Spec PyProof.Rows L2
theorem notIn_of {l : List Nat} {i : Nat} (h : l.elem i = false) : i ∉ l := fun z => by rw [List.elem_eq_true_of_mem z] at h; cases h
theorem in_of {l : List Nat} {i : Nat} (h : l.elem i = true) : i ∈ l := List.mem_of_elem_eq_true h

abbrev TE' := PEnv → (D → Prop) → Prop
abbrev TA' := PEnv → (List D → Prop) → Prop
abbrev TT' := PEnv → (Bool → Prop) → Prop
abbrev RepT := Hp → Hp → Hp → V → D → Prop
def RE (B : Bs) : RepT := fun _ G' _ v d => Rp B.K G' v d
def RG (B : Bs) : RepT := fun _ G' H' v d => Rp B.K G' v d ∨ ∃ p vs ds, v = .ref p ∧ d = .lst ds ∧ Hm B.dl H' p = some (.lst vs) ∧ RpL B.K G' vs ds
def RF (B : Bs) : RepT := fun H G' H' v d => ∃ p vs ds, v = .ref p ∧ d = .lst ds ∧ H p = none ∧ G' p = none ∧ H' p = some (.lst vs) ∧ RpL B.K G' vs ds
def Pu (B : Bs) (rep : RepT) (t : TE) (T : TE') : Prop :=
  ∀ G H σ ρ R Q, EnvR B G H σ ρ → T ρ R → (∀ d v G' H', R d → Stp B G H G' H' → rep H G' H' v d → Q v H') → t σ H Q
structure PuE (X : Cx) (B : Bs) (e : Expr) (t : TE) (T : TE') : Prop where
  pe : PE X e t
  pu : Pu B (RE B) t T
structure PuG (X : Cx) (B : Bs) (e : Expr) (t : TE) (T : TE') : Prop where
  pe : PE X e t
  pu : Pu B (RG B) t T
structure PuF (X : Cx) (B : Bs) (e : Expr) (t : TE) (T : TE') : Prop where
  pe : PE X e t
  pu : Pu B (RF B) t T
structure PuA (X : Cx) (B : Bs) (es : List Expr) (t : TA) (T : TA') : Prop where
  pe : PA X es t
  pu : ∀ G H σ ρ R Q, EnvR B G H σ ρ → T ρ R → (∀ ds vs G' H', R ds → Stp B G H G' H' → RpL B.K G' vs ds → Q vs H') → t σ H Q
def PuTT (B : Bs) (t : TT) (T : TT') : Prop :=
  ∀ G H σ ρ R Q, EnvR B G H σ ρ → T ρ R → (∀ b G' H', R b → Stp B G H G' H' → Q b H') → t σ H Q
structure PuT (X : Cx) (B : Bs) (e : Expr) (t : TT) (T : TT') : Prop where
  pe : PT X e t
  pu : PuTT B t T
structure PuW (X : Cx) (B : Bs) (e : Expr) (t : TT) (T : TT') : Prop where
  pe : PW X e t
  pu : PuTT B t T

section
variable {X : Cx} {B : Bs} {e a b c : Expr} {es : List Expr} {t ta tb tc : TE} {T Ta Tb Tc : TE'} {G H G' H' : Hp} {σ : L2.St} {ρ : PEnv} {v : V} {d : D} {pos : Pos}

theorem Rp.dcases {K : PySem.W.Frag} {i : Int} (h : Rp K H v (.int i)) : v = .int i := by cases h; rfl
theorem Rp.bl' {K : PySem.W.Frag} {i : Bool} (h : Rp K H v (.bl i)) : v = .bl i := by cases h; rfl
theorem Rp.str' {K : PySem.W.Frag} {i : Str} (h : Rp K H v (.str i)) : v = .str i := by cases h; rfl
theorem Rp.tup' {K : PySem.W.Frag} {ds : List D} (h : Rp K H v (.tup ds)) : ∃ a vs, v = .ref a ∧ SqT K H a vs ∧ RpL K H vs ds := by cases h with | tup h1 h2 => exact ⟨_, _, rfl, h1, h2⟩
theorem Rp.lst' {K : PySem.W.Frag} {ds : List D} (h : Rp K H v (.lst ds)) : ∃ a vs, v = .ref a ∧ H a = some (.lst vs) ∧ RpL K H vs ds := by cases h with | lst h1 h2 => exact ⟨_, _, rfl, h1, h2⟩

theorem RG.step {H0 H0' G2 H2 : Hp} (r : RG B H0 G' H' v d) (s : Stp B G' H' G2 H2) : RG B H0' G2 H2 v d := by
  rcases r with r | ⟨p, vs, ds, e1, e2, e3, e4⟩
  · exact .inl (r.mono s.gg)
  · exact .inr ⟨p, vs, ds, e1, e2, s.hh _ _ e3, e4.mono s.gg⟩
theorem RG.int {H0 : Hp} {i : Int} (r : RG B H0 G H v (.int i)) : v = .int i := by
  rcases r with r | ⟨p, vs, ds, e1, e2, _⟩
  · exact r.dcases
  · cases e2
theorem RG.bl {H0 : Hp} {i : Bool} (r : RG B H0 G H v (.bl i)) : v = .bl i := by
  rcases r with r | ⟨p, vs, ds, e1, e2, _⟩
  · exact r.bl'
  · cases e2
theorem RG.str {H0 : Hp} {i : Str} (r : RG B H0 G H v (.str i)) : v = .str i := by
  rcases r with r | ⟨p, vs, ds, e1, e2, _⟩
  · exact r.str'
  · cases e2
theorem RG.pure {H0 : Hp} (r : RG B H0 G H v d) (h : ∀ ds, d ≠ .lst ds) : Rp B.K G v d := by
  rcases r with r | ⟨p, vs, ds, e1, e2, _⟩
  · exact r
  · exact absurd e2 (h ds)
theorem RG.tup {H0 : Hp} {ds : List D} (r : RG B H0 G H v (.tup ds)) : ∃ a vs, v = .ref a ∧ SqT B.K G a vs ∧ RpL B.K G vs ds := (r.pure fun _ => by simp).tup'
theorem RG.lst {H0 : Hp} {ds : List D} (E : Same G (Hm B.dl H)) (r : RG B H0 G H v (.lst ds)) : ∃ a vs, v = .ref a ∧ Hm B.dl H a = some (.lst vs) ∧ RpL B.K G vs ds := by
  rcases r with r | ⟨p, vs, es, e1, e2, e3, e4⟩
  · obtain ⟨a, vs, h1, h2, h3⟩ := r.lst'
    exact ⟨a, vs, h1, E _ _ h2, h3⟩
  · cases e2
    exact ⟨p, vs, e1, e3, e4⟩
theorem RG.view {H0 : Hp} (E : Same G (Hm B.dl H)) (r : RG B H0 G H v d) : Rp B.K (Hm B.dl H) v d := by
  rcases r with r | ⟨p, vs, es, e1, e2, e3, e4⟩
  · exact r.mono E
  · subst e1 e2
    exact .lst e3 (e4.mono E)
theorem Pu.g (h : Pu B (RE B) t T) : Pu B (RG B) t T := fun G H σ ρ R Q E hT k => h G H σ ρ R Q E hT fun d v G' H' r s q => k d v G' H' r s (.inl q)
theorem Pu.ofF (h : Pu B (RF B) t T) : Pu B (RE B) t T := fun G H σ ρ R Q E hT k => h G H σ ρ R Q E hT fun d v G' H' r s q => by
  obtain ⟨p, vs, ds, rfl, rfl, h1, h2, h3, h4⟩ := q
  refine k _ _ (upd G' p (.lst vs)) H' r ⟨s.gg.trans (same_new h2), fun b o hb => ?_, s.hh, fun b o hb => ?_, fun d hd => ?_⟩ (.lst upd_same (h4.mono (same_new h2)))
  · by_cases e : b = p
    · subst e; rw [upd_same] at hb; rw [h3]; exact hb
    · rw [upd_ne e] at hb; exact s.gh b o hb
  · rw [upd_ne (ne_of_none hb h1)]
    exact s.fr b o hb
  · obtain ⟨_, ta⟩ := (E.deal d hd).1.tr.1
    obtain ⟨_, tc⟩ := (E.deal d hd).1.tr.2
    have D := s.dl d hd
    exact ⟨by rw [upd_ne (ne_of_none ta h1)]; exact D.ga, by rw [upd_ne (ne_of_none tc h1)]; exact D.gc, D.ne, D.ex⟩
theorem PuE.g (h : PuE X B e t T) : PuG X B e t T := ⟨h.pe, h.pu.g⟩
theorem PuF.en (h : PuF X B e t T) : PuE X B e t T := ⟨h.pe, h.pu.ofF⟩
theorem PuF.g (h : PuF X B e t T) : PuG X B e t T := h.en.g

/-! ### names, constants -/
def getW (o : Option (Option D)) (R : D → Prop) : Prop := match o with
  | some (some d) => R d
  | _ => False
def xVar (i : Nat) : TE' := fun ρ R => getW (ρ[i]?) R
def xC (d : D) : TE' := fun _ R => R d
theorem getW_iff {o : Option (Option D)} {R : D → Prop} (h : getW o R) : ∃ d, o = some (some d) ∧ R d := by
  match o, h with
  | some (some d), h => exact ⟨d, rfl, h⟩
theorem pu_var (i : Nat) {x : Str} (hi : i ∉ B.ow := by exact notIn_of rfl) (hN : X.N[i]? = some x := by rfl) (hv : Vis X.env.scope x := by first | exact Or.inl rfl | exact Or.inr (Or.inl rfl) | exact Or.inr (Or.inr rfl))
    (hd : (x == ("__debug__" : Str)) = false := by decide) (hcd : (x == ("__classdict__" : Str)) = false := by decide) : PuE X B (.Name x pos) (tVar i) (xVar i) := by
  refine ⟨pe_var hN hv hd hcd, fun G H σ ρ R Q E hT k => ?_⟩
  obtain ⟨d, h1, h2⟩ := getW_iff hT
  obtain ⟨v, h3, h4⟩ := E.pur i d h1 hi
  exact ⟨v, h3, k d v G H h2 (.refl E) h4⟩
/-- an owned list, looked at -/
theorem pu_own (i : Nat) {x : Str} (hi : i ∈ B.ow := by exact in_of rfl) (hN : X.N[i]? = some x := by rfl) (hv : Vis X.env.scope x := by first | exact Or.inl rfl | exact Or.inr (Or.inl rfl) | exact Or.inr (Or.inr rfl))
    (hd : (x == ("__debug__" : Str)) = false := by decide) (hcd : (x == ("__classdict__" : Str)) = false := by decide) : PuG X B (.Name x pos) (tVar i) (xVar i) := by
  refine ⟨pe_var hN hv hd hcd, fun G H σ ρ R Q E hT k => ?_⟩
  obtain ⟨d, h1, h2⟩ := getW_iff hT
  obtain ⟨p, vs, ds, rfl, h3, h4, h5, h6, h7⟩ := E.own i d h1 hi
  refine ⟨_, h3, k _ _ G H h2 (.refl E) (.inr ⟨p, vs, ds, rfl, rfl, Hm_of h4 fun d hd => ?_, h7⟩)⟩
  obtain ⟨_, _, _, n1, n2⟩ := E.deal d hd
  exact ⟨fun z => n1 (z ▸ h6), fun z => n2 (z ▸ h6)⟩
theorem pu_int {i j} : PuE X B (.Constant (.int i) j pos) (tC (.int i)) (xC (.int i)) := ⟨pe_int, fun G H σ ρ R Q E hT k => k _ _ G H hT (.refl E) (.int i)⟩
theorem pu_bl {i j} : PuE X B (.Constant (.bool i) j pos) (tC (.bl i)) (xC (.bl i)) := ⟨pe_bl, fun G H σ ρ R Q E hT k => k _ _ G H hT (.refl E) (.bl i)⟩
theorem pu_non {j} : PuE X B (.Constant .none j pos) (tC .non) (xC .non) := ⟨pe_non, fun G H σ ρ R Q E hT k => k _ _ G H hT (.refl E) .non⟩
theorem pu_str {x j} : PuE X B (.Constant (.str x) j pos) (tC (.str x)) (xC (.str x)) := ⟨pe_str, fun G H σ ρ R Q E hT k => k _ _ G H hT (.refl E) (.str x)⟩
/-- an int constant of the module -/
theorem pu_globI {x : Str} {i : Int} {u : Value} (hg : Gl X x) (hm : X.mg x = some u) (hu : RelV (.int i) u) (hd : (x == ("__debug__" : Str)) = false := by decide) : PuE X B (.Name x pos) (tC (.int i)) (xC (.int i)) :=
  ⟨pe_glob hg hm hu hd, fun G H σ ρ R Q E hT k => k _ _ G H hT (.refl E) (.int i)⟩

/-! ### lists of expressions -/
def xNil : TA' := fun _ R => R []
def xCons (T : TE') (U : TA') : TA' := fun ρ R => T ρ fun d => U ρ fun ds => R (d :: ds)
theorem pu_nil : PuA X B [] tNil xNil := ⟨pa_nil, fun G H σ ρ R Q E hT k => k _ _ G H hT (.refl E) .nil⟩
theorem pu_cons {tr : TA} {Tr : TA'} (he : PuE X B e t T) (hr : PuA X B es tr Tr) (hs : starEach (e :: es) X.env = (false, eval e X.env) :: starEach es X.env := by rfl) : PuA X B (e :: es) (tCons t tr) (xCons T Tr) := by
  refine ⟨pa_cons he.pe hr.pe hs, fun G H σ ρ R Q E hT k => ?_⟩
  refine he.pu G H σ ρ _ _ E hT fun d v G1 H1 h1 s1 r1 => ?_
  refine hr.pu G1 H1 σ ρ _ _ (E.step s1) h1 fun ds vs G2 H2 h2 s2 r2 => ?_
  exact k _ _ G2 H2 h2 (s1.trans s2) (.cons (r1.mono s2.gg) r2)
theorem PuA.len {t : TA} {T : TA'} (h : PuA X B es t T) : True := trivial
def xTup (T : TA') : TE' := fun ρ R => T ρ fun ds => ds.length ≤ 1000 ∧ R (.tup ds)
def xLst (T : TA') : TE' := fun ρ R => T ρ fun ds => ds.length ≤ 1000 ∧ R (.lst ds)
theorem k1000 {n : Nat} (h : n ≤ 1000) : n ≤ sizeLine := by rw [sizeLine_eq]; omega
theorem pu_tup {ta : TA} {Ta : TA'} {x1} (h : PuA X B es ta Ta) : PuE X B (.Tuple es x1 pos) (tTup ta) (xTup Ta) := by
  refine ⟨pe_tup h.pe, fun G H σ ρ R Q E hT k => ?_⟩
  refine h.pu G H σ ρ _ _ E hT fun ds vs G1 H1 h1 s1 r1 => ?_
  obtain ⟨hl, h1⟩ := h1
  refine ⟨by rw [r1.length]; exact k1000 hl, fun p hp => ?_⟩
  have s2 := (E.step s1).stpNew (.tup vs) hp
  exact k _ _ _ _ h1 (s1.trans s2) (.tup (SqT.of upd_same) (r1.mono s2.gg))
theorem pu_lst {ta : TA} {Ta : TA'} (h : PuA X B es ta Ta) : PuF X B (.List es pos) (tLst ta) (xLst Ta) := by
  refine ⟨pe_lst h.pe, fun G H σ ρ R Q E hT k => ?_⟩
  refine h.pu G H σ ρ _ _ E hT fun ds vs G1 H1 h1 s1 r1 => ?_
  obtain ⟨hl, h1⟩ := h1
  refine ⟨by rw [r1.length]; exact k1000 hl, fun p hp => ?_⟩
  have s2 := (E.step s1).stpNewH (.lst vs) hp
  have hp0 : H p = none := by
    cases q : H p with
    | none => rfl
    | some o =>
      by_cases hd : ∃ d, B.dl = some d ∧ (p = d.a ∨ p = d.c)
      · obtain ⟨d, e, z⟩ := hd
        have D := (s1.dl d e).tr
        rcases z with rfl | rfl
        · obtain ⟨o', e'⟩ := D.1; rw [hp] at e'; cases e'
        · obtain ⟨o', e'⟩ := D.2; rw [hp] at e'; cases e'
      · have := Hm_some (s1.hh p o (Hm_of q fun d e => ⟨fun z => hd ⟨d, e, .inl z⟩, fun z => hd ⟨d, e, .inr z⟩⟩))
        rw [hp] at this; cases this
  exact k _ _ _ _ h1 (s1.trans s2) ⟨p, vs, ds, rfl, rfl, hp0, s1.gh.free hp, upd_same, r1⟩
theorem Stp.free (s : Stp B G H G' H') {p : Addr} (hp : H' p = none) : H p = none := by
  cases q : H p with
  | none => rfl
  | some o =>
    by_cases hd : ∃ d, B.dl = some d ∧ (p = d.a ∨ p = d.c)
    · obtain ⟨d, e, z⟩ := hd
      have D := (s.dl d e).tr
      rcases z with rfl | rfl
      · obtain ⟨o', e'⟩ := D.1; rw [hp] at e'; cases e'
      · obtain ⟨o', e'⟩ := D.2; rw [hp] at e'; cases e'
    · have := Hm_some (s.hh p o (Hm_of q fun d e => ⟨fun z => hd ⟨d, e, .inl z⟩, fun z => hd ⟨d, e, .inr z⟩⟩))
      rw [hp] at this; cases this

/-! ### operators, by data -/
def ok (o : Option D) (R : D → Prop) : Prop := match o with
  | some d => R d
  | none => False
theorem ok_iff {o : Option D} {R : D → Prop} (h : ok o R) : ∃ d, o = some d ∧ R d := by
  match o, h with
  | some d, h => exact ⟨d, rfl, h⟩
def xOp (f : D → D → Option D) (Ta Tb : TE') : TE' := fun ρ R => Ta ρ fun x => Tb ρ fun y => ok (f x y) R
def xOp1 (f : D → Option D) (Ta : TE') : TE' := fun ρ R => Ta ρ fun x => ok (f x) R
/-- a rule of two values does what f says of data -/
def OpS (B : Bs) (r : R2) (f : D → D → Option D) : Prop := ∀ (G H : Hp) (x y : V) (dx dy dz : D) (Q : VK), (∀ p o, H p = none → Stp B G H (upd G p o) (upd H p o)) → Stp B G H G H →
  RG B H G H x dx → RG B H G H y dy → f dx dy = some dz → (∀ v G' H', Stp B G H G' H' → Rp B.K G' v dz → Q v H') → r x y H Q
theorem op_pu {r : R2} {f : D → D → Option D} (hf : OpS B r f) (ha : Pu B (RG B) ta Ta) (hb : Pu B (RG B) tb Tb) : Pu B (RE B) (tOp r ta tb) (xOp f Ta Tb) := fun G H σ ρ R Q E hT k => by
  refine ha G H σ ρ _ _ E hT fun dx x G1 H1 h1 s1 r1 => ?_
  refine hb G1 H1 σ ρ _ _ (E.step s1) h1 fun dy y G2 H2 h2 s2 r2 => ?_
  obtain ⟨dz, e, h3⟩ := ok_iff h2
  have E2 := (E.step s1).step s2
  exact hf G2 H2 x y dx dy dz Q (fun p o hp => E2.stpNew o hp) (.refl E2) (r1.step s2) (r2.step (.refl E2)) e fun v G' H' s3 r3 => k _ _ _ _ h3 ((s1.trans s2).trans s3) r3
theorem pu_op {op : Operator} {r : R2} {f : D → D → Option D} (ho : OpR X (binaryOp op) r) (hf : OpS B r f) (ha : PuG X B a ta Ta) (hb : PuG X B b tb Tb) : PuE X B (.BinOp a op b pos) (tOp r ta tb) (xOp f Ta Tb) :=
  ⟨pe_op ho ha.pe hb.pe, op_pu hf ha.pu hb.pu⟩
theorem pu_cmp {op : CmpOp} {r : R2} {f : D → D → Option D} (ho : OpR X (compareOp op) r) (hf : OpS B r f) (ha : PuG X B a ta Ta) (hb : PuG X B b tb Tb) (hm : behindInMarks op b = false) : PuE X B (.Compare a [op] [b] pos) (tOp r ta tb) (xOp f Ta Tb) :=
  ⟨pe_cmpR ho ha.pe hb.pe hm, op_pu hf ha.pu hb.pu⟩
/-- a test by a value that is a bool -/
def isB (d : D) (R : Bool → Prop) : Prop := match d with
  | .bl b => R b
  | _ => False
def xB (T : TE') : TT' := fun ρ R => T ρ fun d => isB d R
theorem isB_iff {d : D} {R : Bool → Prop} (h : isB d R) : ∃ b, d = .bl b ∧ R b := by
  match d, h with
  | .bl b, h => exact ⟨b, rfl, h⟩
theorem test_pu (h : Pu B (RE B) t T) : PuTT B (tTest t) (xB T) := fun G H σ ρ R Q E hT k => by
  refine h G H σ ρ _ _ E hT fun d v G1 H1 h1 s1 r1 => ?_
  obtain ⟨b, rfl, hb⟩ := isB_iff h1
  exact ⟨b, r1.bl', k b G1 H1 hb s1⟩
theorem put_cmp {op : CmpOp} {r : R2} {f : D → D → Option D} (ho : OpR X (compareOp op) r) (hf : OpS B r f) (ha : PuG X B a ta Ta) (hb : PuG X B b tb Tb) (hm : behindInMarks op b = false) : PuT X B (.Compare a [op] [b] pos) (tTest (tOp r ta tb)) (xB (xOp f Ta Tb)) :=
  ⟨pt_cmpR ho ha.pe hb.pe hm, test_pu (op_pu hf ha.pu hb.pu)⟩
theorem put_val (h : PuE X B e t T) (he : ∀ whole, isTrue e X.env whole = (do let v ← whole; standAt e.pos; holding [v] (truthy v)) := by intro _; rfl) : PuT X B e (tB t) (xB T) :=
  ⟨pt_val h.pe he, test_pu h.pu⟩
def xNot (T : TT') : TT' := fun ρ R => T ρ fun b => R (!b)
def xAnd (T U : TT') : TT' := fun ρ R => T ρ fun b => if b = true then U ρ R else R false
def xOr (T U : TT') : TT' := fun ρ R => T ρ fun b => if b = true then R true else U ρ R
section
variable {tA tB' : TT} {TA TB : TT'} {rest : List Expr}
theorem put_not (h : PuT X B a tA TA) : PuT X B (.UnaryOp .Not a pos) (tNot tA) (xNot TA) := ⟨pt_not h.pe, fun G H σ ρ R Q E hT k => h.pu G H σ ρ _ _ E hT fun b G' H' h1 s => k _ _ _ h1 s⟩
theorem puw_and1 (h : PuT X B a tA TA) : PuW X B (.BoolOp .And [a] pos) tA TA := ⟨pw_and1 h.pe, h.pu⟩
theorem puw_or1 (h : PuT X B a tA TA) : PuW X B (.BoolOp .Or [a] pos) tA TA := ⟨pw_or1 h.pe, h.pu⟩
theorem and_pu (ha : PuTT B tA TA) (hb : PuTT B tB' TB) : PuTT B (tAnd tA tB') (xAnd TA TB) := fun G H σ ρ R Q E hT k => by
  refine ha G H σ ρ _ _ E hT fun b G1 H1 h1 s1 => ?_
  cases b with
  | true =>
    rw [if_pos rfl] at h1 ⊢
    exact hb G1 H1 σ ρ _ _ (E.step s1) h1 fun b G2 H2 h2 s2 => k _ _ _ h2 (s1.trans s2)
  | false =>
    rw [if_neg Bool.false_ne_true] at h1 ⊢
    exact k _ _ _ h1 s1
theorem or_pu (ha : PuTT B tA TA) (hb : PuTT B tB' TB) : PuTT B (tOr tA tB') (xOr TA TB) := fun G H σ ρ R Q E hT k => by
  refine ha G H σ ρ _ _ E hT fun b G1 H1 h1 s1 => ?_
  cases b with
  | false =>
    rw [if_neg Bool.false_ne_true] at h1 ⊢
    exact hb G1 H1 σ ρ _ _ (E.step s1) h1 fun b G2 H2 h2 s2 => k _ _ _ h2 (s1.trans s2)
  | true =>
    rw [if_pos rfl] at h1 ⊢
    exact k _ _ _ h1 s1
theorem puw_and (ha : PuT X B a tA TA) (hb : PuW X B (.BoolOp .And (b :: rest) pos) tB' TB) : PuW X B (.BoolOp .And (a :: b :: rest) pos) (tAnd tA tB') (xAnd TA TB) := ⟨pw_and ha.pe hb.pe, and_pu ha.pu hb.pu⟩
theorem puw_or (ha : PuT X B a tA TA) (hb : PuW X B (.BoolOp .Or (b :: rest) pos) tB' TB) : PuW X B (.BoolOp .Or (a :: b :: rest) pos) (tOr tA tB') (xOr TA TB) := ⟨pw_or ha.pe hb.pe, or_pu ha.pu hb.pu⟩
theorem PuW.pt (h : PuW X B a tA TA) : PuT X B a tA TA := ⟨h.pe.pt, h.pu⟩
/-! .. as values -/
def xAndV (T U : TE') : TE' := fun ρ R => T ρ fun d => isB d fun b => if b = true then U ρ R else R (.bl false)
def xOrV (T U : TE') : TE' := fun ρ R => T ρ fun d => isB d fun b => if b = true then R (.bl true) else U ρ R
def xNotV (T : TE') : TE' := fun ρ R => T ρ fun d => isB d fun b => R (.bl (!b))
def xIf (c : TT') (T U : TE') : TE' := fun ρ R => c ρ fun b => if b = true then T ρ R else U ρ R
theorem pu_one {op} (h : PuE X B a ta Ta) : PuE X B (.BoolOp op [a] pos) ta Ta := ⟨pe_one h.pe, h.pu⟩
theorem pu_and (ha : PuE X B a ta Ta) (hb : PuE X B (.BoolOp .And (b :: rest) pos) tb Tb) : PuE X B (.BoolOp .And (a :: b :: rest) pos) (tAndV ta tb) (xAndV Ta Tb) := by
  refine ⟨pe_and ha.pe hb.pe, fun G H σ ρ R Q E hT k => ?_⟩
  refine ha.pu G H σ ρ _ _ E hT fun d v G1 H1 h1 s1 r1 => ?_
  obtain ⟨b, rfl, h2⟩ := isB_iff h1
  refine ⟨b, r1.bl', ?_⟩
  cases b with
  | true =>
    rw [if_pos rfl] at h2 ⊢
    exact hb.pu G1 H1 σ ρ _ _ (E.step s1) h2 fun d v G2 H2 h3 s2 r2 => k _ _ _ _ h3 (s1.trans s2) r2
  | false =>
    rw [if_neg Bool.false_ne_true] at h2 ⊢
    exact k _ _ _ _ h2 s1 (.bl false)
theorem pu_or (ha : PuE X B a ta Ta) (hb : PuE X B (.BoolOp .Or (b :: rest) pos) tb Tb) : PuE X B (.BoolOp .Or (a :: b :: rest) pos) (tOrV ta tb) (xOrV Ta Tb) := by
  refine ⟨pe_or ha.pe hb.pe, fun G H σ ρ R Q E hT k => ?_⟩
  refine ha.pu G H σ ρ _ _ E hT fun d v G1 H1 h1 s1 r1 => ?_
  obtain ⟨b, rfl, h2⟩ := isB_iff h1
  refine ⟨b, r1.bl', ?_⟩
  cases b with
  | false =>
    rw [if_neg Bool.false_ne_true] at h2 ⊢
    exact hb.pu G1 H1 σ ρ _ _ (E.step s1) h2 fun d v G2 H2 h3 s2 r2 => k _ _ _ _ h3 (s1.trans s2) r2
  | true =>
    rw [if_pos rfl] at h2 ⊢
    exact k _ _ _ _ h2 s1 (.bl true)
theorem pu_not (ha : PuE X B a ta Ta) : PuE X B (.UnaryOp .Not a pos) (tNotV ta) (xNotV Ta) := by
  refine ⟨pe_not ha.pe, fun G H σ ρ R Q E hT k => ?_⟩
  refine ha.pu G H σ ρ _ _ E hT fun d v G1 H1 h1 s1 r1 => ?_
  obtain ⟨b, rfl, h2⟩ := isB_iff h1
  exact ⟨b, r1.bl', k _ _ _ _ h2 s1 (.bl _)⟩
theorem pu_ifExp (hc : PuT X B c tA TA) (ha : PuE X B a ta Ta) (hb : PuE X B b tb Tb) : PuE X B (.IfExp c a b pos) (tIf tA ta tb) (xIf TA Ta Tb) := by
  refine ⟨pe_ifExp hc.pe ha.pe hb.pe, fun G H σ ρ R Q E hT k => ?_⟩
  refine hc.pu G H σ ρ _ _ E hT fun b G1 H1 h1 s1 => ?_
  cases b with
  | true =>
    rw [if_pos rfl] at h1 ⊢
    exact ha.pu G1 H1 σ ρ _ _ (E.step s1) h1 fun d v G2 H2 h3 s2 r2 => k _ _ _ _ h3 (s1.trans s2) r2
  | false =>
    rw [if_neg Bool.false_ne_true] at h1 ⊢
    exact hb.pu G1 H1 σ ρ _ _ (E.step s1) h1 fun d v G2 H2 h3 s2 r2 => k _ _ _ _ h3 (s1.trans s2) r2
/-- a < b < c -/
def xChain (f g : D → D → Option D) (Ta Tb Tc : TE') : TE' := fun ρ R => Ta ρ fun x => Tb ρ fun y => ok (f x y) fun z => isB z fun k => if k = true then Tc ρ fun w => ok (g y w) R else R (.bl false)
theorem chain_pu {r r' : R2} {f g : D → D → Option D} (hf : OpS B r f) (hg : OpS B r' g) (ha : Pu B (RG B) ta Ta) (hb : Pu B (RG B) tb Tb) (hc : Pu B (RG B) tc Tc) : Pu B (RE B) (tChain r r' ta tb tc) (xChain f g Ta Tb Tc) := fun G H σ ρ R Q E hT k => by
  refine ha G H σ ρ _ _ E hT fun dx x G1 H1 h1 s1 r1 => ?_
  refine hb G1 H1 σ ρ _ _ (E.step s1) h1 fun dy y G2 H2 h2 s2 r2 => ?_
  obtain ⟨dz, e, h3⟩ := ok_iff h2
  obtain ⟨b, rfl, h4⟩ := isB_iff h3
  have E2 := (E.step s1).step s2
  refine hf G2 H2 x y dx dy _ _ (fun p o hp => E2.stpNew o hp) (.refl E2) (r1.step s2) (r2.step (.refl E2)) e fun v G3 H3 s3 r3 => ?_
  refine ⟨b, r3.bl', ?_⟩
  have E3 := E2.step s3
  cases b with
  | true =>
    rw [if_pos rfl] at h4 ⊢
    refine hc G3 H3 σ ρ _ _ E3 h4 fun dw w G4 H4 h5 s4 r4 => ?_
    obtain ⟨dv, e5, h6⟩ := ok_iff h5
    have E4 := E3.step s4
    exact hg G4 H4 y w dy dw dv Q (fun p o hp => E4.stpNew o hp) (.refl E4) ((RG.step (H0' := H3) r2 s3).step s4) (r4.step (.refl E4)) e5 fun v' G' H' s5 r5 => k _ _ _ _ h6 ((((s1.trans s2).trans s3).trans s4).trans s5) r5
  | false =>
    rw [if_neg Bool.false_ne_true] at h4 ⊢
    exact k _ _ _ _ h4 ((s1.trans s2).trans s3) (.bl false)
theorem pu_chain {op op' : CmpOp} {r r' : R2} {f g : D → D → Option D} (ho : OpR X (compareOp op) r) (ho' : OpR X (compareOp op') r') (hf : OpS B r f) (hg : OpS B r' g) (ha : PuG X B a ta Ta) (hb : PuG X B b tb Tb) (hc : PuG X B c tc Tc)
    (hm : lastMarks [op, op'] [b, c] = false := by with_unfolding_all rfl) : PuE X B (.Compare a [op, op'] [b, c] pos) (tChain r r' ta tb tc) (xChain f g Ta Tb Tc) := ⟨pe_chain ho ho' ha.pe hb.pe hc.pe hm, chain_pu hf hg ha.pu hb.pu hc.pu⟩
theorem put_chain {op op' : CmpOp} {r r' : R2} {f g : D → D → Option D} (ho : OpR X (compareOp op) r) (ho' : OpR X (compareOp op') r') (hf : OpS B r f) (hg : OpS B r' g) (ha : PuG X B a ta Ta) (hb : PuG X B b tb Tb) (hc : PuG X B c tc Tc)
    (hm : lastMarks [op, op'] [b, c] = false := by with_unfolding_all rfl) : PuT X B (.Compare a [op, op'] [b, c] pos) (tTest (tChain r r' ta tb tc)) (xB (xChain f g Ta Tb Tc)) := ⟨pt_chain ho ho' ha.pe hb.pe hc.pe hm, test_pu (chain_pu hf hg ha.pu hb.pu hc.pu)⟩
end
end
end PU
set_option Elab.async false
set_option linter.all false
set_option maxRecDepth 100000
set_option maxHeartbeats 4000000
/-! PU, part 3: operators and built-ins by data. -/
namespace PU
open PySem PySem.Spec PyProof.Rows L2

/-! ### data as the library's data -/
mutual
def D.py : D → PyData
  | .non => .none | .bl b => .bool b | .int i => .int i | .str x => .str x
  | .lst xs => .list (D.pyL xs) | .tup xs => .tuple (D.pyL xs) | .ins _ _ _ => .none
def D.pyL : List D → List PyData
  | [] => []
  | x :: xs => x.py :: D.pyL xs
end
mutual
def D.good : D → Bool
  | .str x => PyData.strOk x
  | .lst xs => D.goodL xs | .tup xs => D.goodL xs | .ins _ _ _ => false
  | .non => true | .bl _ => true | .int _ => true
def D.goodL : List D → Bool
  | [] => true
  | x :: xs => x.good && D.goodL xs
end
mutual
def D.dep : D → Nat
  | .lst xs => D.depL xs + 1 | .tup xs => D.depL xs + 1
  | .non => 0 | .bl _ => 0 | .int _ => 0 | .str _ => 0 | .ins _ _ _ => 0
def D.depL : List D → Nat
  | [] => 0
  | x :: xs => max x.dep (D.depL xs)
end
mutual
theorem D.good_lay : ∀ d : D, d.good = true → d.py.canLay0 = true
  | .non, _ => rfl
  | .bl _, _ => rfl
  | .int _, _ => rfl
  | .str x, h => by simpa [D.good, D.py, PyData.canLay0] using h
  | .lst xs, h => by
    simp only [D.py, PyData.canLay0]
    exact D.good_layL xs (by simpa [D.good] using h)
  | .tup xs, h => by
    simp only [D.py, PyData.canLay0]
    exact D.good_layL xs (by simpa [D.good] using h)
  | .ins _ _ _, h => by simp [D.good] at h
theorem D.good_layL : ∀ xs : List D, D.goodL xs = true → PyData.canLayAll0 (D.pyL xs) = true
  | [], _ => by simp [D.pyL, PyData.canLayAll0]
  | x :: xs, h => by
    have h' : x.good = true ∧ D.goodL xs = true := by simpa [D.goodL] using h
    simp only [D.pyL, PyData.canLayAll0, D.good_lay x h'.1, D.good_layL xs h'.2, Bool.and_self]
end
mutual
theorem D.dep_py : ∀ d : D, d.py.depth = d.dep
  | .non => by simp [D.py, D.dep, PyData.depth]
  | .bl _ => by simp [D.py, D.dep, PyData.depth]
  | .int _ => by simp [D.py, D.dep, PyData.depth]
  | .str _ => by simp [D.py, D.dep, PyData.depth]
  | .ins _ _ _ => by simp [D.py, D.dep, PyData.depth]
  | .lst xs => by simp only [D.py, D.dep, PyData.depth, D.dep_pyL xs]
  | .tup xs => by simp only [D.py, D.dep, PyData.depth, D.dep_pyL xs]
theorem D.dep_pyL : ∀ xs : List D, PyData.depthAll (D.pyL xs) = D.depL xs
  | [] => by simp [D.pyL, D.depL, PyData.depthAll]
  | x :: xs => by simp only [D.pyL, D.depL, PyData.depthAll, D.dep_py x, D.dep_pyL xs]
end
theorem D.shaped {d : D} (h : d.good = true) (h2 : d.dep ≤ 64) : SeqAt.shaped d.py = true := by
  unfold SeqAt.shaped
  rw [D.good_lay d h, D.dep_py, decide_eq_true h2]; rfl
section
variable {K : PySem.W.Frag} {H : Hp}
mutual
theorem Rp.dp : ∀ {d : D} {v : V}, Rp K H v d → d.good = true → Dp K H v d.py
  | .non, _, h, _ => by cases h; exact .non
  | .bl _, _, h, _ => by cases h; exact .bl _
  | .int _, _, h, _ => by cases h; exact .int _
  | .str _, _, h, _ => by cases h; exact .str _
  | .lst ds, _, h, g => by
    cases h with
    | lst h1 h2 =>
      rw [D.py]
      exact .lst (SqL.of h1) (RpL.dp h2 (by simpa [D.good] using g))
  | .tup ds, _, h, g => by
    cases h with
    | tup h1 h2 =>
      rw [D.py]
      exact .tup h1 (RpL.dp h2 (by simpa [D.good] using g))
  | .ins _ _ _, _, h, g => by simp [D.good] at g
theorem RpL.dp : ∀ {ds : List D} {vs : List V}, RpL K H vs ds → D.goodL ds = true → DpAll K H vs (D.pyL ds)
  | [], _, h, _ => by cases h; rw [D.pyL]; exact .nil
  | d :: ds, _, h, g => by
    cases h with
    | cons h1 h2 =>
      have g' : d.good = true ∧ D.goodL ds = true := by simpa [D.goodL] using g
      rw [D.pyL]
      exact .cons (Rp.dp h1 g'.1) (RpL.dp h2 g'.2)
end
end
/-- == of data -/
def deq (x y : D) : Bool := PyData.eqv x.py y.py
def dEq (x y : D) : Option D := if x.good = true ∧ y.good = true ∧ x.dep ≤ 64 ∧ y.dep ≤ 64 then some (.bl (deq x y)) else none
def dNe (x y : D) : Option D := if x.good = true ∧ y.good = true ∧ x.dep ≤ 64 ∧ y.dep ≤ 64 then some (.bl (!deq x y)) else none
/-! ### arithmetic -/
def DivOk (i j : Int) : Prop := j ≠ 0 ∧ j.natAbs.log2 < 9000
instance : Decidable (DivOk i j) := by unfold DivOk; exact inferInstance
def MulOk (i j : Int) : Prop := i.natAbs.log2 + j.natAbs.log2 < 1000000
instance : Decidable (MulOk i j) := by unfold MulOk; exact inferInstance
def dAdd : D → D → Option D
  | .int i, .int j => some (.int (i + j))
  | .tup xs, .tup ys => if xs.length + ys.length ≤ sizeLine then some (.tup (xs ++ ys)) else none
  | .lst xs, .lst ys => if xs.length + ys.length ≤ sizeLine then some (.lst (xs ++ ys)) else none
  | .str x, .str y => if x.length + y.length ≤ sizeLine then some (.str (x ++ y)) else none
  | _, _ => none
def dSub : D → D → Option D
  | .int i, .int j => some (.int (i - j))
  | _, _ => none
def dMul : D → D → Option D
  | .int i, .int j => if MulOk i j then some (.int (i * j)) else none
  | .tup xs, .int k => if xs ≠ [] ∧ 2 ≤ k ∧ k ≤ 1000 ∧ xs.length ≤ 1000 then some (.tup (List.replicate k.toNat xs).flatten) else none
  | .lst xs, .int k => if -(2 ^ 63) ≤ k ∧ k < 2 ^ 63 ∧ xs.length * k.toNat ≤ sizeLine then some (.lst (List.replicate k.toNat xs).flatten) else none
  | _, _ => none
def dDiv : D → D → Option D
  | .int i, .int j => if DivOk i j then some (.int (i.fdiv j)) else none
  | _, _ => none
def dMod : D → D → Option D
  | .int i, .int j => if j ≠ 0 then some (.int (i.fmod j)) else none
  | _, _ => none
def dPow : D → D → Option D
  | .int i, .int j => if 0 ≤ j ∧ j ≤ 1000000 ∧ i.natAbs < 2 ^ 64 then some (.int (i ^ j.toNat)) else none
  | _, _ => none
def dLt : D → D → Option D
  | .int i, .int j => some (.bl (decide (i < j)))
  | _, _ => none
def dLe : D → D → Option D
  | .int i, .int j => some (.bl (decide (i ≤ j)))
  | _, _ => none
def dGt : D → D → Option D
  | .int i, .int j => some (.bl (decide (j < i)))
  | _, _ => none
def dGe : D → D → Option D
  | .int i, .int j => some (.bl (decide (j ≤ i)))
  | _, _ => none
/-- is: against None, bools -/
def dIs : D → D → Option D
  | .non, .non => some (.bl true)
  | .bl _, .non => some (.bl false) | .int _, .non => some (.bl false) | .str _, .non => some (.bl false) | .lst _, .non => some (.bl false) | .tup _, .non => some (.bl false) | .ins _ _ _, .non => some (.bl false)
  | .bl a, .bl b => some (.bl (decide (a = b)))
  | .non, .bl _ => some (.bl false) | .int _, .bl _ => some (.bl false) | .str _, .bl _ => some (.bl false) | .lst _, .bl _ => some (.bl false) | .tup _, .bl _ => some (.bl false) | .ins _ _ _, .bl _ => some (.bl false)
  | _, _ => none
def dIsNot (x y : D) : Option D := match dIs x y with
  | some (.bl b) => some (.bl (!b))
  | _ => none
def D.flat : D → Bool
  | .non => true | .bl _ => true | .int _ => true | .str _ => true
  | _ => false
def D.val : D → V
  | .non => .non | .bl b => .bl b | .int i => .int i | .str x => .str x
  | _ => .non
def dInS (x : D) (ys : List D) : Option D := if x.flat = true ∧ ys.all D.flat = true then some (.bl (inV x.val (ys.map D.val))) else none
def dIn : D → D → Option D
  | x, .lst ys => dInS x ys
  | x, .tup ys => dInS x ys
  | _, _ => none
def dNot : Option D → Option D
  | some (.bl b) => some (.bl (!b))
  | _ => none
def dNotIn (x y : D) : Option D := dNot (dIn x y)
section
variable {X : Cx} {B : Bs}
theorem op_fdivX : OpR X (binaryOp .FloorDiv) (rI DivOk fun i j => .int (i.fdiv j)) := opI fun i j _ _ _ _ _ hc q => floordiv_int hc.1 q (.inl (PyProof.noPylong_of_log2 hc.2))
theorem op_mulX : OpR X (binaryOp .Mult) (rI MulOk fun i j => .int (i * j)) := opI fun _ _ _ _ _ _ _ hc q => mul_int q (CMulW.ok hc)
theorem relv_plain {x : V} {v : Value} {b : Bool} (r : RelV x v) : plainIs v (.bool b) = true ∧ ((v == Value.bool b) = decide (x = .bl b)) := by
  cases x with
  | bl c =>
    cases (show v = Value.bool c from r)
    refine ⟨rfl, ?_⟩
    by_cases e : c = b
    · subst e; simp
    · have e1 : ¬ (V.bl c = V.bl b) := fun z => e (V.bl.inj z)
      rw [decide_eq_false e1]
      exact beq_eq_false_iff_ne.mpr fun z => e (Value.bool.inj z)
  | non => cases (show v = Value.none from r); exact ⟨rfl, rfl⟩
  | int i => obtain ⟨t, w⟩ := (show ∃ t, v = Value.int i t from r); subst w; exact ⟨rfl, rfl⟩
  | str i => obtain ⟨t, w⟩ := (show ∃ t, v = Value.str i t from r); subst w; exact ⟨rfl, rfl⟩
  | byt i => obtain ⟨t, w⟩ := (show ∃ t, v = Value.bytes i t from r); subst w; exact ⟨rfl, rfl⟩
  | flt i => obtain ⟨t, w⟩ := (show ∃ t, v = Value.float i t from r); subst w; exact ⟨rfl, rfl⟩
  | ref a => cases (show v = Value.ref a from r); exact ⟨rfl, rfl⟩
  | ty n => cases (show v = Value.type n from r); exact ⟨rfl, rfl⟩
/-- is, is not against a bool: whatever stands on the left -/
theorem op_isBlX : OpR X (compareOp .Is) (fun x y H Q => ∃ b, y = .bl b ∧ Q (.bl (decide (x = .bl b))) H) := by
  intro pins s σ H x y v u Q I rx ry h
  obtain ⟨b, rfl, q⟩ := h
  cases (show u = Value.bool b from ry)
  obtain ⟨h1, h2⟩ := relv_plain (b := b) rx
  exact wpAny_is_plain h1 ⟨.bl _, H, I, by rw [h2]; rfl, q⟩
theorem op_notBlX : OpR X (compareOp .IsNot) (fun x y H Q => ∃ b, y = .bl b ∧ Q (.bl (!decide (x = .bl b))) H) := by
  intro pins s σ H x y v u Q I rx ry h
  obtain ⟨b, rfl, q⟩ := h
  cases (show u = Value.bool b from ry)
  obtain ⟨h1, h2⟩ := relv_plain (b := b) rx
  exact wpAny_isNot_plain h1 ⟨.bl _, H, I, by rw [h2]; rfl, q⟩
abbrev rIsX : R2 := fun x y H Q => (y = .non ∧ Q (.bl (decide (x = .non))) H) ∨ ∃ b, y = .bl b ∧ Q (.bl (decide (x = .bl b))) H
abbrev rIsNotX : R2 := fun x y H Q => (y = .non ∧ Q (.bl (!decide (x = .non))) H) ∨ ∃ b, y = .bl b ∧ Q (.bl (!decide (x = .bl b))) H
abbrev rAddX (K : PySem.W.Frag) : R2 := fun x y H Q => (rI0 fun i j => .int (i + j)) x y H Q ∨ (rCatA K) x y H Q ∨ rCat x y H Q ∨ (∃ i j, x = .str i ∧ y = .str j ∧ i.length + j.length ≤ sizeLine ∧ Q (.str (i ++ j)) H)
abbrev rMulX (K : PySem.W.Frag) : R2 := fun x y H Q => (rI MulOk fun i j => .int (i * j)) x y H Q ∨ (rRepT K) x y H Q ∨ rRep x y H Q
theorem op_isX : OpR X (compareOp .Is) rIsX := op_isN.or op_isBlX
theorem op_isNotX : OpR X (compareOp .IsNot) rIsNotX := op_notN.or op_notBlX
theorem op_addX : OpR X (binaryOp .Add) (rAddX X.K) := op_add.or (op_catA.or (op_cat.or op_add_str))
theorem op_mulA : OpR X (binaryOp .Mult) (rMulX X.K) := op_mulX.or (op_repT.or op_rep)
variable {G H : Hp} {x y : V} {dx dy dz : D} {Q : VK}
/-- what is, by kinds -/
theorem RG.non_iff {H0 : Hp} (r : RG B H0 G H x dx) : decide (x = .non) = (match dx with | .non => true | _ => false) := by
  rcases r with r | ⟨p, vs, ds, rfl, rfl, _⟩
  · cases r <;> rfl
  · rfl
theorem RG.bl_iff {H0 : Hp} {b : Bool} (r : RG B H0 G H x dx) : decide (x = .bl b) = (match dx with | .bl c => decide (c = b) | _ => false) := by
  rcases r with r | ⟨p, vs, ds, rfl, rfl, _⟩
  · cases r with
    | bl c =>
      by_cases e : c = b
      · subst e; simp
      · have e1 : ¬ (V.bl c = V.bl b) := fun z => e (V.bl.inj z)
        rw [decide_eq_false e1]
        exact (decide_eq_false e).symm
    | _ => rfl
  · rfl
theorem ops_is : OpS B rIsX dIs := by
  intro G H x y dx dy dz Q hn hs rx ry e k
  cases dy with
  | non =>
    have hy : y = .non := by
      have := ry.pure fun _ => by simp
      cases this; rfl
    refine .inl ⟨hy, k _ _ _ hs ?_⟩
    rw [rx.non_iff]
    cases dx <;> (simp only [dIs, Option.some.injEq] at e; subst e; exact .bl _)
  | bl b =>
    refine .inr ⟨b, ry.bl, k _ _ _ hs ?_⟩
    rw [rx.bl_iff]
    cases dx <;> (simp only [dIs, Option.some.injEq] at e; subst e; exact .bl _)
  | _ => cases dx <;> simp [dIs] at e
theorem ops_isNot : OpS B rIsNotX dIsNot := by
  intro G H x y dx dy dz Q hn hs rx ry e k
  unfold dIsNot at e
  cases dy with
  | non =>
    have hy : y = .non := by
      have := ry.pure fun _ => by simp
      cases this; rfl
    refine .inl ⟨hy, k _ _ _ hs ?_⟩
    rw [rx.non_iff]
    cases dx <;> (simp only [dIs, Option.some.injEq] at e; subst e; exact .bl _)
  | bl b =>
    refine .inr ⟨b, ry.bl, k _ _ _ hs ?_⟩
    rw [rx.bl_iff]
    cases dx <;> (simp only [dIs, Option.some.injEq] at e; subst e; exact .bl _)
  | _ => cases dx <;> simp [dIs] at e
theorem ops_int {g : Int → Int → V} {f : D → D → Option D} {C : Int → Int → Prop} (h : ∀ dx dy dz, f dx dy = some dz → ∃ i j, dx = .int i ∧ dy = .int j ∧ C i j ∧ ((∃ k, dz = .int k ∧ g i j = .int k) ∨ ∃ k, dz = .bl k ∧ g i j = .bl k)) : OpS B (rI C g) f := by
  intro G H x y dx dy dz Q hn hs rx ry e k
  obtain ⟨i, j, rfl, rfl, hc, hz⟩ := h _ _ _ e
  refine ⟨i, j, rx.int, ry.int, hc, ?_⟩
  rcases hz with ⟨n, rfl, e2⟩ | ⟨n, rfl, e2⟩
  · rw [e2]; exact k _ _ _ hs (.int n)
  · rw [e2]; exact k _ _ _ hs (.bl n)
theorem ops_int0 {g : Int → Int → V} {f : D → D → Option D} (h : ∀ dx dy dz, f dx dy = some dz → ∃ i j, dx = .int i ∧ dy = .int j ∧ ((∃ k, dz = .int k ∧ g i j = .int k) ∨ ∃ k, dz = .bl k ∧ g i j = .bl k)) : OpS B (rI0 g) f := by
  intro G H x y dx dy dz Q hn hs rx ry e k
  obtain ⟨i, j, rfl, rfl, hz⟩ := h _ _ _ e
  refine ⟨i, j, rx.int, ry.int, ?_⟩
  rcases hz with ⟨n, rfl, e2⟩ | ⟨n, rfl, e2⟩
  · rw [e2]; exact k _ _ _ hs (.int n)
  · rw [e2]; exact k _ _ _ hs (.bl n)
theorem ops_sub : OpS B (rI0 fun i j => .int (i - j)) dSub := ops_int0 fun dx dy dz e => by
  cases dx <;> cases dy <;> simp only [dSub, Option.some.injEq, reduceCtorEq] at e
  exact ⟨_, _, rfl, rfl, .inl ⟨_, e.symm, rfl⟩⟩
theorem ops_lt : OpS B (rI0 fun i j => .bl (decide (i < j))) dLt := ops_int0 fun dx dy dz e => by
  cases dx <;> cases dy <;> simp only [dLt, Option.some.injEq, reduceCtorEq] at e
  exact ⟨_, _, rfl, rfl, .inr ⟨_, e.symm, rfl⟩⟩
theorem ops_le : OpS B (rI0 fun i j => .bl (decide (i ≤ j))) dLe := ops_int0 fun dx dy dz e => by
  cases dx <;> cases dy <;> simp only [dLe, Option.some.injEq, reduceCtorEq] at e
  exact ⟨_, _, rfl, rfl, .inr ⟨_, e.symm, rfl⟩⟩
theorem ops_gt : OpS B (rI0 fun i j => .bl (decide (j < i))) dGt := ops_int0 fun dx dy dz e => by
  cases dx <;> cases dy <;> simp only [dGt, Option.some.injEq, reduceCtorEq] at e
  exact ⟨_, _, rfl, rfl, .inr ⟨_, e.symm, rfl⟩⟩
theorem ops_ge : OpS B (rI0 fun i j => .bl (decide (j ≤ i))) dGe := ops_int0 fun dx dy dz e => by
  cases dx <;> cases dy <;> simp only [dGe, Option.some.injEq, reduceCtorEq] at e
  exact ⟨_, _, rfl, rfl, .inr ⟨_, e.symm, rfl⟩⟩
theorem ops_div : OpS B (rI DivOk fun i j => .int (i.fdiv j)) dDiv := ops_int fun dx dy dz e => by
  cases dx <;> cases dy <;> simp only [dDiv, reduceCtorEq] at e
  split at e
  · rename_i h; cases e; exact ⟨_, _, rfl, rfl, h, .inl ⟨_, rfl, rfl⟩⟩
  · cases e
theorem ops_mod : OpS B (rI (fun _ j => j ≠ 0) fun i j => .int (i.fmod j)) dMod := ops_int fun dx dy dz e => by
  cases dx <;> cases dy <;> simp only [dMod, reduceCtorEq] at e
  split at e
  · rename_i h; cases e; exact ⟨_, _, rfl, rfl, h, .inl ⟨_, rfl, rfl⟩⟩
  · cases e
theorem ops_pow : OpS B (rI CPow fun i j => .int (i ^ j.toNat)) dPow := ops_int fun dx dy dz e => by
  cases dx <;> cases dy <;> simp only [dPow, reduceCtorEq] at e
  split at e
  · rename_i h; cases e; exact ⟨_, _, rfl, rfl, h, .inl ⟨_, rfl, rfl⟩⟩
  · cases e
theorem ops_eq (hK : X.K = B.K) : OpS B (rEqD X.K) dEq := by
  intro G H x y dx dy dz Q hn hs rx ry e k
  unfold dEq at e
  split at e
  · rename_i h
    obtain ⟨g1, g2, d1, d2⟩ := h
    cases e
    rw [hK]
    exact ⟨_, _, ((rx.view hs.ghm).mono Hm_same).dp g1, ((ry.view hs.ghm).mono Hm_same).dp g2, D.shaped g1 d1, D.shaped g2 d2, k _ _ _ hs (.bl _)⟩
  · cases e
theorem ops_ne (hK : X.K = B.K) : OpS B (rNeD X.K) dNe := by
  intro G H x y dx dy dz Q hn hs rx ry e k
  unfold dNe at e
  split at e
  · rename_i h
    obtain ⟨g1, g2, d1, d2⟩ := h
    cases e
    rw [hK]
    exact ⟨_, _, ((rx.view hs.ghm).mono Hm_same).dp g1, ((ry.view hs.ghm).mono Hm_same).dp g2, D.shaped g1 d1, D.shaped g2 d2, k _ _ _ hs (.bl _)⟩
  · cases e
theorem ops_add (hK : X.K = B.K) : OpS B (rAddX X.K) dAdd := by
  intro G H x y dx dy dz Q hn hs rx ry e k
  cases dx <;> cases dy <;> simp only [dAdd, reduceCtorEq] at e
  · cases e
    exact .inl ⟨_, _, rx.int, ry.int, k _ _ _ hs (.int _)⟩
  · split at e
    · rename_i h; cases e
      exact .inr (.inr (.inr ⟨_, _, rx.str, ry.str, h, k _ _ _ hs (.str _)⟩))
    · cases e
  · split at e
    · rename_i h; cases e
      obtain ⟨a, vs, rfl, h1, h2⟩ := rx.lst hs.ghm
      obtain ⟨b, us, rfl, h3, h4⟩ := ry.lst hs.ghm
      refine .inr (.inr (.inl ⟨a, b, vs, us, rfl, rfl, Hm_some h1, Hm_some h3, by rw [h2.length, h4.length]; exact h, fun p hp => ?_⟩))
      exact k _ _ _ (hn p _ hp) (.lst upd_same ((h2.append h4).mono (hn p (.lst (vs ++ us)) hp).gg))
    · cases e
  · split at e
    · rename_i h; cases e
      obtain ⟨a, vs, rfl, h1, h2⟩ := rx.tup
      obtain ⟨b, us, rfl, h3, h4⟩ := ry.tup
      rw [hK]
      refine .inr (.inl ⟨a, b, vs, us, rfl, rfl, Same.seqT hs.gh h1, Same.seqT hs.gh h3, by rw [h2.length, h4.length]; exact h, fun z => ?_, fun _ z => ?_, fun _ _ p hp => ?_⟩)
      · subst z
        cases h2
        exact k _ _ _ hs (.tup h3 h4)
      · subst z
        cases h4
        exact k _ _ _ hs (.tup h1 (by rw [List.append_nil]; exact h2))
      · exact k _ _ _ (hn p _ hp) (.tup (SqT.of upd_same) ((h2.append h4).mono (hn p (.tup (vs ++ us)) hp).gg))
    · cases e
theorem ops_mul (hK : X.K = B.K) : OpS B (rMulX X.K) dMul := by
  intro G H x y dx dy dz Q hn hs rx ry e k
  cases dx <;> cases dy <;> simp only [dMul, reduceCtorEq] at e
  · split at e
    · rename_i h; cases e
      exact .inl ⟨_, _, rx.int, ry.int, h, k _ _ _ hs (.int _)⟩
    · cases e
  · split at e
    · rename_i h; cases e
      obtain ⟨a, vs, rfl, h1, h2⟩ := rx.lst hs.ghm
      refine .inr (.inr ⟨a, _, vs, rfl, ry.int, Hm_some h1, h.1, h.2.1, by rw [h2.length]; exact h.2.2, fun p hp => ?_⟩)
      exact k _ _ _ (hn p _ hp) (.lst upd_same ((h2.rep _).mono (hn p (.lst _) hp).gg))
    · cases e
  · split at e
    · rename_i h; cases e
      obtain ⟨a, vs, rfl, h1, h2⟩ := rx.tup
      rw [hK]
      refine .inr (.inl ⟨a, _, vs, rfl, ry.int, Same.seqT hs.gh h1, fun z => h.1 ?_, h.2.1, h.2.2.1, by rw [h2.length]; exact h.2.2.2, fun p hp => ?_⟩)
      · subst z; cases h2; rfl
      · exact k _ _ _ (hn p _ hp) (.tup (SqT.of upd_same) ((h2.rep _).mono (hn p (.tup _) hp).gg))
    · cases e
theorem Rp.flat {K : PySem.W.Frag} (h : Rp K H x dx) (f : dx.flat = true) : x = dx.val ∧ flatV x = true := by
  cases h <;> first | exact ⟨rfl, rfl⟩ | cases f
theorem RpL.flat {K : PySem.W.Frag} : ∀ {ds : List D} {vs : List V}, RpL K H vs ds → ds.all D.flat = true → vs = ds.map D.val ∧ vs.all flatV = true
  | [], _, h, _ => by cases h; exact ⟨rfl, rfl⟩
  | d :: ds, _, h, f => by
    cases h with
    | cons h1 h2 =>
      rw [List.all_cons, Bool.and_eq_true] at f
      obtain ⟨e1, f1⟩ := h1.flat f.1
      obtain ⟨e2, f2⟩ := RpL.flat h2 f.2
      refine ⟨by rw [e1, e2]; rfl, by rw [List.all_cons, f1, f2]; rfl⟩
theorem ops_in (hK : X.K = B.K) : OpS B (rIn X.K false) dIn := by
  intro G H x y dx dy dz Q hn hs rx ry e k
  cases dy <;> simp only [dIn, reduceCtorEq] at e
  all_goals
    unfold dInS at e
    split at e
    · rename_i h
      cases e
      obtain ⟨e1, f1⟩ := (rx.pure fun ds z => by subst z; cases h.1).flat h.1
      first
      | obtain ⟨a, vs, rfl, h1, h2⟩ := ry.lst hs.ghm
        obtain ⟨e2, f2⟩ := h2.flat h.2
        refine ⟨a, vs, rfl, .inl (SqL.of (Hm_some h1)), f1, f2, ?_⟩
        rw [e1, e2]
        exact k _ _ _ hs (.bl _)
      | obtain ⟨a, vs, rfl, h1, h2⟩ := ry.tup
        obtain ⟨e2, f2⟩ := h2.flat h.2
        rw [hK]
        refine ⟨a, vs, rfl, .inr (Same.seqT hs.gh h1), f1, f2, ?_⟩
        rw [e1, e2]
        exact k _ _ _ hs (.bl _)
    · cases e
theorem ops_notIn (hK : X.K = B.K) : OpS B (rIn X.K true) dNotIn := by
  intro G H x y dx dy dz Q hn hs rx ry e k
  unfold dNotIn at e
  cases q : dIn dx dy with
  | none => rw [q] at e; cases e
  | some dw =>
    rw [q] at e
    cases dw <;> simp only [dNot, reduceCtorEq] at e
    cases e
    cases dy <;> simp only [dIn, reduceCtorEq] at q
    all_goals
      unfold dInS at q
      split at q
      · rename_i h
        injection q with q
        injection q with q
        subst q
        obtain ⟨e1, f1⟩ := (rx.pure fun ds z => by subst z; cases h.1).flat h.1
        first
        | obtain ⟨a, vs, rfl, h1, h2⟩ := ry.lst hs.ghm
          obtain ⟨e2, f2⟩ := h2.flat h.2
          refine ⟨a, vs, rfl, .inl (SqL.of (Hm_some h1)), f1, f2, ?_⟩
          rw [e1, e2]
          exact k _ _ _ hs (.bl _)
        | obtain ⟨a, vs, rfl, h1, h2⟩ := ry.tup
          obtain ⟨e2, f2⟩ := h2.flat h.2
          rw [hK]
          refine ⟨a, vs, rfl, .inr (Same.seqT hs.gh h1), f1, f2, ?_⟩
          rw [e1, e2]
          exact k _ _ _ hs (.bl _)
      · cases q
end
end PU
set_option Elab.async false
set_option linter.all false
set_option maxRecDepth 100000
set_option maxHeartbeats 4000000
/-! PU, part 4: unary, subscripts, slices, built-ins, calls. -/
namespace PU
open PySem PySem.Spec PyProof.Rows L2
section
variable {X : Cx} {B : Bs} {e a b c : Expr} {es : List Expr} {t ta tb tc : TE} {T Ta Tb Tc : TE'} {G H G' H' : Hp} {σ : L2.St} {ρ : PEnv} {v x y : V} {d dx dy dz : D} {pos p2 p pos2 : Pos}

/-! ### unary -/
def dNeg : D → Option D
  | .int i => some (.int (-i))
  | _ => none
theorem pu_neg (ha : PuG X B a ta Ta) : PuE X B (.UnaryOp .USub a pos) (tUn (rU fun i => .int (-i)) ta) (xOp1 dNeg Ta) := by
  refine ⟨pe_un un_neg ha.pe, fun G H σ ρ R Q E hT k => ?_⟩
  refine ha.pu G H σ ρ _ _ E hT fun d v G1 H1 h1 s1 r1 => ?_
  obtain ⟨z, e1, h2⟩ := ok_iff h1
  cases d <;> simp only [dNeg, reduceCtorEq] at e1
  cases e1
  exact ⟨_, r1.int, k _ _ _ _ h2 s1 (.int _)⟩

/-! ### subscripts -/
theorem RpL.atI {K : PySem.W.Frag} {vs : List V} {ds : List D} (h : RpL K H vs ds) {i : Int} {d : D} (e : atI ds i = some d) : ∃ v, L2.atI vs i = some v ∧ Rp K H v d := by
  unfold L2.atI at e ⊢
  rw [h.length]
  cases q : ixN ds.length i with
  | none => rw [q] at e; cases e
  | some j =>
    rw [q] at e
    exact h.get e
def dIx : D → D → Option D
  | .lst ds, .int i => atI ds i
  | .tup ds, .int i => atI ds i
  | .str z, .int i => if z.length ≤ sizeLine then (atI z.cps.toList i).map fun c => .str ⟨#[c]⟩ else none
  | _, _ => none
theorem ops_ix (hK : X.K = B.K) : OpS B (rIx X.K) dIx := by
  intro G H x y dx dy dz Q hn hs rx ry e k
  cases dx <;> cases dy <;> simp only [dIx, reduceCtorEq] at e
  · split at e
    · rename_i hl
      cases q : L2.atI (α := Nat) _ _ with
      | none => rw [q] at e; cases e
      | some c =>
        rw [q] at e
        cases e
        exact .inr (.inr ⟨_, _, c, rx.str, ry.int, hl, q, k _ _ _ hs (.str _)⟩)
    · cases e
  · obtain ⟨p, vs, rfl, h1, h2⟩ := rx.lst hs.ghm
    obtain ⟨v, h3, h4⟩ := h2.atI e
    exact .inl ⟨p, vs, _, v, rfl, ry.int, SqL.of (Hm_some h1), h3, k _ _ _ hs h4⟩
  · obtain ⟨p, vs, rfl, h1, h2⟩ := rx.tup
    obtain ⟨v, h3, h4⟩ := h2.atI e
    rw [hK]
    exact .inr (.inl ⟨p, vs, _, v, rfl, ry.int, Same.seqT hs.gh h1, h3, k _ _ _ hs h4⟩)
theorem pu_ix (hK : X.K = B.K := by rfl) (ha : PuG X B a ta Ta) (hb : PuG X B b tb Tb) (hs : PlainIx b := by exact fun _ _ => rfl) : PuE X B (.Subscript a b pos) (tOp (rIx X.K) ta tb) (xOp dIx Ta Tb) :=
  ⟨pe_ix ix_seq ha.pe hb.pe hs, op_pu (ops_ix hK) ha.pu hb.pu⟩

/-! ### slices without a step -/
abbrev TO' := PEnv → (Option Int → Prop) → Prop
structure PuO (X : Cx) (B : Bs) (e : Option Expr) (t : TO) (T : TO') : Prop where
  pe : PO X e t
  pu : ∀ G H σ ρ R Q, EnvR B G H σ ρ → T ρ R → (∀ o G' H', R o → Stp B G H G' H' → Q o H') → t σ H Q
def xNo : TO' := fun _ R => R none
def isI (d : D) (R : Int → Prop) : Prop := match d with
  | .int i => R i
  | _ => False
theorem isI_iff {R : Int → Prop} (h : isI d R) : ∃ i, d = .int i ∧ R i := by
  match d, h with
  | .int i, h => exact ⟨i, rfl, h⟩
def xPart (T : TE') : TO' := fun ρ R => T ρ fun d => isI d fun i => R (some i)
theorem puo_none : PuO X B none tNoPart xNo := ⟨po_none, fun G H σ ρ R Q E hT k => k _ _ _ hT (.refl E)⟩
theorem puo_some (h : PuE X B e t T) : PuO X B (some e) (tPart t) (xPart T) := by
  refine ⟨po_some h.pe, fun G H σ ρ R Q E hT k => ?_⟩
  refine h.pu G H σ ρ _ _ E hT fun d v G1 H1 h1 s1 r1 => ?_
  obtain ⟨i, rfl, h2⟩ := isI_iff h1
  exact ⟨i, r1.dcases, k _ _ _ h2 s1⟩
def cutD (xs : List D) (lo hi : Option Int) : List D := (xs.drop (HT.sIx xs.length 0 lo)).take (HT.sIx xs.length xs.length hi - HT.sIx xs.length 0 lo)
theorem RpL.cut {K : PySem.W.Frag} {vs : List V} {ds : List D} (h : RpL K H vs ds) (lo hi : Option Int) : RpL K H (cutV vs lo hi) (cutD ds lo hi) := by
  unfold cutV cutD
  rw [h.length]
  exact (h.drop _).take _
def dCut (d : D) (lo hi : Option Int) : Option D := match d with
  | .lst xs => some (.lst (cutD xs lo hi))
  | .tup xs => some (.tup (cutD xs lo hi))
  | _ => none
def xSl (Ta : TE') (Tl Tu : TO') : TE' := fun ρ R => Ta ρ fun d => Tl ρ fun l => Tu ρ fun u => ok (dCut d l u) R
abbrev rSlX (K : PySem.W.Frag) : V → Option Int → Option Int → Hp → VK → Prop := fun x lo hi H Q => rSlL K x lo hi H Q ∨ rSlA K x lo hi H Q
theorem pu_slice {lo hi : Option Expr} {tl th : TO} {Tl Th : TO'} (hK : X.K = B.K := by rfl) (ha : PuG X B a ta Ta) (hl : PuO X B lo tl Tl) (hh : PuO X B hi th Th) :
    PuE X B (.Subscript a (.Slice lo hi none p2) pos) (tSl (rSlX X.K) ta tl th) (xSl Ta Tl Th) := by
  refine ⟨pe_slice (sl_list.or sl_tupA) ha.pe hl.pe hh.pe, fun G H σ ρ R Q E hT k => ?_⟩
  refine ha.pu G H σ ρ _ _ E hT fun d v G1 H1 h1 s1 r1 => ?_
  refine hl.pu G1 H1 σ ρ _ _ (E.step s1) h1 fun l G2 H2 h2 s2 => ?_
  refine hh.pu G2 H2 σ ρ _ _ ((E.step s1).step s2) h2 fun u G3 H3 h3 s3 => ?_
  have E3 := ((E.step s1).step s2).step s3
  have s13 := (s1.trans s2).trans s3
  have r3 := RG.step (H0 := H) (H0' := H) (RG.step (H0 := H) (H0' := H) r1 s2) s3
  obtain ⟨z, e1, h4⟩ := ok_iff h3
  cases d <;> simp only [dCut, reduceCtorEq] at e1
  · cases e1
    obtain ⟨p, vs, rfl, q1, q2⟩ := r3.lst E3.ghm
    refine .inl ⟨p, vs, rfl, SqL.of (Hm_some q1), fun q hq => ?_⟩
    have s4 := E3.stpNew (.lst (cutV vs l u)) hq
    exact k _ _ _ _ h4 (s13.trans s4) (.lst upd_same ((q2.cut l u).mono s4.gg))
  · cases e1
    obtain ⟨p, vs, rfl, q1, q2⟩ := r3.tup
    rw [hK]
    refine .inr ⟨p, vs, rfl, Same.seqT E3.gh q1, fun w => ?_, fun _ q hq => ?_⟩
    · rename_i xs
      have e2 : cutD xs l u = xs := by
        unfold cutD
        rw [← q2.length, w.1, w.2, List.drop_zero, Nat.sub_zero, q2.length, List.take_length]
      refine k _ _ _ _ h4 s13 ?_
      rw [e2]
      exact .tup q1 q2
    · have s4 := E3.stpNew (.tup (cutV vs l u)) hq
      exact k _ _ _ _ h4 (s13.trans s4) (.tup (SqT.of upd_same) ((q2.cut l u).mono s4.gg))
/-- a slice of a list, new -/
theorem pu_sliceF {lo hi : Option Expr} {tl th : TO} {Tl Th : TO'} (hK : X.K = B.K := by rfl) (ha : PuG X B a ta Ta) (hl : PuO X B lo tl Tl) (hh : PuO X B hi th Th) :
    PuF X B (.Subscript a (.Slice lo hi none p2) pos) (tSl (rSlL X.K) ta tl th) (fun ρ R => Ta ρ fun d => Tl ρ fun l => Th ρ fun u => ∃ xs, d = .lst xs ∧ R (.lst (cutD xs l u))) := by
  refine ⟨pe_slice sl_list ha.pe hl.pe hh.pe, fun G H σ ρ R Q E hT k => ?_⟩
  refine ha.pu G H σ ρ _ _ E hT fun d v G1 H1 h1 s1 r1 => ?_
  refine hl.pu G1 H1 σ ρ _ _ (E.step s1) h1 fun l G2 H2 h2 s2 => ?_
  refine hh.pu G2 H2 σ ρ _ _ ((E.step s1).step s2) h2 fun u G3 H3 h3 s3 => ?_
  have E3 := ((E.step s1).step s2).step s3
  have s13 := (s1.trans s2).trans s3
  have r3 := RG.step (H0 := H) (H0' := H) (RG.step (H0 := H) (H0' := H) r1 s2) s3
  obtain ⟨xs, rfl, h4⟩ := h3
  obtain ⟨p, vs, rfl, q1, q2⟩ := r3.lst E3.ghm
  refine ⟨p, vs, rfl, SqL.of (Hm_some q1), fun q hq => ?_⟩
  have s4 := E3.stpNewH (.lst (cutV vs l u)) hq
  exact k _ _ _ _ h4 (s13.trans s4) ⟨q, _, _, rfl, rfl, s13.free hq, s13.gh.free hq, upd_same, q2.cut l u⟩
/-- xs[::-1] of a list, new -/
theorem pu_revF {k : Nat} {p1 p3 : Pos} (hK : X.K = B.K := by rfl) (ha : PuG X B a ta Ta) : PuF X B (.Subscript a (.Slice none none (some (.UnaryOp .USub (.Constant (.int 1) k p1) p2)) p3) pos) (tRevL X.K ta) (fun ρ R => Ta ρ fun d => ∃ xs, d = .lst xs ∧ R (.lst xs.reverse)) := by
  refine ⟨pe_revL ha.pe, fun G H σ ρ R Q E hT k => ?_⟩
  refine ha.pu G H σ ρ _ _ E hT fun d v G1 H1 h1 s1 r1 => ?_
  obtain ⟨xs, rfl, h4⟩ := h1
  obtain ⟨p, vs, rfl, q1, q2⟩ := r1.lst s1.ghm
  refine ⟨p, vs, rfl, SqL.of (Hm_some q1), fun q hq => ?_⟩
  have s4 := (E.step s1).stpNewH (.lst vs.reverse) hq
  exact k _ _ _ _ h4 (s1.trans s4) ⟨q, _, _, rfl, rfl, s1.free hq, s1.gh.free hq, upd_same, q2.reverse⟩

/-! ### lists made by operators -/
theorem pu_addF (ha : PuG X B a ta Ta) (hb : PuG X B b tb Tb) : PuF X B (.BinOp a .Add b pos) (tOp rCat ta tb) (fun ρ R => Ta ρ fun x => Tb ρ fun y => ∃ xs ys, x = .lst xs ∧ y = .lst ys ∧ xs.length + ys.length ≤ sizeLine ∧ R (.lst (xs ++ ys))) := by
  refine ⟨pe_op op_cat ha.pe hb.pe, fun G H σ ρ R Q E hT k => ?_⟩
  refine ha.pu G H σ ρ _ _ E hT fun dx x G1 H1 h1 s1 r1 => ?_
  refine hb.pu G1 H1 σ ρ _ _ (E.step s1) h1 fun dy y G2 H2 h2 s2 r2 => ?_
  obtain ⟨xs, ys, rfl, rfl, hl, h3⟩ := h2
  have E2 := (E.step s1).step s2
  obtain ⟨p, vs, rfl, q1, q2⟩ := (RG.step (H0 := H) (H0' := H) r1 s2).lst E2.ghm
  obtain ⟨q, us, rfl, q3, q4⟩ := r2.lst E2.ghm
  refine ⟨p, q, vs, us, rfl, rfl, Hm_some q1, Hm_some q3, by rw [q2.length, q4.length]; exact hl, fun l hl => ?_⟩
  have s3 := E2.stpNewH (.lst (vs ++ us)) hl
  exact k _ _ _ _ h3 ((s1.trans s2).trans s3) ⟨l, _, _, rfl, rfl, (s1.trans s2).free hl, (s1.trans s2).gh.free hl, upd_same, q2.append q4⟩
theorem pu_repF (ha : PuG X B a ta Ta) (hb : PuG X B b tb Tb) : PuF X B (.BinOp a .Mult b pos) (tOp rRep ta tb) (fun ρ R => Ta ρ fun x => Tb ρ fun y => ∃ xs k, x = .lst xs ∧ y = .int k ∧ -(2 ^ 63) ≤ k ∧ k < 2 ^ 63 ∧ xs.length * k.toNat ≤ sizeLine ∧ R (.lst (List.replicate k.toNat xs).flatten)) := by
  refine ⟨pe_op op_rep ha.pe hb.pe, fun G H σ ρ R Q E hT k => ?_⟩
  refine ha.pu G H σ ρ _ _ E hT fun dx x G1 H1 h1 s1 r1 => ?_
  refine hb.pu G1 H1 σ ρ _ _ (E.step s1) h1 fun dy y G2 H2 h2 s2 r2 => ?_
  obtain ⟨xs, n, rfl, rfl, hl, hu, hz, h3⟩ := h2
  have E2 := (E.step s1).step s2
  obtain ⟨p, vs, rfl, q1, q2⟩ := (RG.step (H0 := H) (H0' := H) r1 s2).lst E2.ghm
  refine ⟨p, n, vs, rfl, r2.int, Hm_some q1, hl, hu, by rw [q2.length]; exact hz, fun l hl => ?_⟩
  have s3 := E2.stpNewH (.lst (List.replicate n.toNat vs).flatten) hl
  exact k _ _ _ _ h3 ((s1.trans s2).trans s3) ⟨l, _, _, rfl, rfl, (s1.trans s2).free hl, (s1.trans s2).gh.free hl, upd_same, q2.rep _⟩

/-! ### built-ins of one argument -/
/-- a rule of one argument does what f says of data -/
def CallS (B : Bs) (r : List V → Hp → VK → Prop) (f : D → Option D) : Prop := ∀ (G H : Hp) (x : V) (dx dz : D) (Q : VK), (∀ p o, H p = none → Stp B G H (upd G p o) (upd H p o)) → Stp B G H G H →
  RG B H G H x dx → f dx = some dz → (∀ v G' H', Stp B G H G' H' → Rp B.K G' v dz → Q v H') → r [x] H Q
theorem call1_pu {r : List V → Hp → VK → Prop} {f : D → Option D} (hf : CallS B r f) (ha : Pu B (RG B) ta Ta) : Pu B (RE B) (tCB r (tCons ta tNil)) (xOp1 f Ta) := fun G H σ ρ R Q E hT k => by
  refine ha G H σ ρ _ _ E hT fun dx x G1 H1 h1 s1 r1 => ?_
  obtain ⟨dz, e, h3⟩ := ok_iff h1
  have E1 := E.step s1
  exact hf G1 H1 x dx dz Q (fun p o hp => E1.stpNew o hp) (.refl E1) (r1.step (.refl E1)) e fun v G' H' s3 r3 => k _ _ _ _ h3 (s1.trans s3) r3
theorem pu_callB {r : List V → Hp → VK → Prop} {f : D → Option D} {n : Str} {id : String} (hc : CallR X (.builtin id) r) (hf : CallS B r f) (hg : Gl X n) (hm : X.mg n = none) (hv : bootBuiltins n = some (.builtin id)) (ha : PuG X B a ta Ta)
    (hn : n ≠ "__name__" := by decide) (hdb : (n == ("__debug__" : Str)) = false := by decide) (he : starEach [a] X.env = (false, eval a X.env) :: starEach [] X.env := by rfl) (hpl : (backTo pos (starEach [] X.env)).any (·.1) = false := by rfl) :
    PuE X B (.Call (.Name n p) [a] [] pos) (tCB r (tCons ta tNil)) (xOp1 f Ta) := ⟨pe_callB hc hg hm hv (pa_cons ha.pe pa_nil he) hn hdb he hpl, call1_pu hf ha.pu⟩
theorem pu_callTy {r : List V → Hp → VK → Prop} {f : D → Option D} {n : Str} {id : String} (hc : CallR X (.type id) r) (hf : CallS B r f) (hg : Gl X n) (hm : X.mg n = none) (hv : bootBuiltins n = some (.type id)) (ha : PuG X B a ta Ta)
    (hn : n ≠ "__name__" := by decide) (hdb : (n == ("__debug__" : Str)) = false := by decide) (he : starEach [a] X.env = (false, eval a X.env) :: starEach [] X.env := by rfl) (hpl : (backTo pos (starEach [] X.env)).any (·.1) = false := by rfl) :
    PuE X B (.Call (.Name n p) [a] [] pos) (tCB r (tCons ta tNil)) (xOp1 f Ta) := ⟨pe_callTy hc hg hm hv (pa_cons ha.pe pa_nil he) hn hdb he hpl, call1_pu hf ha.pu⟩
abbrev rLen (K : PySem.W.Frag) : List V → Hp → VK → Prop := fun xs H Q => ∃ x n, xs = [x] ∧ LenV K x H n ∧ Q (.int n) H
def dLen : D → Option D
  | .lst xs => some (.int xs.length)
  | .tup xs => some (.int xs.length)
  | .str x => if x.length ≤ sizeLine then some (.int x.length) else none
  | _ => none
theorem cs_len (hK : X.K = B.K) : CallS B (rLen X.K) dLen := by
  intro G H x dx dz Q hn hs rx e k
  cases dx <;> simp only [dLen, reduceCtorEq] at e
  · split at e
    · rename_i hl; cases e
      have hx := rx.str
      subst hx
      exact ⟨_, _, rfl, ⟨hl, rfl⟩, k _ _ _ hs (.int _)⟩
    · cases e
  · cases e
    obtain ⟨p, vs, rfl, h1, h2⟩ := rx.lst hs.ghm
    exact ⟨_, _, rfl, .inl ⟨vs, SqL.of (Hm_some h1), h2.length.symm⟩, k _ _ _ hs (.int _)⟩
  · cases e
    obtain ⟨p, vs, rfl, h1, h2⟩ := rx.tup
    rw [hK]
    exact ⟨_, _, rfl, .inr ⟨vs, Same.seqT hs.gh h1, h2.length.symm⟩, k _ _ _ hs (.int _)⟩
abbrev rAbs : List V → Hp → VK → Prop := fun xs H Q => ∃ i : Int, xs = [.int i] ∧ Q (.int (if i < 0 then -i else i)) H
def dAbs : D → Option D
  | .int i => some (.int (if i < 0 then -i else i))
  | _ => none
theorem cs_abs : CallS B rAbs dAbs := by
  intro G H x dx dz Q hn hs rx e k
  cases dx <;> simp only [dAbs, reduceCtorEq] at e
  cases e
  have hx := rx.int
  subst hx
  exact ⟨_, rfl, k _ _ _ hs (.int _)⟩
abbrev rIntOf : List V → Hp → VK → Prop := fun xs H Q => (∃ i, xs = [.int i] ∧ Q (.int i) H) ∨ ∃ k : Bool, xs = [.bl k] ∧ Q (.int (if k then 1 else 0)) H
def dIntOf : D → Option D
  | .int i => some (.int i)
  | .bl k => some (.int (if k then 1 else 0))
  | _ => none
theorem cs_int : CallS B rIntOf dIntOf := by
  intro G H x dx dz Q hn hs rx e k
  cases dx <;> simp only [dIntOf, reduceCtorEq] at e
  · cases e
    have hx := rx.bl
    subst hx
    exact .inr ⟨_, rfl, k _ _ _ hs (.int _)⟩
  · cases e
    have hx := rx.int
    subst hx
    exact .inl ⟨_, rfl, k _ _ _ hs (.int _)⟩
abbrev rTupOf (K : PySem.W.Frag) : List V → Hp → VK → Prop := fun xs H Q => ∃ p ys, xs = [.ref p] ∧ ((SqL K H p ys ∧ ∀ l, H l = none → Q (.ref l) (upd H l (.tup ys))) ∨ (SqT K H p ys ∧ Q (.ref p) H))
def dTupOf : D → Option D
  | .lst xs => some (.tup xs)
  | .tup xs => some (.tup xs)
  | _ => none
theorem cs_tup (hK : X.K = B.K) : CallS B (rTupOf X.K) dTupOf := by
  intro G H x dx dz Q hn hs rx e k
  cases dx <;> simp only [dTupOf, reduceCtorEq] at e
  · cases e
    obtain ⟨p, vs, rfl, h1, h2⟩ := rx.lst hs.ghm
    exact ⟨_, _, rfl, .inl ⟨SqL.of (Hm_some h1), fun l hl => k _ _ _ (hn l _ hl) (.tup (SqT.of upd_same) (h2.mono (hn l (.tup vs) hl).gg))⟩⟩
  · cases e
    obtain ⟨p, vs, rfl, h1, h2⟩ := rx.tup
    rw [hK]
    exact ⟨_, _, rfl, .inr ⟨Same.seqT hs.gh h1, k _ _ _ hs (.tup h1 h2)⟩⟩
abbrev rLstOf (K : PySem.W.Frag) : List V → Hp → VK → Prop := fun xs H Q => ∃ p ys, xs = [.ref p] ∧ (SqL K H p ys ∨ SqT K H p ys) ∧ ∀ l, H l = none → Q (.ref l) (upd H l (.lst ys))
def isSeq (d : D) (R : List D → Prop) : Prop := match d with
  | .lst xs => R xs
  | .tup xs => R xs
  | _ => False
theorem isSeq_iff {R : List D → Prop} (h : isSeq d R) : ∃ xs, (d = .lst xs ∨ d = .tup xs) ∧ R xs := by
  match d, h with
  | .lst xs, h => exact ⟨xs, .inl rfl, h⟩
  | .tup xs, h => exact ⟨xs, .inr rfl, h⟩
/-- what is read of a list or a tuple -/
theorem RG.seq {H0 : Hp} {K : PySem.W.Frag} (hK : K = B.K) (S : Same G (Hm B.dl H)) {xs : List D} (r : RG B H0 G H v d) (e : d = .lst xs ∨ d = .tup xs) : ∃ a vs, v = .ref a ∧ (SqL K H a vs ∨ SqT K H a vs) ∧ RpL B.K G vs xs := by
  rcases e with rfl | rfl
  · obtain ⟨p, vs, rfl, h1, h2⟩ := r.lst S
    exact ⟨p, vs, rfl, .inl (SqL.of (Hm_some h1)), h2⟩
  · obtain ⟨p, vs, rfl, h1, h2⟩ := r.tup
    rw [hK]
    exact ⟨p, vs, rfl, .inr (Same.seqT (S.trans Hm_same) h1), h2⟩
/-- list(x), new -/
theorem pu_listOf {n : Str} (hK : X.K = B.K := by rfl) (hg : Gl X n) (hm : X.mg n = none) (hv : bootBuiltins n = some (.type "list")) (ha : PuG X B a ta Ta) (hn : n ≠ "__name__" := by decide) (hdb : (n == ("__debug__" : Str)) = false := by decide)
    (he : starEach [a] X.env = (false, eval a X.env) :: starEach [] X.env := by rfl) (hpl : (backTo pos (starEach [] X.env)).any (·.1) = false := by rfl) :
    PuF X B (.Call (.Name n p) [a] [] pos) (tCB (rLstOf X.K) (tCons ta tNil)) (fun ρ R => Ta ρ fun d => isSeq d fun xs => R (.lst xs)) := by
  refine ⟨pe_callTy call_list_of hg hm hv (pa_cons ha.pe pa_nil he) hn hdb he hpl, fun G H σ ρ R Q E hT k => ?_⟩
  refine ha.pu G H σ ρ _ _ E hT fun dx x G1 H1 h1 s1 r1 => ?_
  obtain ⟨xs, e, h2⟩ := isSeq_iff h1
  obtain ⟨q, vs, rfl, h3, h4⟩ := r1.seq hK s1.ghm e
  refine ⟨q, vs, rfl, h3, fun l hl => ?_⟩
  have s3 := (E.step s1).stpNewH (.lst vs) hl
  exact k _ _ _ _ h2 (s1.trans s3) ⟨l, _, _, rfl, rfl, s1.free hl, s1.gh.free hl, upd_same, h4⟩
/-! sum of whole numbers -/
def D.ints : List D → Option (List Int)
  | [] => some []
  | .int i :: ds => (D.ints ds).map (i :: ·)
  | _ :: _ => none
theorem D.ints_map : ∀ {ds : List D} {ns : List Int}, D.ints ds = some ns → ds = ns.map D.int
  | [], _, h => by cases h; rfl
  | .int i :: ds, ns, h => by
    rw [D.ints] at h
    cases q : D.ints ds with
    | none => rw [q] at h; cases h
    | some ms => rw [q] at h; cases h; rw [D.ints_map q]; rfl
  | .non :: _, _, h => nomatch h
  | .bl _ :: _, _, h => nomatch h
  | .str _ :: _, _, h => nomatch h
  | .lst _ :: _, _, h => nomatch h
  | .tup _ :: _, _, h => nomatch h
  | .ins _ _ _ :: _, _, h => nomatch h
theorem D.ints_of : ∀ ns : List Int, D.ints (ns.map D.int) = some ns
  | [] => rfl
  | n :: ns => by rw [List.map_cons, D.ints, D.ints_of ns]; rfl
def dSum : D → Option D
  | .lst ds => (D.ints ds).map fun ns => .int ns.sum
  | _ => none
theorem cs_sum (hK : X.K = B.K) : CallS B (rSum X.K) dSum := by
  intro G H x dx dz Q hn hs rx e k
  cases dx <;> simp only [dSum, reduceCtorEq] at e
  cases q : D.ints _ with
  | none => rw [q] at e; cases e
  | some ns =>
    rw [q] at e
    cases e
    obtain ⟨p, vs, rfl, h1, h2⟩ := rx.lst hs.ghm
    rw [D.ints_map q] at h2
    have e2 := RpL.ints_inv h2
    subst e2
    exact ⟨p, ns, rfl, SqL.of (Hm_some h1), k _ _ _ hs (.int _)⟩

/-! ### isinstance against built-in types -/
def D.tyN : D → String
  | .non => "NoneType" | .bl _ => "bool" | .int _ => "int" | .str _ => "str" | .lst _ => "list" | .tup _ => "tuple" | .ins _ _ _ => "instance"
def D.isIns : D → Bool
  | .ins _ _ _ => true
  | _ => false
def tyIs : String → String → Bool
  | "bool", "int" => true
  | a, b => a == b
/-- the types that are asked -/
def tyKnown : List String := ["int", "bool", "str", "list", "tuple", "dict"]
theorem kit_known : ∀ n ∈ tyKnown, ∀ d : D, d.isIns = false → kitB d.tyN n = some (tyIs d.tyN n) := by
  intro n hn d hd
  simp only [tyKnown, List.mem_cons, List.not_mem_nil, or_false] at hn
  rcases hn with rfl | rfl | rfl | rfl | rfl | rfl <;> cases d <;> first | (simp only [D.tyN]; decide +kernel) | cases hd
theorem RG.tyx {H0 : Hp} {K : PySem.W.Frag} (hK : K = B.K) (S : Same G (Hm B.dl H)) (r : RG B H0 G H v d) (hd : d.isIns = false) : TyX K H v (.type d.tyN) := by
  cases d with
  | non => have := r.pure fun _ => by simp
           cases this; exact .base .non
  | bl b => rw [r.bl]; exact .base (.bl b)
  | int i => rw [r.int]; exact .base (.int i)
  | str i => rw [r.str]; exact .base (.str i)
  | lst ds => obtain ⟨p, vs, rfl, h1, h2⟩ := r.lst S; exact .base (.lst (Hm_some h1))
  | tup ds =>
    obtain ⟨p, vs, rfl, h1, h2⟩ := r.tup
    rcases Same.seqT (S.trans Hm_same) h1 with (h | ⟨o, h⟩) | ⟨o, its, n, h, hc, _⟩
    · exact .base (.tup h)
    · exact .fTuple h
    · rw [← hK] at h; exact .kTuple h hc
  | ins _ _ _ => cases hd
def xIsi (n : String) (Ta : TE') : TE' := fun ρ R => Ta ρ fun d => d.isIns = false ∧ R (.bl (tyIs d.tyN n))
theorem pu_isi {n : Str} {m : String} {q : Pos} (hK : X.K = B.K := by rfl) (hg : Gl X "isinstance") (hm : X.mg "isinstance" = none) (hg2 : Gl X n) (hm2 : X.mg n = none) (hv2 : bootBuiltins n = some (.type m)) (hk : m ∈ tyKnown) (ha : PuG X B a ta Ta)
    (hn : n ≠ "__name__" := by decide) (hdb : (n == ("__debug__" : Str)) = false := by decide) (he : starEach [a, .Name n q] X.env = (false, eval a X.env) :: starEach [.Name n q] X.env := by rfl)
    (he2 : starEach [.Name n q] X.env = (false, eval (.Name n q) X.env) :: starEach [] X.env := by rfl) (hpl : (backTo pos (starEach [.Name n q] X.env)).any (·.1) = false := by rfl) :
    PuE X B (.Call (.Name "isinstance" p) [a, .Name n q] [] pos) (tCB (rIsi X.K) (tCons ta (tCons (tC (.ty m)) tNil))) (xIsi m Ta) := by
  refine ⟨pe_callB call_isi hg hm (by decide +kernel) (pa_cons ha.pe (pa_cons (pe_bltn hg2 hm2 hv2 rfl hn hdb) pa_nil he2) he) (by decide) (by decide) he hpl, fun G H σ ρ R Q E hT k => ?_⟩
  refine ha.pu G H σ ρ _ _ E hT fun d v G1 H1 h1 s1 r1 => ?_
  exact ⟨v, .ty m, _, _, _, rfl, .ty m, r1.tyx hK s1.ghm h1.1, kit_ty (kit_known m hk d h1.1), k _ _ _ _ h1.2 s1 (.bl _)⟩
end
end PU
set_option Elab.async false
set_option linter.all false
set_option maxRecDepth 100000
set_option maxHeartbeats 4000000
/-! PU, part 5: what is walked, comprehensions, calls of own defs. -/
namespace PU
open PySem PySem.Spec PyProof.Rows L2

/-! ### targets -/
abbrev TG' := D → PEnv → (PEnv → Prop) → Prop
abbrev TGs' := List D → PEnv → (PEnv → Prop) → Prop
structure PuGt (X : Cx) (B : Bs) (tg : Expr) (g : TG) (g' : TG') (sl : List Nat) : Prop where
  pe : PG X tg g
  pu : ∀ G H σ ρ v d R Q, EnvR B G H σ ρ → Rp B.K G v d → g' d ρ R → (∀ ρ' σ', R ρ' → EnvR B G H σ' ρ' → σ'.length = σ.length → (∀ j, j ∉ sl → σ'[j]? = σ[j]?) → Q σ' H) → g v σ H Q
structure PuGs (X : Cx) (B : Bs) (ts : List Expr) (g : TGs) (g' : TGs') (sl : List Nat) : Prop where
  pe : PGs X ts g
  pu : ∀ G H σ ρ vs ds R Q, EnvR B G H σ ρ → RpL B.K G vs ds → g' ds ρ R → (∀ ρ' σ', R ρ' → EnvR B G H σ' ρ' → σ'.length = σ.length → (∀ j, j ∉ sl → σ'[j]? = σ[j]?) → Q σ' H) → g vs σ H Q
def gN (i : Nat) : TG' := fun d ρ R => R (ρ.set i (some d))
def gNil' : TGs' := fun ds ρ R => match ds with
  | [] => R ρ
  | _ => False
def gCons' (g : TG') (u : TGs') : TGs' := fun ds ρ R => match ds with
  | d :: ds => g d ρ fun ρ1 => u ds ρ1 R
  | [] => False
def gT (u : TGs') : TG' := fun d ρ R => match d with
  | .tup ds => u ds ρ R
  | _ => False
/-- the slot of the drawn state is none of these -/
def offDl (dl : Option Dl) (i : Nat) : Prop := ∀ d, dl = some d → d.i ≠ i
section
variable {X : Cx} {B : Bs} {pos : Pos}
theorem pug_name (i : Nat) {x : Str} (hN : X.N.Nodup) (hi : X.N[i]? = some x) (hx : Loc X.env.scope x) (ho : i ∉ B.ow := by exact notIn_of rfl) (hd : offDl B.dl i)
    (hf : X.fn x = true ∨ X.env.scope.names.lookup x = some .local := by first | exact .inl rfl | exact .inr rfl | assumption) : PuGt X B (.Name x pos) (gName i) (gN i) [i] :=
  ⟨pg_name hN hi hx hf, fun G H σ ρ v d R Q E r hT k => k _ _ hT (E.set ho r hd) (by simp) fun j hj => List.getElem?_set_ne (fun e => hj (by simp [e]))⟩
theorem pugs_nil : PuGs X B [] gNil gNil' [] := ⟨pgs_nil, fun G H σ ρ vs ds R Q E r hT k => by
  cases ds with
  | nil => cases r; exact ⟨rfl, k ρ σ hT E rfl fun _ _ => rfl⟩
  | cons _ _ => exact hT.elim⟩
theorem pugs_cons {e : Expr} {es : List Expr} {t : TG} {u : TGs} {t' : TG'} {u' : TGs'} {sl sm : List Nat} (h1 : PuGt X B e t t' sl) (h2 : PuGs X B es u u' sm)
    (hs : (assignEach (e :: es) X.env).map (·.2) = assign e X.env :: (assignEach es X.env).map (·.2) := by rfl) : PuGs X B (e :: es) (gCons t u) (gCons' t' u') (sl ++ sm) := by
  refine ⟨pgs_cons h1.pe h2.pe hs, fun G H σ ρ vs ds R Q E r hT k => ?_⟩
  cases ds with
  | nil => exact hT.elim
  | cons d ds =>
    cases r with
    | cons r1 r2 =>
      refine ⟨_, _, rfl, h1.pu G H σ ρ _ _ _ _ E r1 hT fun ρ1 σ1 h3 E1 l1 k1 => ?_⟩
      refine h2.pu G H σ1 ρ1 _ _ _ _ E1 r2 h3 fun ρ2 σ2 h4 E2 l2 k2 => ?_
      refine k ρ2 σ2 h4 E2 (l2.trans l1) fun j hj => ?_
      rw [List.mem_append, not_or] at hj
      exact (k2 j hj.2).trans (k1 j hj.1)
theorem pug_tup {es : List Expr} {kk : Nat} {t : TGs} {t' : TGs'} {n : Nat} {sl : List Nat} (hK : X.K = B.K := by rfl) (hc : X.calm = true := by rfl) (h : PuGs X B es t t' sl) (hl : ∀ ds ρ R, t' ds ρ R → ds.length = n) (pt : PGs X es t → PG X (.Tuple es kk pos) (gTup X.K n t)) :
    PuGt X B (.Tuple es kk pos) (gTup X.K n t) (gT t') sl := by
  refine ⟨pt h.pe, fun G H σ ρ v d R Q E r hT k => ?_⟩
  cases d with
  | tup ds =>
    obtain ⟨a, vs, rfl, h1, h2⟩ := r.tup'
    rw [hK]
    refine ⟨a, vs, rfl, Same.seqT E.gh h1, by rw [h2.length]; exact hl ds ρ R hT, ?_⟩
    rw [hK] at *
    exact h.pu G H σ ρ vs ds R Q E h2 hT k
  | _ => exact hT.elim
theorem len_nil' : ∀ ds ρ R, gNil' ds ρ R → ds.length = 0 := fun ds ρ R h => by
  cases ds with
  | nil => rfl
  | cons _ _ => exact h.elim
end

/-! ### wiping -/
def wipe' (ρ : PEnv) : List Nat → PEnv
  | [] => ρ
  | v :: vs => (wipe' ρ vs).set v none
theorem wipe'_len (ρ : PEnv) : ∀ vs, (wipe' ρ vs).length = ρ.length
  | [] => rfl
  | v :: vs => by unfold wipe'; rw [List.length_set, wipe'_len ρ vs]
theorem wipe'_some {ρ : PEnv} {i : Nat} {x : D} : ∀ {vs : List Nat}, (wipe' ρ vs)[i]? = some (some x) → ρ[i]? = some (some x) ∧ i ∉ vs
  | [], h => ⟨h, by simp⟩
  | v :: vs, h => by
    unfold wipe' at h
    by_cases hi : v = i
    · subst hi
      by_cases hv : v < (wipe' ρ vs).length
      · rw [List.getElem?_set_self hv] at h; cases h
      · rw [List.getElem?_eq_none (by simpa using hv)] at h; cases h
    · rw [List.getElem?_set_ne hi] at h
      obtain ⟨h1, h2⟩ := wipe'_some h
      exact ⟨h1, by simp only [List.mem_cons, not_or]; exact ⟨fun e => hi e.symm, h2⟩⟩
theorem wipe_off {σ : L2.St} {i : Nat} : ∀ {vs : List Nat}, i ∉ vs → (wipe σ vs)[i]? = σ[i]?
  | [], _ => rfl
  | v :: vs, h => by
    unfold wipe
    rw [List.getElem?_set_ne (fun e => h (by simp [e])), wipe_off fun z => h (List.mem_cons_of_mem _ z)]
theorem wipe'_off {ρ : PEnv} {i : Nat} : ∀ {vs : List Nat}, i ∉ vs → (wipe' ρ vs)[i]? = ρ[i]?
  | [], _ => rfl
  | v :: vs, h => by
    unfold wipe'
    rw [List.getElem?_set_ne (fun e => h (by simp [e])), wipe'_off fun z => h (List.mem_cons_of_mem _ z)]
theorem wipe_in {σ : L2.St} {i : Nat} (hi : i < σ.length) : ∀ {vs : List Nat}, i ∈ vs → (wipe σ vs)[i]? = some none
  | v :: vs, h => by
    unfold wipe
    by_cases e : v = i
    · subst e
      rw [List.getElem?_set_self (by rw [wipe_length]; exact hi)]
    · rw [List.getElem?_set_ne e]
      exact wipe_in hi ((List.mem_cons.mp h).resolve_left fun z => e z.symm)
theorem wipe_eq {σ σ' : L2.St} {vs sl : List Nat} (hl : σ'.length = σ.length) (hk : ∀ j, j ∉ sl → σ'[j]? = σ[j]?) (hs : ∀ j ∈ sl, j ∈ vs) : wipe σ' vs = wipe σ vs := by
  apply List.ext_getElem?
  intro i
  by_cases hi : i ∈ vs
  · by_cases hl' : i < σ.length
    · rw [wipe_in (by rw [hl]; exact hl') hi, wipe_in hl' hi]
    · rw [List.getElem?_eq_none (by rw [wipe_length, hl]; omega), List.getElem?_eq_none (by rw [wipe_length]; omega)]
  · rw [wipe_off hi, wipe_off hi]
    exact hk i fun z => hi (hs i z)
theorem EnvR.wipe {B : Bs} {G H : Hp} {σ : L2.St} {ρ : PEnv} (E : EnvR B G H σ ρ) {vs : List Nat} (hd : ∀ i ∈ vs, offDl B.dl i) : EnvR B G H (L2.wipe σ vs) (wipe' ρ vs) := by
  refine ⟨by rw [wipe_length, wipe'_len, E.len], E.gg, E.gh, E.hh, E.fr, fun i d h hi => ?_, fun i d h hi => ?_, fun i j p hi hj ei ej si sj => ?_, fun d h => ?_⟩
  · obtain ⟨h1, h2⟩ := wipe'_some h
    rw [wipe_off h2]
    exact E.pur i d h1 hi
  · obtain ⟨h1, h2⟩ := wipe'_some h
    rw [wipe_off h2]
    exact E.own i d h1 hi
  · obtain ⟨di, ei⟩ := ei
    obtain ⟨dj, ej⟩ := ej
    obtain ⟨h1, h2⟩ := wipe'_some ei
    obtain ⟨h3, h4⟩ := wipe'_some ej
    rw [wipe_off h2] at si
    rw [wipe_off h4] at sj
    exact E.sep i j p hi hj ⟨_, h1⟩ ⟨_, h3⟩ si sj
  · obtain ⟨h1, h2, h3, h4⟩ := E.deal d h
    have n : d.i ∉ vs := fun z => hd _ z d h rfl
    exact ⟨h1, by rw [wipe_off n]; exact h2, by rw [wipe'_off n]; exact h3, h4⟩

/-! ### what is walked -/
/-- the iterator J yields the data ds, in heaps that grow from G1, H1; w: such that change no list meanwhile -/
def ItR (B : Bs) (w : Bool) (J : It) (G1 H1 : Hp) (ds : List D) : Prop :=
  ∀ G H, Same G1 G → Same G H → (w = true → Same (Hm B.dl H1) (Hm B.dl H)) →
    (∀ i, i < ds.length → J.go i H ∧ ∀ x H', J.yld i H x H' → ∃ d, ds[i]? = some d ∧ ((H' = H ∧ Rp B.K G x d) ∨ ∃ p o, H p = none ∧ H' = upd H p o ∧ Rp B.K (upd G p o) x d)) ∧ J.stop ds.length H
abbrev TI' := PEnv → (List D → Prop) → Prop
structure PuI (X : Cx) (B : Bs) (w : Bool) (tg iter : Expr) (wi : TI) (T : TI') : Prop where
  pe : PI X tg iter wi
  pu : ∀ G H σ ρ R Q, EnvR B G H σ ρ → T ρ R → (∀ ds J G' H', R ds → ds.length ≤ sizeLine → Stp B G H G' H' → ItR B w J G' H' ds → Q J H') → wi σ H Q
theorem ItR.weak {B : Bs} {w : Bool} {J : It} {G1 H1 : Hp} {ds : List D} (h : ItR B false J G1 H1 ds) : ItR B w J G1 H1 ds := fun G H a b _ => h G H a b fun z => by cases z
section
variable {X : Cx} {B : Bs} {tg e : Expr} {te : TE} {Te : TE'} {pos p : Pos}
theorem PuI.weak {w : Bool} {wi : TI} {T : TI'} {it : Expr} (h : PuI X B false tg it wi T) : PuI X B w tg it wi T := ⟨h.pe, fun G H σ ρ R Q E hT k => h.pu G H σ ρ R Q E hT fun ds J G' H' a l s r => k ds J G' H' a l s r.weak⟩
/-- a list or a tuple as it stands -/
def iSq (K : PySem.W.Frag) (t : TE) : TI := fun σ H R => t σ H fun x H1 => ∃ a xs, x = .ref a ∧ ((SqL K H1 a xs ∧ (xs.length ≤ sizeLine → R (Itl K a) H1)) ∨ (SqT K H1 a xs ∧ (xs.length ≤ sizeLine → R (Itt K a) H1)))
theorem pi_sq (he : PE X e te) : PI X tg e (iSq X.K te) := by
  constructor
  intro pins s σ H R I hw
  refine thn (he.run pins s σ H _ I hw) ?_
  rintro val st ⟨x, Hx, Ix, rx, a, xs, rfl, hq⟩
  cases (show val = Value.ref a from rx)
  have young : ∀ b ∈ [st.heap.objs.size], FpOk X pins Hx b := fun b hb => by
    rw [List.mem_singleton.mp hb]
    exact Ix.fpOk (Nat.le_refl _) (Ix.hok.fresh (Nat.le_refl _))
  rcases hq with ⟨hs, hk⟩ | ⟨hs, hk⟩
  · obtain ⟨its, rv, pl, hz⟩ := Ix.list hs
    exact wpAny_pyIter_list pl.isList ⟨_, [_], _, _, Hx, rfl, Ix.kept (t' := st.toks) (fun _ _ w => Heap.get?_push_of_some _ w), turn_list a _, ⟨_, Heap.get?_push_size _ rfl, rfl, rfl⟩, young, hk hz⟩
  · obtain ⟨its, rv, pl, hz⟩ := Ix.tuple hs
    exact wpAny_pyIter_tuple (show st.heap.IsTuple a its.toArray from pl) ⟨_, [_], _, _, Hx, rfl, Ix.kept (t' := st.toks) (fun _ _ w => Heap.get?_push_of_some _ w), turn_tuple a _, ⟨_, Heap.get?_push_size _ rfl, rfl, rfl⟩, young, hk hz⟩
theorem itr_lst {w : Bool} {K : PySem.W.Frag} {G1 H1 : Hp} {a : Addr} {vs : List V} {ds : List D} (hK : K = B.K) (r : RpL B.K G1 vs ds) (h : ∀ G H, Same G1 G → Same G H → (w = true → Same (Hm B.dl H1) (Hm B.dl H)) → H a = some (.lst vs)) : ItR B w (Itl K a) G1 H1 ds := fun G H e1 e2 e3 => by
  have ha := h G H e1 e2 e3
  have hq : SqL K H a vs := SqL.of ha
  refine ⟨fun i hi => ?_, ⟨vs, hq, by rw [r.length]; exact Nat.le_refl _⟩⟩
  obtain ⟨v, hv, rv⟩ := r.get (List.getElem?_eq_getElem hi)
  refine ⟨⟨vs, v, hq, hv⟩, fun x H' hy => ?_⟩
  obtain ⟨rfl, hy⟩ := hy
  have := (hy vs hq).symm.trans hv
  cases this
  exact ⟨_, List.getElem?_eq_getElem hi, .inl ⟨rfl, rv.mono e1⟩⟩
theorem itr_tup {w : Bool} {K : PySem.W.Frag} {G1 H1 : Hp} {a : Addr} {vs : List V} {ds : List D} (hK : K = B.K) (r : RpL B.K G1 vs ds) (h : SqT K G1 a vs) : ItR B w (Itt K a) G1 H1 ds := fun G H e1 e2 e3 => by
  have hq : SqT K H a vs := Same.seqT (e1.trans e2) h
  refine ⟨fun i hi => ?_, ⟨vs, hq, by rw [r.length]; exact Nat.le_refl _⟩⟩
  obtain ⟨v, hv, rv⟩ := r.get (List.getElem?_eq_getElem hi)
  refine ⟨⟨vs, v, hq, hv⟩, fun x H' hy => ?_⟩
  obtain ⟨rfl, hy⟩ := hy
  have := (hy vs hq).symm.trans hv
  cases this
  exact ⟨_, List.getElem?_eq_getElem hi, .inl ⟨rfl, rv.mono e1⟩⟩
def xSeq (T : TE') : TI' := fun ρ R => T ρ fun d => isSeq d R
theorem pui_seq (hK : X.K = B.K := by rfl) (h : PuE X B e te Te) : PuI X B false tg e (iSq X.K te) (xSeq Te) := by
  refine ⟨pi_sq h.pe, fun G H σ ρ R Q E hT k => ?_⟩
  refine h.pu G H σ ρ _ _ E hT fun d v G1 H1 h1 s1 r1 => ?_
  obtain ⟨ds, hd, h2⟩ := isSeq_iff h1
  rcases hd with rfl | rfl
  · obtain ⟨a, vs, rfl, h3, h4⟩ := r1.lst'
    exact ⟨a, vs, rfl, .inl ⟨SqL.of (s1.gh _ _ h3), fun hl => k ds _ _ _ h2 (by rw [← h4.length]; exact hl) s1 (itr_lst hK h4 fun G' H' a1 a2 _ => a2 _ _ (a1 _ _ h3))⟩⟩
  · obtain ⟨a, vs, rfl, h3, h4⟩ := r1.tup'
    rw [hK]
    exact ⟨a, vs, rfl, .inr ⟨Same.seqT s1.gh h3, fun hl => k ds _ _ _ h2 (by rw [← h4.length]; exact hl) s1 (itr_tup rfl h4 h3)⟩⟩
/-- an owned list, or any other, in a comprehension -/
theorem pui_seqG (hK : X.K = B.K := by rfl) (h : PuG X B e te Te) : PuI X B true tg e (iSq X.K te) (xSeq Te) := by
  refine ⟨pi_sq h.pe, fun G H σ ρ R Q E hT k => ?_⟩
  refine h.pu G H σ ρ _ _ E hT fun d v G1 H1 h1 s1 r1 => ?_
  obtain ⟨ds, hd, h2⟩ := isSeq_iff h1
  rcases hd with rfl | rfl
  · obtain ⟨a, vs, rfl, h3, h4⟩ := r1.lst s1.ghm
    exact ⟨a, vs, rfl, .inl ⟨SqL.of (Hm_some h3), fun hl => k ds _ _ _ h2 (by rw [← h4.length]; exact hl) s1 (itr_lst hK h4 fun G' H' a1 a2 a3 => Hm_some (a3 rfl _ _ h3))⟩⟩
  · obtain ⟨a, vs, rfl, h3, h4⟩ := r1.tup
    rw [hK]
    exact ⟨a, vs, rfl, .inr ⟨Same.seqT s1.gh h3, fun hl => k ds _ _ _ h2 (by rw [← h4.length]; exact hl) s1 (itr_tup rfl h4 h3)⟩⟩
/-! ranges -/
def rngD (lo : Int) (n : Nat) : List D := (List.range n).map fun i => .int (lo + (i : Nat))
theorem rngD_len (lo : Int) (n : Nat) : (rngD lo n).length = n := by simp [rngD]
theorem rngD_get {lo : Int} {n i : Nat} (h : i < n) : (rngD lo n)[i]? = some (.int (lo + (i : Nat))) := by simp [rngD, h]
theorem itr_rng {w : Bool} {G1 H1 : Hp} {lo : Int} {n : Nat} : ItR B w (Itr lo n) G1 H1 (rngD lo n) := fun G H e1 e2 e3 => by
  refine ⟨fun i hi => ?_, by rw [rngD_len]; exact Nat.le_refl _⟩
  rw [rngD_len] at hi
  refine ⟨hi, fun x H' hy => ?_⟩
  obtain ⟨rfl, rfl⟩ := hy
  exact ⟨_, rngD_get hi, .inl ⟨rfl, .int _⟩⟩
def xRange1 (T : TE') : TI' := fun ρ R => T ρ fun d => isI d fun j => (-1000000 ≤ j ∧ j ≤ 1000000) ∧ R (rngD 0 j.toNat)
theorem pui_range1 {a : Expr} {ta : TE} {Ta : TE'} (hg : Gl X "range") (hm : X.mg "range" = none) (ha : PuE X B a ta Ta) (hs : starEach [a] X.env = [(false, eval a X.env)] := by rfl) (hs2 : starEach [a] X.env = (false, eval a X.env) :: starEach [] X.env := by rfl) :
    PuI X B false tg (.Call (.Name "range" p) [a] [] pos) (iRng1 (tCons ta tNil)) (xRange1 Ta) := by
  refine ⟨pi_range1 hg hm (pa_cons ha.pe pa_nil hs2) hs, fun G H σ ρ R Q E hT k => ?_⟩
  refine ha.pu G H σ ρ _ _ E hT fun d v G1 H1 h1 s1 r1 => ?_
  obtain ⟨j, rfl, ⟨hj, hj2⟩, h2⟩ := isI_iff h1
  rw [r1.dcases]
  exact ⟨j, rfl, by omega, by omega, k _ _ _ _ h2 (by rw [rngD_len, sizeLine_eq]; omega) s1 itr_rng⟩
def xRange2 (T U : TE') : TI' := fun ρ R => T ρ fun d => U ρ fun f => isI d fun i => isI f fun j => (-1000000 ≤ i ∧ i ≤ 1000000 ∧ -1000000 ≤ j ∧ j ≤ 1000000) ∧ R (rngD i (j - i).toNat)
theorem pui_range2 {a b : Expr} {ta tb : TE} {Ta Tb : TE'} (hg : Gl X "range") (hm : X.mg "range" = none) (ha : PuE X B a ta Ta) (hb : PuE X B b tb Tb) (hs : starEach [a, b] X.env = [(false, eval a X.env), (false, eval b X.env)] := by rfl) (hs2 : starEach [b] X.env = [(false, eval b X.env)] := by rfl)
    (hs3 : starEach [a, b] X.env = (false, eval a X.env) :: starEach [b] X.env := by rfl) (hs4 : starEach [b] X.env = (false, eval b X.env) :: starEach [] X.env := by rfl) :
    PuI X B false tg (.Call (.Name "range" p) [a, b] [] pos) (iRng2 (tCons ta (tCons tb tNil))) (xRange2 Ta Tb) := by
  refine ⟨pi_range2 hg hm (pa_cons ha.pe (pa_cons hb.pe pa_nil hs4) hs3) hs hs2, fun G H σ ρ R Q E hT k => ?_⟩
  refine ha.pu G H σ ρ _ _ E hT fun d v G1 H1 h1 s1 r1 => ?_
  refine hb.pu G1 H1 σ ρ _ _ (E.step s1) h1 fun f u G2 H2 h2 s2 r2 => ?_
  obtain ⟨i, rfl, h3⟩ := isI_iff h2
  obtain ⟨j, rfl, ⟨h4, h5, h6, h7⟩, h8⟩ := isI_iff h3
  rw [r1.dcases, r2.dcases]
  exact ⟨i, j, rfl, ⟨by omega, by omega, by omega, by omega⟩, k _ _ _ _ h8 (by rw [rngD_len, sizeLine_eq]; omega) (s1.trans s2) itr_rng⟩
end

/-! ### comprehensions -/
def lcLoop (g : TG') (tt : TT') (te : TE') (ρ : PEnv) : List D → List D → (List D → Prop) → Prop
  | [], acc, R => R acc
  | x :: xs, acc, R => g x ρ fun ρ1 => tt ρ1 fun b => if b = true then te ρ1 fun y => lcLoop g tt te ρ xs (acc ++ [y]) R else lcLoop g tt te ρ xs acc R
def xLc (Ti : TI') (g : TG') (tt : TT') (te : TE') (vs : List Nat) : TE' := fun ρ R => Ti ρ fun ds => lcLoop g tt te (wipe' ρ vs) ds [] fun acc => R (.lst acc)
structure PuTs (X : Cx) (B : Bs) (ifs : List Expr) (t : TT) (T : TT') : Prop where
  pe : PTs X ifs t
  pu : PuTT B t T
def xYes : TT' := fun _ R => R true
section
variable {X : Cx} {B : Bs} {pos p : Pos}
theorem puts_nil : PuTs X B [] tYes xYes := ⟨pts_nil, fun G H σ ρ R Q E hT k => k _ _ _ hT (.refl E)⟩
theorem puts_one {c : Expr} {t : TT} {T : TT'} (h : PuT X B c t T) : PuTs X B [c] t T := ⟨pts_one h.pe, h.pu⟩
theorem EnvR.new {G H : Hp} {σ : L2.St} {ρ : PEnv} (E : EnvR B G H σ ρ) {q : Addr} (o : HO) (h : H q = none) : EnvR B (upd G q o) (upd H q o) σ ρ := E.step (E.stpNew o h)
theorem Hm_wr {dl : Option Dl} {H0 H : Hp} {D : Addr} {o : HO} (e : Same (Hm dl H0) (Hm dl H)) (h0 : H0 D = none) : Same (Hm dl H0) (Hm dl (upd H D o)) := fun b x q => by
  have hb : b ≠ D := fun z => by
    have := Hm_some q
    rw [z, h0] at this; cases this
  have := e b x q
  cases dl with
  | none => exact (upd_ne hb).trans this
  | some d =>
    rw [Hm_sm] at this ⊢
    split at this
    · cases this
    · rename_i hn
      rw [if_neg hn, upd_ne hb]
      exact this
theorem Stp.wr {G H G' H' : Hp} {D : Addr} {o : HO} (s : Stp B G H G' H') (h0 : H D = none) (hg : G' D = none) (nD : ∀ d, B.dl = some d → D ≠ d.a ∧ D ≠ d.c) : Stp B G H G' (upd H' D o) := by
  refine ⟨s.gg, fun b x q => ?_, Hm_wr s.hh h0, s.fr, fun d hd => ?_⟩
  · have hb : b ≠ D := fun z => by rw [z, hg] at q; cases q
    rw [upd_ne hb]; exact s.gh b x q
  · obtain ⟨n1, n2⟩ := nD d hd
    have A := s.dl d hd
    obtain ⟨xs, m, k1, k2, k3⟩ := A.ex
    exact ⟨A.ga, A.gc, A.ne, xs, m, by rw [upd_ne (Ne.symm n1)]; exact k1, by rw [upd_ne (Ne.symm n2)]; exact k2, k3⟩
theorem wipe_wipe {σ : L2.St} {vs : List Nat} : L2.wipe (L2.wipe σ vs) vs = L2.wipe σ vs := wipe_eq (sl := vs) (wipe_length _ _) (fun j hj => wipe_off hj) fun _ h => h
theorem lc_pu {w : Bool} {wi : TI} {Ti : TI'} {g : TG} {g' : TG'} {tt : TT} {tt' : TT'} {te : TE} {te' : TE'} {vs sl : List Nat}
    (hi : ∀ G H σ ρ R Q, EnvR B G H σ ρ → Ti ρ R → (∀ ds J G' H', R ds → ds.length ≤ sizeLine → Stp B G H G' H' → ItR B w J G' H' ds → Q J H') → wi σ H Q)
    (hg : ∀ G H σ ρ v d R Q, EnvR B G H σ ρ → Rp B.K G v d → g' d ρ R → (∀ ρ' σ', R ρ' → EnvR B G H σ' ρ' → σ'.length = σ.length → (∀ j, j ∉ sl → σ'[j]? = σ[j]?) → Q σ' H) → g v σ H Q)
    (ht : PuTT B tt tt') (he : Pu B (RE B) te te') (hsl : ∀ j ∈ sl, j ∈ vs) (hd : ∀ i ∈ vs, offDl B.dl i) : Pu B (RF B) (tLc wi g tt te vs) (xLc Ti g' tt' te' vs) := by
  intro G H σ ρ R Q E hT k
  refine hi G H σ ρ _ _ E hT fun ds J G1 H1 h1 hl s1 itr D hD => ?_
  have E1 := E.step s1
  have hD0 : H D = none := s1.free hD
  have nD : ∀ d, B.dl = some d → D ≠ d.a ∧ D ≠ d.c := fun d hd => by
    have := (s1.dl d hd).tr
    obtain ⟨⟨_, ta⟩, _, tc⟩ := this
    exact ⟨fun z => (by rw [z, ta] at hD; cases hD), fun z => (by rw [z, tc] at hD; cases hD)⟩
  refine ⟨fun i m Hx => m = ds.length - i ∧ i ≤ ds.length ∧ ∃ Gx acc us, Stp B G H Gx Hx ∧ Same G1 Gx ∧ Same (Hm B.dl H1) (Hm B.dl Hx) ∧ Hx D = some (.lst us) ∧ Gx D = none ∧ RpL B.K Gx us acc ∧ acc.length ≤ i ∧
      lcLoop g' tt' te' (wipe' ρ vs) (ds.drop i) acc fun acc => R (.lst acc), ⟨ds.length, by simp, Nat.zero_le _, G1, [], [], ?_, Same.refl _, Hm_new hD, upd_same, s1.gh.free hD, .nil, Nat.le_refl _, by simpa using h1⟩, ?_⟩
  · exact s1.trans (E1.stpNewH (.lst []) hD)
  rintro i m Hx ⟨rfl, hi, Gx, acc, us, sx, g1x, hmx, hDx, gDx, racc, hacc, hloop⟩
  obtain ⟨hgo, hstop⟩ := itr Gx Hx g1x sx.gh fun _ => hmx
  have Ex := E.step sx
  by_cases hlt : i < ds.length
  · right
    obtain ⟨go, hy⟩ := hgo i hlt
    refine ⟨go, fun Hn => ∃ Gn acc us, Stp B G H Gn Hn ∧ Same G1 Gn ∧ Same (Hm B.dl H1) (Hm B.dl Hn) ∧ Hn D = some (.lst us) ∧ Gn D = none ∧ RpL B.K Gn us acc ∧ acc.length ≤ i + 1 ∧ lcLoop g' tt' te' (wipe' ρ vs) (ds.drop (i + 1)) acc fun acc => R (.lst acc), fun Hn hn => ⟨_, by omega, rfl, hlt, hn⟩, fun x H' hyl => ?_⟩
    obtain ⟨d, hd0, hx⟩ := hy x H' hyl
    have hdrop : ds.drop i = d :: ds.drop (i + 1) := by
      rw [List.drop_eq_getElem_cons hlt]
      rw [List.getElem?_eq_getElem hlt] at hd0
      cases hd0; rfl
    rw [hdrop] at hloop
    have key : ∃ G', Stp B Gx Hx G' H' ∧ Rp B.K G' x d := by
      rcases hx with ⟨rfl, rx⟩ | ⟨q, o, hq, rfl, rx⟩
      · exact ⟨Gx, .refl Ex, rx⟩
      · exact ⟨_, Ex.stpNew o hq, rx⟩
    obtain ⟨G', s', rx⟩ := key
    have E' := Ex.step s'
    have keepD : ∀ {Ga Ha Gb Hb : Hp} {ws : List V}, Stp B Ga Ha Gb Hb → Ha D = some (.lst ws) → Ga D = none → Hb D = some (.lst ws) ∧ Gb D = none := fun {Ga Ha Gb Hb ws} s a b =>
      ⟨Hm_some (s.hh D _ (Hm_of a nD)), by rw [s.fr D _ a]; exact b⟩
    obtain ⟨hD', gD'⟩ := keepD s' hDx gDx
    refine hg G' H' _ _ x d _ _ (E'.wipe hd) rx hloop fun ρ1 σ1 hl1 E1' len1 keep1 => ?_
    refine ⟨(wipe_eq len1 keep1 hsl).trans wipe_wipe, ?_⟩
    have s1' := sx.trans s'
    refine ht G' H' σ1 ρ1 _ _ E1' hl1 fun b G2 H2 hb s2 => ?_
    obtain ⟨hD2, gD2⟩ := keepD s2 hD' gD'
    cases b with
    | false =>
      rw [if_neg Bool.false_ne_true] at hb ⊢
      exact ⟨G2, acc, us, s1'.trans s2, (g1x.trans s'.gg).trans s2.gg, (hmx.trans s'.hh).trans s2.hh, hD2, gD2, racc.mono (s'.gg.trans s2.gg), Nat.le_succ_of_le hacc, hb⟩
    | true =>
      rw [if_pos rfl] at hb ⊢
      refine he G2 H2 σ1 ρ1 _ _ (E1'.step s2) hb fun y v G3 H3 hy s3 r3 => ?_
      obtain ⟨hD3, gD3⟩ := keepD s3 hD2 gD2
      have hus : us.length = acc.length := racc.length
      refine ⟨us, hD3, by omega, G3, acc ++ [y], us ++ [v], ((s1'.trans s2).trans s3).wr hD0 gD3 nD, ((g1x.trans s'.gg).trans s2.gg).trans s3.gg, Hm_wr (((hmx.trans s'.hh).trans s2.hh).trans s3.hh) hD, upd_same, gD3, ?_, by simp; omega, hy⟩
      exact (racc.mono ((s'.gg.trans s2.gg).trans s3.gg)).append (.cons r3 .nil)
  · left
    have e : i = ds.length := by omega
    subst e
    refine ⟨hstop, ?_⟩
    rw [List.drop_length] at hloop
    exact k _ _ Gx Hx hloop sx ⟨D, us, acc, rfl, rfl, hD0, gDx, hDx, racc⟩
/-- [elt for tg in iter if ..] -/
theorem pu_lc {w : Bool} {elt tg iter : Expr} {ifs : List Expr} {scope : Scope} {own : List (Str × Nat)} {wi : TI} {Ti : TI'} {g : TG} {g' : TG'} {tt : TT} {tt' : TT'} {te : TE} {te' : TE'} {sl : List Nat} (hc : X.calm = true) (hN : X.N.Nodup) (hi : PuI X B w tg iter wi Ti) (ok : BlkOk X.N X.env.scope scope own)
    (hg : ∀ (s : Shared) (H : Hp) (C : Addr) (cl : List (Str × Addr)) (fp : List Addr), PuGt (X.blk s H scope (compEnvC scope cl C X.env) fp) B tg g g' sl) (ht : ∀ (s : Shared) (H : Hp) (C : Addr) (cl : List (Str × Addr)) (fp : List Addr), PuTs (X.blk s H scope (compEnvC scope cl C X.env) fp) B ifs tt tt')
    (he : ∀ (s : Shared) (H : Hp) (C : Addr) (cl : List (Str × Addr)) (fp : List Addr), PuE (X.blk s H scope (compEnvC scope cl C X.env) fp) B elt te te') (hsl : ∀ j ∈ sl, j ∈ own.map (·.2)) (hd : ∀ i ∈ own.map (·.2), offDl B.dl i) (hs : ∀ x, foldedSetIterable iter X.env x = pure x := by intro _; rfl) :
    PuF X B (.ListComp elt [⟨tg, iter, ifs, 0⟩] scope pos) (tLc wi g tt te (own.map (·.2))) (xLc Ti g' tt' te' (own.map (·.2))) :=
  ⟨pe_lc hc hN hi.pe ok (fun s H C cl fp => (hg s H C cl fp).pe) (fun s H C cl fp => (ht s H C cl fp).pe) (fun s H C cl fp => (he s H C cl fp).pe) hs,
    lc_pu hi.pu (hg X.s_0 X.H_0 0 [] []).pu (ht X.s_0 X.H_0 0 [] []).pu (he X.s_0 X.H_0 0 [] []).pu hsl hd⟩

/-! ### own defs -/
abbrev Spec := List D → (D → Prop) → Prop
/-- a def's contract: pure -/
def spW (K : PySem.W.Frag) (S : Spec) : Sp := fun vs H Q _ => ∃ G ds R, Same G H ∧ RpL K G vs ds ∧ S ds R ∧
  ∀ d v G' H', R d → Same G G' → Same G' H' → Same H H' → (∀ b o, H b = some o → G' b = G b) → Rp K G' v d → Q v H'
/-- a def's contract: the drawn state is its first argument -/
def spD (K : PySem.W.Frag) (S : Spec) : Sp := fun vs H Q _ => ∃ G ds R dd vs', vs = .ref dd.a :: vs' ∧ Same G H ∧ DealAt dd G H ∧ RpL K G vs' ds ∧ S ds R ∧
  ∀ d v G' H', R d → Same G G' → Same G' H' → Same (Hm (some dd) H) (Hm (some dd) H') → (∀ b o, H b = some o → G' b = G b) → DealAt dd G' H' → Rp K G' v d → Q v H'
theorem Hm_mono {dl : Option Dl} {H H' : Hp} (e : Same H H') : Same (Hm dl H) (Hm dl H') := fun b x q => by
  have h := e b x (Hm_some q)
  cases dl with
  | none => exact h
  | some d =>
    rw [Hm_sm] at q ⊢
    split at q
    · cases q
    · rename_i hn; rw [if_neg hn]; exact h
theorem DealAt.same {d : Dl} {G H G' H' : Hp} (h : DealAt d G H) (e : Same H H') (fr : ∀ b o, H b = some o → G' b = G b) : DealAt d G' H' := by
  obtain ⟨xs, m, h1, h2, h3⟩ := h.ex
  exact ⟨by rw [fr _ _ h1]; exact h.ga, by rw [fr _ _ h2]; exact h.gc, h.ne, xs, m, e _ _ h1, e _ _ h2, h3⟩
def xCall (S : Spec) (Ta : TA') : TE' := fun ρ R => Ta ρ fun ds => S ds R
theorem call_pu {K : PySem.W.Frag} (hK : K = B.K) {S : Spec} {ta : TA} {Ta : TA'} {E0 : XK} (ha : ∀ G H σ ρ R Q, EnvR B G H σ ρ → Ta ρ R → (∀ ds vs G' H', R ds → Stp B G H G' H' → RpL B.K G' vs ds → Q vs H') → ta σ H Q) :
    Pu B (RE B) (tCall (spW K S) [] E0 ta) (xCall S Ta) := fun G H σ ρ R Q E hT k => by
  refine ha G H σ ρ _ _ E hT fun ds vs G1 H1 h1 s1 r1 => ?_
  rw [hK, List.append_nil]
  have E1 := E.step s1
  refine ⟨G1, ds, R, s1.gh, r1, h1, fun d v G' H' h2 e1 e2 e3 e4 r2 => ?_⟩
  exact k _ _ _ _ h2 (s1.trans ⟨e1, e2, Hm_mono e3, e4, fun d hd => (E1.deal d hd).1.same e3 e4⟩) r2
theorem pu_call {k : Nat} {f : Addr} {fd : FuncData} {ps : List Str} {S : Spec} {x : Str} {e : Expr} {es : List Expr} {t : TA} {T : TA'} (F : FnOk X.prog X.w X.K X.mg X.base CX0 k f fd ps (spW X.K S)) (hr : Room k X.A) (hg : Gl X x) (hm : X.mg x = some (.ref f)) (hk : PySem.W.keepIn X.K (.ref f) = true)
    (hb : Binds X.K fd ps []) (ha : PuA X B (e :: es) t T) (hK : X.K = B.K := by rfl) (hdb : (x == ("__debug__" : Str)) = false := by decide) (he : starEach (e :: es) X.env = (false, eval e X.env) :: starEach es X.env := by rfl) (hpl : (backTo pos (starEach es X.env)).any (·.1) = false := by rfl) :
    PuE X B (.Call (.Name x p) (e :: es) [] pos) (tCall (spW X.K S) [] E0 t) (xCall S T) := ⟨pe_call F hr hg hm hk hb .nil pass0 ha.pe hdb he hpl, call_pu hK ha.pu⟩
theorem pu_call0 {k : Nat} {f : Addr} {fd : FuncData} {S : Spec} {x : Str} (F : FnOk X.prog X.w X.K X.mg X.base CX0 k f fd [] (spW X.K S)) (hr : Room k X.A) (hg : Gl X x) (hm : X.mg x = some (.ref f)) (hk : PySem.W.keepIn X.K (.ref f) = true)
    (hb : Binds X.K fd [] []) (hK : X.K = B.K := by rfl) (hdb : (x == ("__debug__" : Str)) = false := by decide) :
    PuE X B (.Call (.Name x p) [] [] pos) (tCall (spW X.K S) [] E0 tNil) (xCall S xNil) := ⟨pe_call0 F hr hg hm hk hb .nil pass0 hdb, call_pu hK (pu_nil (X := X)).pu⟩
/-- f(deal, ..) -/
theorem pu_callD {k : Nat} {f : Addr} {fd : FuncData} {ps : List Str} {S : Spec} {x y : Str} {q : Pos} {es : List Expr} {t : TA} {T : TA'} {dd : Dl} (hdl : B.dl = some dd) (F : FnOk X.prog X.w X.K X.mg X.base CX0 k f fd ps (spD X.K S)) (hr : Room k X.A) (hg : Gl X x) (hm : X.mg x = some (.ref f)) (hk : PySem.W.keepIn X.K (.ref f) = true)
    (hb : Binds X.K fd ps []) (hN : X.N[dd.i]? = some y) (hv : Vis X.env.scope y) (ha : PuA X B es t T) (hK : X.K = B.K := by rfl) (hdb : (x == ("__debug__" : Str)) = false := by decide) (hdy : (y == ("__debug__" : Str)) = false := by decide) (hcy : (y == ("__classdict__" : Str)) = false := by decide)
    (he : starEach (.Name y q :: es) X.env = (false, eval (.Name y q) X.env) :: starEach es X.env := by rfl) (hpl : (backTo pos (starEach es X.env)).any (·.1) = false := by rfl) :
    PuE X B (.Call (.Name x p) (.Name y q :: es) [] pos) (tCall (spD X.K S) [] E0 (tCons (tVar dd.i) t)) (xCall S T) := by
  refine ⟨pe_call F hr hg hm hk hb .nil pass0 (pa_cons (pe_var hN hv hdy hcy) ha.pe he) hdb he hpl, fun G H σ ρ R Q E hT k => ?_⟩
  obtain ⟨h1, h2, h3, h4, h5⟩ := E.deal dd hdl
  refine ⟨_, h2, ha.pu G H σ ρ _ _ E hT fun ds vs G1 H1 h6 s1 r1 => ?_⟩
  have E1 := E.step s1
  show spD _ S ((V.ref dd.a :: vs) ++ []) H1 Q E0
  rw [hK, List.append_nil]
  refine ⟨G1, ds, R, dd, vs, rfl, s1.gh, (E1.deal dd hdl).1, r1, h6, fun d v G' H' h7 e1 e2 e3 e4 e5 r2 => ?_⟩
  refine k _ _ _ _ h7 (s1.trans ⟨e1, e2, by rw [hdl]; exact e3, e4, fun d' hd' => ?_⟩) r2
  rw [hdl] at hd'
  cases hd'
  exact e5
end
end PU
set_option Elab.async false
set_option linter.all false
set_option maxRecDepth 100000
set_option maxHeartbeats 4000000
/-! PU, part 6: statements, a def's contract. -/
namespace PU
open PySem PySem.Spec PyProof.Rows L2

structure Ends' where
  nx : PEnv → Prop
  rt : D → Prop
  bk : PEnv → Prop := fun _ => False
  ct : PEnv → Prop := fun _ => False
abbrev TS' := Ends' → PEnv → Prop
/-- the heaps where a def is left -/
structure Xit (B : Bs) (G H : Hp) : Prop where
  gg : Same B.G0 G
  gh : Same G H
  hh : Same (Hm B.dl B.H0) (Hm B.dl H)
  fr : ∀ b o, B.H0 b = some o → G b = B.G0 b
  deal : ∀ d, B.dl = some d → DealAt d G H
theorem EnvR.xit {B : Bs} {G H : Hp} {σ : L2.St} {ρ : PEnv} (E : EnvR B G H σ ρ) : Xit B G H := ⟨E.gg, E.gh, E.hh, E.fr, fun d hd => (E.deal d hd).1⟩
/-- what a reading's ends are owed -/
structure Cont (B : Bs) (G : Hp) (D : Ends) (D' : Ends') : Prop where
  nx : ∀ ρ σ G' H', D'.nx ρ → EnvR B G' H' σ ρ → Same G G' → D.nx σ H'
  bk : ∀ ρ σ G' H', D'.bk ρ → EnvR B G' H' σ ρ → Same G G' → D.bk σ H'
  ct : ∀ ρ σ G' H', D'.ct ρ → EnvR B G' H' σ ρ → Same G G' → D.ct σ H'
  rt : ∀ d v G' H', D'.rt d → Xit B G' H' → Rp B.K G' v d → D.rt v H'
theorem Cont.mono {B : Bs} {G G1 : Hp} {D : Ends} {D' : Ends'} (c : Cont B G D D') (e : Same G G1) : Cont B G1 D D' :=
  ⟨fun ρ σ G' H' a b s => c.nx ρ σ G' H' a b (e.trans s), fun ρ σ G' H' a b s => c.bk ρ σ G' H' a b (e.trans s), fun ρ σ G' H' a b s => c.ct ρ σ G' H' a b (e.trans s), c.rt⟩
def PuTS (B : Bs) (ts : TS) (TS : TS') : Prop := ∀ G H σ ρ D D', EnvR B G H σ ρ → TS D' ρ → Cont B G D D' → ts D σ H
structure PuS (X : Cx) (B : Bs) (st : Stmt) (ts : TS) (TS : TS') : Prop where
  ps : PS X st ts
  pu : PuTS B ts TS
structure PuSs (X : Cx) (B : Bs) (sts : List Stmt) (ts : TS) (TS : TS') : Prop where
  ps : PSs X sts ts
  pu : PuTS B ts TS
def sNext : TS' := fun D ρ => D.nx ρ
def sSeq (t u : TS') : TS' := fun D ρ => t { D with nx := fun ρ1 => u D ρ1 } ρ
section
variable {X : Cx} {B : Bs} {pos pos' : Pos} {st : Stmt} {rest sts : List Stmt} {e : Expr} {t : TE} {T : TE'} {ts us : TS} {TS US : TS'}
theorem pus_nil : PuSs X B [] tNext sNext := ⟨pss_nil, fun G H σ ρ D D' E h c => c.nx _ _ _ _ h E (Same.refl _)⟩
theorem pus_cons (h1 : PuS X B st ts TS) (h2 : PuSs X B rest us US) : PuSs X B (st :: rest) (tSeq ts us) (sSeq TS US) :=
  ⟨pss_cons h1.ps h2.ps, fun G H σ ρ D D' E h c => h1.pu G H σ ρ _ _ E h ⟨fun ρ1 σ1 G1 H1 a E1 s => h2.pu G1 H1 σ1 ρ1 _ _ E1 a (c.mono s), c.bk, c.ct, c.rt⟩⟩
theorem pus_one (h1 : PuS X B st ts TS) : PuSs X B [st] ts TS := ⟨pss_one h1.ps, h1.pu⟩
theorem pus_pass : PuS X B (.Pass pos) tNext sNext := ⟨ps_pass, fun G H σ ρ D D' E h c => c.nx _ _ _ _ h E (Same.refl _)⟩
def sBreak : TS' := fun D ρ => D.bk ρ
def sCont : TS' := fun D ρ => D.ct ρ
theorem pus_break : PuS X B (.Break pos) tBreak sBreak := ⟨ps_break, fun G H σ ρ D D' E h c => c.bk _ _ _ _ h E (Same.refl _)⟩
theorem pus_continue : PuS X B (.Continue pos) tCont sCont := ⟨ps_continue, fun G H σ ρ D D' E h c => c.ct _ _ _ _ h E (Same.refl _)⟩
theorem pus_doc {x : Str} {j : Nat} : PuS X B (.Expr (.Constant (.str x) j pos) pos') tNext sNext := ⟨ps_doc, fun G H σ ρ D D' E h c => c.nx _ _ _ _ h E (Same.refl _)⟩
def sDrop (T : TE') : TS' := fun D ρ => T ρ fun _ => D.nx ρ
theorem pus_expr (h : PuE X B e t T) (hs : swapsWith e none pos.line X.env = pure false := by rfl) : PuS X B (.Expr e pos) (tDrop t) (sDrop T) :=
  ⟨ps_expr h.pe hs, fun G H σ ρ D D' E hT c => h.pu G H σ ρ _ _ E hT fun d v G' H' a s r => c.nx _ _ _ _ a (E.step s) s.gg⟩
/-! freezing -/
theorem EnvR.freeze1 {G H : Hp} {σ : L2.St} {ρ : PEnv} {i : Nat} {l : List Nat} (E : EnvR { B with ow := i :: l } G H σ ρ) : ∃ G', EnvR { B with ow := l } G' H σ ρ ∧ Same G G' := by
  have same : (∀ j, j ∈ i :: l → j ∈ l ∨ ∀ d, ρ[j]? ≠ some (some d)) → ∃ G', EnvR { B with ow := l } G' H σ ρ ∧ Same G G' := fun hh =>
    ⟨G, ⟨E.len, E.gg, E.gh, E.hh, E.fr, fun j d h hj => E.pur j d h fun z => (hh j z).elim hj fun q => q d h, fun j d h hj => E.own j d h (List.mem_cons_of_mem _ hj), fun j m p hj hm => E.sep j m p (List.mem_cons_of_mem _ hj) (List.mem_cons_of_mem _ hm), E.deal⟩, Same.refl _⟩
  by_cases hi : i ∈ l
  · exact same fun j hj => .inl ((List.mem_cons.mp hj).elim (fun e => e ▸ hi) id)
  · by_cases hd : ∃ d, ρ[i]? = some (some d)
    · obtain ⟨d, hd⟩ := hd
      obtain ⟨p, vs, ds, rfl, h1, h2, h3, h4, h5⟩ := E.own i d hd (List.mem_cons_self ..)
      have np : ∀ d, B.dl = some d → d.a ≠ p ∧ d.c ≠ p := fun d hd => by
        obtain ⟨_, _, _, n1, n2⟩ := E.deal d hd
        exact ⟨fun z => n1 (by rw [z]; exact h4), fun z => n2 (by rw [z]; exact h4)⟩
      refine ⟨upd G p (.lst vs), ⟨E.len, E.gg.trans (same_new h3), fun b o hb => ?_, E.hh, fun b o hb => ?_, fun j d h hj => ?_, fun j d h hj => ?_, fun j m p hj hm => E.sep j m p (List.mem_cons_of_mem _ hj) (List.mem_cons_of_mem _ hm), fun d hd => ?_⟩, same_new h3⟩
      · by_cases e : b = p
        · subst e; rw [upd_same] at hb; rw [h2]; exact hb
        · rw [upd_ne e] at hb; exact E.gh b o hb
      · have : b ≠ p := fun z => by rw [z, h4] at hb; cases hb
        rw [upd_ne this]
        exact E.fr b o hb
      · by_cases e : j = i
        · subst e
          rw [hd] at h; cases h
          exact ⟨_, h1, .lst upd_same (h5.mono (same_new h3))⟩
        · obtain ⟨v, a, b⟩ := E.pur j d h fun z => (List.mem_cons.mp z).elim e hj
          exact ⟨v, a, b.mono (same_new h3)⟩
      · have hji : j ≠ i := fun z => hi (z ▸ hj)
        obtain ⟨q, ws, es, k1, k2, k3, k4, k5, k6⟩ := E.own j d h (List.mem_cons_of_mem _ hj)
        have : q ≠ p := fun z => hji (E.sep j i p (List.mem_cons_of_mem _ hj) (List.mem_cons_self ..) ⟨_, h⟩ ⟨_, hd⟩ (z ▸ k2) h1)
        exact ⟨q, ws, es, k1, k2, k3, by rw [upd_ne this]; exact k4, k5, k6.mono (same_new h3)⟩
      · obtain ⟨k1, k2, k3, k4, k5⟩ := E.deal d hd
        obtain ⟨n1, n2⟩ := np d hd
        exact ⟨⟨by rw [upd_ne n1]; exact k1.ga, by rw [upd_ne n2]; exact k1.gc, k1.ne, k1.ex⟩, k2, k3, k4, k5⟩
    · refine same fun j hj => ?_
      rcases List.mem_cons.mp hj with rfl | hj
      · exact .inr fun d q => hd ⟨d, q⟩
      · exact .inl hj
theorem EnvR.freeze {G H : Hp} {σ : L2.St} {ρ : PEnv} : ∀ (l : List Nat), EnvR { B with ow := l } G H σ ρ → ∃ G', EnvR { B with ow := [] } G' H σ ρ ∧ Same G G'
  | [], E => ⟨G, E, Same.refl _⟩
  | i :: l, E => by
    obtain ⟨G1, E1, s1⟩ := E.freeze1
    obtain ⟨G2, E2, s2⟩ := EnvR.freeze l E1
    exact ⟨G2, E2, s1.trans s2⟩
theorem EnvR.frz {G H : Hp} {σ : L2.St} {ρ : PEnv} (E : EnvR B G H σ ρ) : ∃ G', EnvR B.frz G' H σ ρ ∧ Same G G' := EnvR.freeze B.ow E
/-- back to the owned lists behind an expression of a scalar -/
theorem EnvR.thaw {G H G1 G2 H2 : Hp} {σ : L2.St} {ρ : PEnv} (E : EnvR B G H σ ρ) (e : Same G G1) (s : Stp B.frz G1 H G2 H2) : Stp B G H G H2 :=
  ⟨Same.refl _, (e.trans s.gg).trans s.gh, s.hh, fun _ _ _ => rfl, fun d hd => by
    have A := s.dl d hd
    have A0 := (E.deal d hd).1
    exact ⟨A0.ga, A0.gc, A.ne, A.ex⟩⟩
def D.scal : D → Bool
  | .non => true | .bl _ => true | .int _ => true | .str _ => true
  | _ => false
/-- a scalar told over lists that are only looked at -/
theorem pu_scal (h : PuE X B.frz e t T) : PuE X B e t (fun ρ R => T ρ fun d => d.scal = true ∧ R d) := by
  refine ⟨h.pe, fun G H σ ρ R Q E hT k => ?_⟩
  obtain ⟨G1, E1, s1⟩ := E.frz
  refine h.pu G1 H σ ρ _ _ E1 hT fun d v G2 H2 h2 s2 r2 => ?_
  refine k d v G H2 h2.2 (E.thaw s1 s2) ?_
  have hs : d.scal = true := h2.1
  cases d with
  | non => cases r2; exact .non
  | bl b => cases r2; exact .bl _
  | int b => cases r2; exact .int _
  | str b => cases r2; exact .str _
  | _ => cases hs
theorem put_scal {c : Expr} {tc : TT} {Tc : TT'} (h : PuT X B.frz c tc Tc) : PuT X B c tc Tc := by
  refine ⟨h.pe, fun G H σ ρ R Q E hT k => ?_⟩
  obtain ⟨G1, E1, s1⟩ := E.frz
  exact h.pu G1 H σ ρ _ _ E1 hT fun b G2 H2 h2 s2 => k b G H2 h2 (E.thaw s1 s2)
def sRet (T : TE') : TS' := fun D ρ => T ρ D.rt
theorem pus_ret (h : PuE X B.frz e t T) : PuS X B (.Return (some e) pos) (tRet t) (sRet T) :=
  ⟨ps_ret h.pe, fun G H σ ρ D D' E hT c => by
    obtain ⟨G1, E1, s1⟩ := E.frz
    refine h.pu G1 H σ ρ _ _ E1 hT fun d v G2 H2 h2 s2 r2 => ?_
    have X2 := (E1.step s2).xit
    exact c.rt d v G2 H2 h2 ⟨X2.gg, X2.gh, X2.hh, X2.fr, X2.deal⟩ r2⟩
def sRetN : TS' := fun D _ => D.rt .non
theorem pus_retN : PuS X B (.Return none pos) tRetN sRetN := ⟨ps_retN, fun G H σ ρ D D' E hT c => c.rt _ _ G H hT E.xit .non⟩
def sIf (c : TT') (T U : TS') : TS' := fun D ρ => c ρ fun b => if b = true then T D ρ else U D ρ
theorem pus_if {c : Expr} {a b : List Stmt} {tc : TT} {Tc : TT'} (hc : PuT X B c tc Tc) (ha : PuSs X B a ts TS) (hb : PuSs X B b us US) : PuS X B (.If c a b pos) (tIfS tc ts us) (sIf Tc TS US) :=
  ⟨ps_if hc.pe ha.ps hb.ps, fun G H σ ρ D D' E hT k => hc.pu G H σ ρ _ _ E hT fun b G1 H1 h1 s1 => by
    cases b with
    | true =>
      rw [if_pos rfl] at h1 ⊢
      exact ha.pu G1 H1 σ ρ _ _ (E.step s1) h1 (k.mono s1.gg)
    | false =>
      rw [if_neg Bool.false_ne_true] at h1 ⊢
      exact hb.pu G1 H1 σ ρ _ _ (E.step s1) h1 (k.mono s1.gg)⟩
/-! assignments -/
def sAsg (T : TE') (g : TG') : TS' := fun D ρ => T ρ fun d => g d ρ D.nx
theorem asg_pu {g : TG} {g' : TG'} {sl : List Nat} {tg : Expr} (h : Pu B (RE B) t T) (hg : PuGt X B tg g g' sl) : PuTS B (tAsg t g) (sAsg T g') := fun G H σ ρ D D' E hT c =>
  h G H σ ρ _ _ E hT fun d v G1 H1 h1 s1 r1 => hg.pu G1 H1 σ ρ v d _ _ (E.step s1) r1 h1 fun ρ' σ' h2 E2 _ _ => c.nx _ _ _ _ h2 E2 s1.gg
theorem pus_set (i : Nat) {x : Str} (h : PuE X B e t T) (hN : X.N.Nodup) (hi : X.N[i]? = some x) (hx : Loc X.env.scope x) (hd : offDl B.dl i) (ho : i ∉ B.ow := by exact notIn_of rfl) (hs : swapsWith e (some (.Name x pos')) pos.line X.env = pure false := by rfl)
    (hf : X.fn x = true ∨ X.env.scope.names.lookup x = some .local := by first | exact .inl rfl | exact .inr rfl | assumption) : PuS X B (.Assign [.Name x pos'] e pos) (tAsg t (gName i)) (sAsg T (gN i)) :=
  ⟨ps_set hN hi hx h.pe hs hf, asg_pu (tg := .Name x pos') h.pu (pug_name i hN hi hx ho hd hf)⟩
theorem pus_asg {tg : Expr} {g : TG} {g' : TG'} {sl : List Nat} (h : PuE X B e t T) (hg : PuGt X B tg g g' sl) (hs : swapsWithSole [tg] e pos.line X.env = pure false := by rfl) (hw : swappedStores [tg] e X.env = pure none := by rfl)
    (h1 : (assignEach [tg] X.env).map (·.2) = [assign tg X.env] := by rfl) : PuS X B (.Assign [tg] e pos) (tAsg t g) (sAsg T g') := ⟨ps_asg h.pe hg.pe hs hw h1, asg_pu h.pu hg⟩
/-- an owned list told anew -/
theorem setOwn_pu (i : Nat) (hi : i ∈ B.ow) (hd : offDl B.dl i) (h : Pu B (RF B) t T) : PuTS B (tAsg t (gName i)) (sAsg T (gN i)) := fun G H σ ρ D D' E hT c =>
  h G H σ ρ _ _ E hT fun d v G1 H1 h1 s1 r1 => by
    obtain ⟨p, vs, ds, rfl, rfl, h2, h3, h4, h5⟩ := r1
    have E1 := E.step s1
    have h0 : B.H0 p = none := by
      cases q : B.H0 p with
      | none => rfl
      | some o =>
        have : ∃ o', H p = some o' := by
          by_cases hd : ∃ d, B.dl = some d ∧ (p = d.a ∨ p = d.c)
          · obtain ⟨d, e, z⟩ := hd
            rcases z with rfl | rfl
            · exact (E.deal d e).1.tr.1
            · exact (E.deal d e).1.tr.2
          · exact ⟨o, Hm_some (E.hh p o (Hm_of q fun d e => ⟨fun z => hd ⟨d, e, .inl z⟩, fun z => hd ⟨d, e, .inr z⟩⟩))⟩
        obtain ⟨o', q'⟩ := this
        rw [h2] at q'; cases q'
    refine c.nx _ _ _ _ h1 (E1.setOwn hi h4 h3 h0 (fun j x hj hji e1 e2 => ?_) h5 hd) s1.gg
    obtain ⟨q, ws, es, _, k2, k3, _⟩ := E.own j x e1 hj
    rw [e2] at k2
    cases k2
    rw [h2] at k3; cases k3
theorem pus_setF (i : Nat) {x : Str} (h : PuF X B e t T) (hN : X.N.Nodup) (hi : X.N[i]? = some x) (hx : Loc X.env.scope x) (hd : offDl B.dl i) (ho : i ∈ B.ow := by exact in_of rfl) (hs : swapsWith e (some (.Name x pos')) pos.line X.env = pure false := by rfl)
    (hf : X.fn x = true ∨ X.env.scope.names.lookup x = some .local := by first | exact .inl rfl | exact .inr rfl | assumption) : PuS X B (.Assign [.Name x pos'] e pos) (tAsg t (gName i)) (sAsg T (gN i)) :=
  ⟨ps_set hN hi hx h.pe hs hf, setOwn_pu i ho hd h.pu⟩
/-- x = [..] on one line, x a plain local -/
theorem setLc_ps (i : Nat) {w : Bool} {y : Str} {py spos : Pos} {elt tg iter : Expr} {ifs : List Expr} {scope : Scope} {own : List (Str × Nat)} {wi : TI} {Ti : TI'} {g : TG} {g' : TG'} {tt : TT} {tt' : TT'} {te : TE} {te' : TE'} {sl : List Nat} (hc : X.calm = true) (hN : X.N.Nodup) (hy : X.N[i]? = some y) (hyl : X.env.scope.names.lookup y = some .local)
    (hsw : swapsWith (.ListComp elt [⟨tg, iter, ifs, 0⟩] scope pos) (some (.Name y py)) spos.line X.env = pure true) (hi : PuI X B w tg iter wi Ti) (ok : BlkOk X.N X.env.scope scope own)
    (hg : ∀ (s : Shared) (H : Hp) (C : Addr) (cl : List (Str × Addr)) (fp : List Addr), PuGt (X.blk s H scope (compEnvC scope cl C X.env) fp) B tg g g' sl) (ht : ∀ (s : Shared) (H : Hp) (C : Addr) (cl : List (Str × Addr)) (fp : List Addr), PuTs (X.blk s H scope (compEnvC scope cl C X.env) fp) B ifs tt tt')
    (he : ∀ (s : Shared) (H : Hp) (C : Addr) (cl : List (Str × Addr)) (fp : List Addr), PuE (X.blk s H scope (compEnvC scope cl C X.env) fp) B elt te te') (hsl : ∀ j ∈ sl, j ∈ own.map (·.2)) (hd : ∀ i ∈ own.map (·.2), offDl B.dl i) (hs : ∀ x, foldedSetIterable iter X.env x = pure x) :
    PS X (.Assign [.Name y py] (.ListComp elt [⟨tg, iter, ifs, 0⟩] scope pos) spos) (tAsg (tLc wi g tt te (own.map (·.2))) (gName i)) ∧ Pu B (RF B) (tLc wi g tt te (own.map (·.2))) (xLc Ti g' tt' te' (own.map (·.2))) :=
  ⟨ps_setLc hc hN hy hyl hsw hi.pe ok (fun s H C cl fp => (hg s H C cl fp).pe) (fun s H C cl fp => (ht s H C cl fp).pe) (fun s H C cl fp => (he s H C cl fp).pe) hs,
    lc_pu hi.pu (hg X.s_0 X.H_0 0 [] []).pu (ht X.s_0 X.H_0 0 [] []).pu (he X.s_0 X.H_0 0 [] []).pu hsl hd⟩
theorem pus_setLc (i : Nat) {w : Bool} {y : Str} {py spos : Pos} {elt tg iter : Expr} {ifs : List Expr} {scope : Scope} {own : List (Str × Nat)} {wi : TI} {Ti : TI'} {g : TG} {g' : TG'} {tt : TT} {tt' : TT'} {te : TE} {te' : TE'} {sl : List Nat} (hc : X.calm = true) (hN : X.N.Nodup) (hy : X.N[i]? = some y) (hyl : X.env.scope.names.lookup y = some .local)
    (hdi : offDl B.dl i) (hsw : swapsWith (.ListComp elt [⟨tg, iter, ifs, 0⟩] scope pos) (some (.Name y py)) spos.line X.env = pure true) (hi : PuI X B w tg iter wi Ti) (ok : BlkOk X.N X.env.scope scope own)
    (hg : ∀ (s : Shared) (H : Hp) (C : Addr) (cl : List (Str × Addr)) (fp : List Addr), PuGt (X.blk s H scope (compEnvC scope cl C X.env) fp) B tg g g' sl) (ht : ∀ (s : Shared) (H : Hp) (C : Addr) (cl : List (Str × Addr)) (fp : List Addr), PuTs (X.blk s H scope (compEnvC scope cl C X.env) fp) B ifs tt tt')
    (he : ∀ (s : Shared) (H : Hp) (C : Addr) (cl : List (Str × Addr)) (fp : List Addr), PuE (X.blk s H scope (compEnvC scope cl C X.env) fp) B elt te te') (hsl : ∀ j ∈ sl, j ∈ own.map (·.2)) (hd : ∀ i ∈ own.map (·.2), offDl B.dl i) (ho : i ∉ B.ow := by exact notIn_of rfl) (hs : ∀ x, foldedSetIterable iter X.env x = pure x := by intro _; rfl) :
    PuS X B (.Assign [.Name y py] (.ListComp elt [⟨tg, iter, ifs, 0⟩] scope pos) spos) (tAsg (tLc wi g tt te (own.map (·.2))) (gName i)) (sAsg (xLc Ti g' tt' te' (own.map (·.2))) (gN i)) := by
  obtain ⟨h1, h2⟩ := setLc_ps i hc hN hy hyl hsw hi ok hg ht he hsl hd hs
  exact ⟨h1, asg_pu (tg := .Name y py) h2.ofF (pug_name i hN hy (.inl hyl) ho hdi (.inr hyl))⟩
theorem pus_setLcF (i : Nat) {w : Bool} {y : Str} {py spos : Pos} {elt tg iter : Expr} {ifs : List Expr} {scope : Scope} {own : List (Str × Nat)} {wi : TI} {Ti : TI'} {g : TG} {g' : TG'} {tt : TT} {tt' : TT'} {te : TE} {te' : TE'} {sl : List Nat} (hc : X.calm = true) (hN : X.N.Nodup) (hy : X.N[i]? = some y) (hyl : X.env.scope.names.lookup y = some .local)
    (hdi : offDl B.dl i) (hsw : swapsWith (.ListComp elt [⟨tg, iter, ifs, 0⟩] scope pos) (some (.Name y py)) spos.line X.env = pure true) (hi : PuI X B w tg iter wi Ti) (ok : BlkOk X.N X.env.scope scope own)
    (hg : ∀ (s : Shared) (H : Hp) (C : Addr) (cl : List (Str × Addr)) (fp : List Addr), PuGt (X.blk s H scope (compEnvC scope cl C X.env) fp) B tg g g' sl) (ht : ∀ (s : Shared) (H : Hp) (C : Addr) (cl : List (Str × Addr)) (fp : List Addr), PuTs (X.blk s H scope (compEnvC scope cl C X.env) fp) B ifs tt tt')
    (he : ∀ (s : Shared) (H : Hp) (C : Addr) (cl : List (Str × Addr)) (fp : List Addr), PuE (X.blk s H scope (compEnvC scope cl C X.env) fp) B elt te te') (hsl : ∀ j ∈ sl, j ∈ own.map (·.2)) (hd : ∀ i ∈ own.map (·.2), offDl B.dl i) (ho : i ∈ B.ow := by exact in_of rfl) (hs : ∀ x, foldedSetIterable iter X.env x = pure x := by intro _; rfl) :
    PuS X B (.Assign [.Name y py] (.ListComp elt [⟨tg, iter, ifs, 0⟩] scope pos) spos) (tAsg (tLc wi g tt te (own.map (·.2))) (gName i)) (sAsg (xLc Ti g' tt' te' (own.map (·.2))) (gN i)) := by
  obtain ⟨h1, h2⟩ := setLc_ps i hc hN hy hyl hsw hi ok hg ht he hsl hd hs
  exact ⟨h1, setOwn_pu i ho hdi h2⟩
/-! a, b = x, y -/
def sPar (i j : Nat) (T U : TE') : TS' := fun D ρ => T ρ fun d => U ρ fun f => D.nx ((ρ.set i (some d)).set j (some f))
theorem pus_par (i j : Nat) {x y : Str} {a b : Expr} {ta tb : TE} {Ta Tb : TE'} {px py pt : Pos} {kt k2 : Nat} {pt2 : Pos} (ha : PuE X B a ta Ta) (hb : PuE X B b tb Tb) (hc : X.calm = true) (hN : X.N.Nodup) (hi : X.N[i]? = some x) (hj : X.N[j]? = some y) (hx : X.env.scope.names.lookup x = some .local) (hy : X.env.scope.names.lookup y = some .local)
    (hdi : offDl B.dl i) (hdj : offDl B.dl j)
    (hw : swappedStores [.Tuple [.Name x px, .Name y py] kt pt] (.Tuple [a, b] k2 pt2) X.env = pure (some [x, y])) (hij : i ≠ j := by decide) (ho : i ∉ B.ow := by exact notIn_of rfl) (ho2 : j ∉ B.ow := by exact notIn_of rfl)
    (hs : swapsWithSole [.Tuple [.Name x px, .Name y py] kt pt] (.Tuple [a, b] k2 pt2) pos.line X.env = pure false := by rfl) (s1 : starEach [a, b] X.env = (false, eval a X.env) :: starEach [b] X.env := by rfl) (s2 : starEach [b] X.env = (false, eval b X.env) :: starEach [] X.env := by rfl) :
    PuS X B (.Assign [.Tuple [.Name x px, .Name y py] kt pt] (.Tuple [a, b] k2 pt2) pos) (tPar i j (tCons ta (tCons tb tNil))) (sPar i j Ta Tb) :=
  ⟨ps_par hc hN hi hj hij hx hy (pa_cons ha.pe (pa_cons hb.pe pa_nil s2) s1) hw hs, fun G H σ ρ D D' E hT c =>
    ha.pu G H σ ρ _ _ E hT fun d v G1 H1 h1 s1 r1 => hb.pu G1 H1 σ ρ _ _ (E.step s1) h1 fun f u G2 H2 h2 s2 r2 => ⟨v, u, rfl, by
      have E2 := (E.step s1).step s2
      exact c.nx _ _ _ _ h2 ((E2.set ho (r1.mono s2.gg) hdi).set ho2 r2 hdj) (s1.gg.trans s2.gg)⟩⟩
/-! x op= e -/
def sAug (i : Nat) (f : D → D → Option D) (T : TE') : TS' := fun D ρ => getW (ρ[i]?) fun x => T ρ fun y => ok (f x y) fun z => D.nx (ρ.set i (some z))
theorem pus_aug (i : Nat) {x : Str} {op : Operator} {r : R2} {f : D → D → Option D} (hp : PIp X op r) (hf : OpS B r f) (h : PuG X B e t T) (hN : X.N.Nodup) (hi : X.N[i]? = some x) (hx : Loc X.env.scope x) (hd : offDl B.dl i) (ho : i ∉ B.ow := by exact notIn_of rfl)
    (hfn : X.fn x = true ∨ X.env.scope.names.lookup x = some .local := by first | exact .inl rfl | exact .inr rfl | assumption) (he : PE X e t := by exact h.pe) : PuS X B (.AugAssign (.Name x pos') op e pos) (tAug i t r) (sAug i f T) :=
  ⟨ps_aug hN hi hx he hp hfn, fun G H σ ρ D D' E hT c => by
    obtain ⟨d, h1, h2⟩ := getW_iff hT
    obtain ⟨v, h3, h4⟩ := E.pur i d h1 ho
    refine ⟨v, h3, h.pu G H σ ρ _ _ E h2 fun y u G1 H1 h5 s1 r1 => ?_⟩
    obtain ⟨z, e1, h6⟩ := ok_iff h5
    have E1 := E.step s1
    exact hf G1 H1 v u d y z _ (fun p o hp => E1.stpNew o hp) (.refl E1) (.inl (h4.mono s1.gg)) (r1.step (.refl E1)) e1 fun w G' H' s3 r3 => c.nx _ _ _ _ h6 ((E1.step s3).set ho r3 hd) (s1.gg.trans s3.gg)⟩
/-! loops -/
def forL (g : TG') (tb : TS') : List D → Ends' → PEnv → Prop
  | [], D, ρ => D.nx ρ
  | x :: xs, D, ρ => g x ρ fun ρ1 => tb { D with nx := fun ρ2 => forL g tb xs D ρ2, ct := fun ρ2 => forL g tb xs D ρ2, bk := D.nx } ρ1
def sFor (Ti : TI') (g : TG') (tb : TS') : TS' := fun D ρ => Ti ρ fun ds => forL g tb ds D ρ
theorem pus_for {tg iter : Expr} {body : List Stmt} {wi : TI} {Ti : TI'} {g : TG} {g' : TG'} {sl : List Nat} (hp : PassesOwn (model X.prog X.w) X.A X.env X.xe) (hc : X.calm = true) (hi : PuI X B false tg iter wi Ti) (hg : PuGt X B tg g g' sl) (hb : PuSs X B body ts TS)
    (hs : ∀ x, foldedSetIterable iter X.env x = pure x := by intro _; rfl) : PuS X B (.For tg iter body [] pos) (tFor wi g ts) (sFor Ti g' TS) := by
  refine ⟨ps_for hp hc hi.pe hg.pe hb.ps hs, fun G H σ ρ D D' E hT c => ?_⟩
  refine hi.pu G H σ ρ _ _ E hT fun ds J G1 H1 h1 hl s1 itr => ?_
  refine ⟨fun i m σx Hx => m = ds.length - i ∧ i ≤ ds.length ∧ ∃ Gx ρx, EnvR B Gx Hx σx ρx ∧ Same G1 Gx ∧ forL g' TS (ds.drop i) D' ρx, ⟨ds.length, by simp, Nat.zero_le _, G1, ρ, E.step s1, Same.refl _, by simpa using h1⟩, ?_⟩
  rintro i m σx Hx ⟨rfl, hi, Gx, ρx, Ex, gx, hloop⟩
  obtain ⟨hgo, hstop⟩ := itr Gx Hx gx Ex.gh fun z => by cases z
  by_cases hlt : i < ds.length
  · right
    obtain ⟨go, hy⟩ := hgo i hlt
    refine ⟨go, fun σn Hn => ∃ Gn ρn, EnvR B Gn Hn σn ρn ∧ Same G1 Gn ∧ forL g' TS (ds.drop (i + 1)) D' ρn, fun σn Hn hn => ⟨_, by omega, rfl, hlt, hn⟩, fun x H' hyl => ?_⟩
    obtain ⟨d, hd0, hx⟩ := hy x H' hyl
    have hdrop : ds.drop i = d :: ds.drop (i + 1) := by
      rw [List.drop_eq_getElem_cons hlt]
      rw [List.getElem?_eq_getElem hlt] at hd0
      cases hd0; rfl
    rw [hdrop] at hloop
    have key : ∃ G', Stp B Gx Hx G' H' ∧ Rp B.K G' x d := by
      rcases hx with ⟨rfl, rx⟩ | ⟨q, o, hq, rfl, rx⟩
      · exact ⟨Gx, .refl Ex, rx⟩
      · exact ⟨_, Ex.stpNew o hq, rx⟩
    obtain ⟨G', s', rx⟩ := key
    refine hg.pu G' H' _ _ x d _ _ (Ex.step s') rx hloop fun ρ1 σ1 hl1 E1' len1 keep1 => ?_
    have gg : Same G1 G' := gx.trans s'.gg
    exact hb.pu G' H' σ1 ρ1 _ _ E1' hl1 ⟨fun ρ2 σ2 G2 H2 a E2 s2 => ⟨G2, ρ2, E2, gg.trans s2, a⟩, fun ρ2 σ2 G2 H2 a E2 s2 => c.nx _ _ _ _ a E2 ((s1.gg.trans gg).trans s2), fun ρ2 σ2 G2 H2 a E2 s2 => ⟨G2, ρ2, E2, gg.trans s2, a⟩, c.rt⟩
  · left
    have e : i = ds.length := by omega
    subst e
    refine ⟨hstop, ?_⟩
    rw [List.drop_length] at hloop
    exact c.nx _ _ _ _ hloop Ex (s1.gg.trans gx)
def whileN (tc : TT') (tb : TS') : Nat → Ends' → PEnv → Prop
  | 0, _, _ => False
  | n + 1, D, ρ => tc ρ fun b => if b = true then tb { D with nx := fun ρ2 => whileN tc tb n D ρ2, ct := fun ρ2 => whileN tc tb n D ρ2, bk := D.nx } ρ else D.nx ρ
def sWhile (tc : TT') (tb : TS') : TS' := fun D ρ => ∃ n, whileN tc tb n D ρ
theorem pus_while {c : Expr} {body : List Stmt} {tc : TT} {Tc : TT'} (hp : PassesOwn (model X.prog X.w) X.A X.env X.xe) (hc : PuT X B c tc Tc) (hb : PuSs X B body ts TS) : PuS X B (.While c body [] pos) (tWhile tc ts) (sWhile Tc TS) := by
  refine ⟨ps_while hp hc.pe hb.ps, fun G H σ ρ D D' E hT k => ?_⟩
  obtain ⟨n, hT⟩ := hT
  refine ⟨fun m σx Hx => ∃ Gx ρx, EnvR B Gx Hx σx ρx ∧ Same G Gx ∧ whileN Tc TS m D' ρx, ⟨n, G, ρ, E, Same.refl _, hT⟩, ?_⟩
  rintro m σx Hx ⟨Gx, ρx, Ex, gx, hw⟩
  cases m with
  | zero => exact hw.elim
  | succ m =>
    refine hc.pu Gx Hx σx ρx _ _ Ex hw fun b G1 H1 h1 s1 => ?_
    cases b with
    | true =>
      rw [if_pos rfl] at h1 ⊢
      refine ⟨fun σn Hn => ∃ Gn ρn, EnvR B Gn Hn σn ρn ∧ Same G Gn ∧ whileN Tc TS m D' ρn, fun σn Hn ⟨Gn, ρn, a1, a2, a3⟩ => ⟨m, Nat.lt_succ_self _, Gn, ρn, a1, a2, a3⟩, ?_⟩
      exact hb.pu G1 H1 σx ρx _ _ (Ex.step s1) h1 ⟨fun ρ2 σ2 G2 H2 a E2 s2 => ⟨G2, ρ2, E2, (gx.trans s1.gg).trans s2, a⟩, fun ρ2 σ2 G2 H2 a E2 s2 => k.nx _ _ _ _ a E2 ((gx.trans s1.gg).trans s2), fun ρ2 σ2 G2 H2 a E2 s2 => ⟨G2, ρ2, E2, (gx.trans s1.gg).trans s2, a⟩, k.rt⟩
    | false =>
      rw [if_neg Bool.false_ne_true] at h1 ⊢
      exact k.nx _ _ _ _ h1 (Ex.step s1) (gx.trans s1.gg)
end
end PU
set_option Elab.async false
set_option linter.all false
set_option maxRecDepth 100000
set_option maxHeartbeats 4000000
/-! PU, part 7: owned lists changed; a def's contract from its body. -/
namespace PU
open PySem PySem.Spec PyProof.Rows L2

/-! ### expressions that change owned lists -/
abbrev TX' := PEnv → (D → PEnv → Prop) → Prop
structure PuX (X : Cx) (B : Bs) (e : Expr) (t : TE) (T : TX') : Prop where
  pe : PE X e t
  pu : ∀ G H σ ρ R Q, EnvR B G H σ ρ → T ρ R → (∀ d v ρ' G' H', R d ρ' → EnvR B G' H' σ ρ' → Same G G' → Rp B.K G' v d → Q v H') → t σ H Q
def isL (d : D) (R : List D → Prop) : Prop := match d with
  | .lst xs => R xs
  | _ => False
theorem isL_iff {d : D} {R : List D → Prop} (h : isL d R) : ∃ xs, d = .lst xs ∧ R xs := by
  match d, h with
  | .lst xs, h => exact ⟨xs, rfl, h⟩
def ownL (ρ : PEnv) (i : Nat) (R : List D → Prop) : Prop := getW (ρ[i]?) fun d => isL d R
theorem ownL_iff {ρ : PEnv} {i : Nat} {R : List D → Prop} (h : ownL ρ i R) : ∃ xs, ρ[i]? = some (some (.lst xs)) ∧ R xs := by
  obtain ⟨d, h1, h2⟩ := getW_iff h
  obtain ⟨xs, rfl, h3⟩ := isL_iff h2
  exact ⟨xs, h1, h3⟩
section
variable {X : Cx} {B : Bs} {pos apos p : Pos} {e : Expr} {t : TE} {T : TE'} {TX : TX'}
def xUp (T : TE') : TX' := fun ρ R => T ρ fun d => R d ρ
theorem PuE.x (h : PuE X B e t T) : PuX X B e t (xUp T) := ⟨h.pe, fun G H σ ρ R Q E hT k => h.pu G H σ ρ _ _ E hT fun d v G' H' a s r => k d v ρ G' H' a (E.step s) s.gg r⟩
theorem EnvR.ownAt {G H : Hp} {σ : L2.St} {ρ : PEnv} (E : EnvR B G H σ ρ) {i : Nat} {xs : List D} (h : ρ[i]? = some (some (.lst xs))) (hi : i ∈ B.ow) : ∃ q vs, σ[i]? = some (some (.ref q)) ∧ H q = some (.lst vs) ∧ G q = none ∧ B.H0 q = none ∧ RpL B.K G vs xs := by
  obtain ⟨q, vs, ds, h1, h2, h3, h4, h5, h6⟩ := E.own i _ h hi
  cases h1
  exact ⟨q, vs, h2, h3, h4, h5, h6⟩
def xPop (i : Nat) : TX' := fun ρ R => ownL ρ i fun xs => match xs[xs.length - 1]? with
  | some d => R d (ρ.set i (some (.lst xs.dropLast)))
  | none => False
theorem pux_pop (i : Nat) {x : Str} (hi : i ∈ B.ow := by exact in_of rfl) (hN : X.N[i]? = some x := by rfl) (hv : Vis X.env.scope x := by first | exact Or.inl rfl | exact Or.inr (Or.inl rfl) | exact Or.inr (Or.inr rfl)) (hd : (x == ("__debug__" : Str)) = false := by decide) (hcd : (x == ("__classdict__" : Str)) = false := by decide)
    (pe : PE X (.Name x p) (tVar i) → PE X e (tBM0 X.K "list" rPop (tVar i))) : PuX X B e (tBM0 X.K "list" rPop (tVar i)) (xPop i) := by
  refine ⟨pe (pe_var hN hv hd hcd), fun G H σ ρ R Q E hT k => ?_⟩
  obtain ⟨xs, h1, h2⟩ := ownL_iff hT
  obtain ⟨q, vs, h3, h4, h5, h6, h7⟩ := E.ownAt h1 hi
  cases hq : xs[xs.length - 1]? with
  | none => rw [hq] at h2; exact h2.elim
  | some d =>
    rw [hq] at h2
    obtain ⟨v, h8, h9⟩ := h7.get hq
    exact ⟨_, h3, .inl ⟨rfl, _, SqL.of h4⟩, q, vs, v, rfl, rfl, h4, by rw [h7.length]; exact h8, k _ _ _ _ _ h2 (E.write hi h1 h3 h4 h5 h6 h7.dropLast) (Same.refl _) h9⟩
def xPopAt (i : Nat) (T : TE') : TX' := fun ρ R => ownL ρ i fun xs => T ρ fun d => isI d fun n => (-(2 ^ 63) ≤ n ∧ n < 2 ^ 63) ∧ match seqIndex? n xs.length with
  | some m => (match xs[m]? with
    | some d => R d (ρ.set i (some (.lst (xs.eraseIdx m))))
    | none => False)
  | none => False
theorem pux_popAt (i : Nat) {x : Str} {a : Expr} (h : PuE X B a t T) (hi : i ∈ B.ow := by exact in_of rfl) (hN : X.N[i]? = some x := by rfl) (hv : Vis X.env.scope x := by first | exact Or.inl rfl | exact Or.inr (Or.inl rfl) | exact Or.inr (Or.inr rfl)) (hd : (x == ("__debug__" : Str)) = false := by decide) (hcd : (x == ("__classdict__" : Str)) = false := by decide)
    (pe : PE X (.Name x p) (tVar i) → PE X e (tBM X.K "list" rPopAt (tVar i) (tCons t tNil))) : PuX X B e (tBM X.K "list" rPopAt (tVar i) (tCons t tNil)) (xPopAt i T) := by
  refine ⟨pe (pe_var hN hv hd hcd), fun G H σ ρ R Q E hT k => ?_⟩
  obtain ⟨xs, h1, h2⟩ := ownL_iff hT
  obtain ⟨q, vs, h3, h4, h5, h6, h7⟩ := E.ownAt h1 hi
  refine ⟨_, h3, .inl ⟨rfl, _, SqL.of h4⟩, h.pu G H σ ρ _ _ E h2 fun d v G1 H1 k1 s1 r1 => ?_⟩
  obtain ⟨n, rfl, ⟨b1, b2⟩, k2⟩ := isI_iff k1
  obtain ⟨q', us, j3, j4, j5, j6, j7⟩ := (E.step s1).ownAt h1 hi
  rw [h3] at j3
  cases j3
  cases hm : seqIndex? n xs.length with
  | none => rw [hm] at k2; exact k2.elim
  | some m =>
    rw [hm] at k2
    dsimp only at k2
    cases hq : xs[m]? with
    | none => rw [hq] at k2; exact k2.elim
    | some d =>
      rw [hq] at k2
      obtain ⟨w, h8, h9⟩ := j7.get hq
      exact ⟨q, us, n, m, w, rfl, by rw [r1.dcases], j4, b1, b2, by rw [j7.length]; exact hm, h8, k _ _ _ _ _ k2 ((E.step s1).write hi h1 h3 j4 j5 j6 (j7.eraseIdx m)) s1.gg h9⟩
/-! statements over them -/
def sAsgX (T : TX') (g : TG') : TS' := fun D ρ => T ρ fun d ρ1 => g d ρ1 D.nx
theorem pus_setX (i : Nat) {x : Str} {pos' : Pos} (h : PuX X B e t TX) (hN : X.N.Nodup) (hi : X.N[i]? = some x) (hx : Loc X.env.scope x) (hd : offDl B.dl i) (ho : i ∉ B.ow := by exact notIn_of rfl) (hs : swapsWith e (some (.Name x pos')) pos.line X.env = pure false := by rfl)
    (hf : X.fn x = true ∨ X.env.scope.names.lookup x = some .local := by first | exact .inl rfl | exact .inr rfl | assumption) : PuS X B (.Assign [.Name x pos'] e pos) (tAsg t (gName i)) (sAsgX TX (gN i)) :=
  ⟨ps_set hN hi hx h.pe hs hf, fun G H σ ρ D D' E hT c => h.pu G H σ ρ _ _ E hT fun d v ρ' G' H' a E' s r => c.nx _ _ _ _ a (E'.set ho r hd) s⟩
theorem pus_asgX {tg : Expr} {g : TG} {g' : TG'} {sl : List Nat} (h : PuX X B e t TX) (hg : PuGt X B tg g g' sl) (hs : swapsWithSole [tg] e pos.line X.env = pure false := by rfl) (hw : swappedStores [tg] e X.env = pure none := by rfl)
    (h1 : (assignEach [tg] X.env).map (·.2) = [assign tg X.env] := by rfl) : PuS X B (.Assign [tg] e pos) (tAsg t g) (sAsgX TX g') := ⟨ps_asg h.pe hg.pe hs hw h1, fun G H σ ρ D D' E hT c =>
  h.pu G H σ ρ _ _ E hT fun d v ρ' G' H' a E' s r => hg.pu G' H' σ ρ' v d _ _ E' r a fun ρ2 σ2 h2 E2 _ _ => c.nx _ _ _ _ h2 E2 s⟩
def sDropX (T : TX') : TS' := fun D ρ => T ρ fun _ ρ1 => D.nx ρ1
theorem pus_exprX (h : PuX X B e t TX) (hs : swapsWith e none pos.line X.env = pure false := by rfl) : PuS X B (.Expr e pos) (tDrop t) (sDropX TX) :=
  ⟨ps_expr h.pe hs, fun G H σ ρ D D' E hT c => h.pu G H σ ρ _ _ E hT fun d v ρ' G' H' a E' s r => c.nx _ _ _ _ a E' s⟩
/-- x.append(e) -/
def sApp (i : Nat) (T : TX') : TS' := fun D ρ => ownL ρ i fun _ => T ρ fun d ρ1 => ownL ρ1 i fun xs => xs.length < sizeLine ∧ D.nx (ρ1.set i (some (.lst (xs ++ [d]))))
theorem pus_append (i : Nat) {x : Str} {a : Expr} (h : PuX X B a t TX) (hi : i ∈ B.ow := by exact in_of rfl) (hN : X.N[i]? = some x := by rfl) (hv : Vis X.env.scope x := by first | exact Or.inl rfl | exact Or.inr (Or.inl rfl) | exact Or.inr (Or.inr rfl)) (hd : (x == ("__debug__" : Str)) = false := by decide) (hcd : (x == ("__classdict__" : Str)) = false := by decide)
    (ps : PE X (.Name x p) (tVar i) → PS X (.Expr e pos) (tDrop (tBM X.K "list" rAppend (tVar i) (tCons t tNil)))) : PuS X B (.Expr e pos) (tDrop (tBM X.K "list" rAppend (tVar i) (tCons t tNil))) (sApp i TX) := by
  refine ⟨ps (pe_var hN hv hd hcd), fun G H σ ρ D D' E hT c => ?_⟩
  obtain ⟨ws, h1, h2⟩ := ownL_iff hT
  obtain ⟨q, vs, h3, h4, h5, h6, h7⟩ := E.ownAt h1 hi
  refine ⟨_, h3, .inl ⟨rfl, _, SqL.of h4⟩, h.pu G H σ ρ _ _ E h2 fun d v ρ' G1 H1 k1 E1 s1 r1 => ?_⟩
  obtain ⟨xs, k2, k3, k4⟩ := ownL_iff k1
  obtain ⟨q', us, j3, j4, j5, j6, j7⟩ := E1.ownAt k2 hi
  rw [h3] at j3
  cases j3
  exact ⟨q, us, v, rfl, rfl, j4, by rw [j7.length]; exact k3, c.nx _ _ _ _ k4 (E1.write hi k2 h3 j4 j5 j6 (j7.append (.cons r1 .nil))) s1⟩
/-- x.extend(e), e a list of this def's own making or any other -/
def sExt (i : Nat) (T : TE') : TS' := fun D ρ => ownL ρ i fun xs => T ρ fun d => isL d fun ys => xs.length + ys.length ≤ sizeLine ∧ D.nx (ρ.set i (some (.lst (xs ++ ys))))
theorem pus_extend (i : Nat) {x : Str} {a : Expr} (h : PuE X B a t T) (hi : i ∈ B.ow := by exact in_of rfl) (hN : X.N[i]? = some x := by rfl) (hv : Vis X.env.scope x := by first | exact Or.inl rfl | exact Or.inr (Or.inl rfl) | exact Or.inr (Or.inr rfl)) (hd : (x == ("__debug__" : Str)) = false := by decide) (hcd : (x == ("__classdict__" : Str)) = false := by decide)
    (ps : PE X (.Name x p) (tVar i) → PS X (.Expr e pos) (tDrop (tBM X.K "list" rExtend (tVar i) (tCons t tNil)))) : PuS X B (.Expr e pos) (tDrop (tBM X.K "list" rExtend (tVar i) (tCons t tNil))) (sExt i T) := by
  refine ⟨ps (pe_var hN hv hd hcd), fun G H σ ρ D D' E hT c => ?_⟩
  obtain ⟨xs, h1, h2⟩ := ownL_iff hT
  obtain ⟨q, vs, h3, h4, h5, h6, h7⟩ := E.ownAt h1 hi
  refine ⟨_, h3, .inl ⟨rfl, _, SqL.of h4⟩, h.pu G H σ ρ _ _ E h2 fun d v G1 H1 k1 s1 r1 => ?_⟩
  obtain ⟨ys, rfl, k3, k4⟩ := isL_iff k1
  have E1 := E.step s1
  obtain ⟨q', us, j3, j4, j5, j6, j7⟩ := E1.ownAt h1 hi
  rw [h3] at j3
  cases j3
  obtain ⟨b, ws, rfl, m1, m2⟩ := r1.lst'
  exact ⟨q, b, us, ws, rfl, rfl, j4, s1.gh _ _ m1, by rw [j7.length, m2.length]; exact k3, c.nx _ _ _ _ k4 (E1.write hi h1 h3 j4 j5 j6 (j7.append m2)) s1.gg⟩
/-- x[a] = e -/
def sSto (i : Nat) (T U : TE') : TS' := fun D ρ => T ρ fun d => ownL ρ i fun _ => U ρ fun f => isI f fun n => ownL ρ i fun xs => match ixN xs.length n with
  | some j => D.nx (ρ.set i (some (.lst (xs.set j d))))
  | none => False
theorem pus_store (i : Nat) {x : Str} {a : Expr} {ta : TE} {Ta : TE'} {p2 : Pos} (h : PuE X B e t T) (ha : PuE X B a ta Ta) (hi : i ∈ B.ow := by exact in_of rfl) (hN : X.N[i]? = some x := by rfl) (hv : Vis X.env.scope x := by first | exact Or.inl rfl | exact Or.inr (Or.inl rfl) | exact Or.inr (Or.inr rfl)) (hd : (x == ("__debug__" : Str)) = false := by decide) (hcd : (x == ("__classdict__" : Str)) = false := by decide)
    (ps : PE X (.Name x p) (tVar i) → PS X (.Assign [.Subscript (.Name x p) a p2] e pos) (tAsg t (gSub (tVar i) ta rSetL))) : PuS X B (.Assign [.Subscript (.Name x p) a p2] e pos) (tAsg t (gSub (tVar i) ta rSetL)) (sSto i T Ta) := by
  refine ⟨ps (pe_var hN hv hd hcd), fun G H σ ρ D D' E hT c => ?_⟩
  refine h.pu G H σ ρ _ _ E hT fun d v G1 H1 k1 s1 r1 => ?_
  have E1 := E.step s1
  obtain ⟨ws, h1, h2⟩ := ownL_iff k1
  obtain ⟨q, vs, h3, h4, h5, h6, h7⟩ := E1.ownAt h1 hi
  refine ⟨_, h3, ha.pu G1 H1 σ ρ _ _ E1 h2 fun f u G2 H2 k2 s2 r2 => ?_⟩
  obtain ⟨n, rfl, k3⟩ := isI_iff k2
  obtain ⟨xs, k4, k5⟩ := ownL_iff k3
  have E2 := E1.step s2
  obtain ⟨q', us, j3, j4, j5, j6, j7⟩ := E2.ownAt k4 hi
  rw [h3] at j3
  cases j3
  cases hx : ixN xs.length n with
  | none => rw [hx] at k5; exact k5.elim
  | some j =>
    rw [hx] at k5
    exact ⟨q, us, n, j, rfl, by rw [r2.dcases], j4, by rw [j7.length]; exact hx, c.nx _ _ _ _ k5 (E2.write hi k4 h3 j4 j5 j6 (j7.set (r1.mono s2.gg) j)) (s1.gg.trans s2.gg)⟩
end

/-! ### a def's contract -/
def startD (n : Nat) (ds : List D) : PEnv := ds.map some ++ List.replicate (n - ds.length) none
theorem start_pur {K : PySem.W.Frag} {G : Hp} {N : List Str} {vs : List V} {ds : List D} (r : RpL K G vs ds) : (start N vs).length = (startD N.length ds).length ∧ ∀ i d, (startD N.length ds)[i]? = some (some d) → ∃ v, (start N vs)[i]? = some (some v) ∧ Rp K G v d ∧ i < ds.length := by
  have hl := r.length
  refine ⟨by simp [L2.start, startD, hl], fun i d h => ?_⟩
  unfold startD at h
  by_cases hi : i < ds.length
  · rw [List.getElem?_append_left (by simpa using hi), List.getElem?_map] at h
    cases q : ds[i]? with
    | none => rw [q] at h; cases h
    | some d' =>
      rw [q] at h
      cases h
      obtain ⟨v, h1, h2⟩ := r.get q
      refine ⟨v, ?_, h2, hi⟩
      unfold L2.start
      rw [List.getElem?_append_left (by simpa [hl] using hi), List.getElem?_map, h1]
      rfl
  · rw [List.getElem?_append_right (by simpa using Nat.le_of_not_lt hi)] at h
    have := List.mem_of_getElem? h
    rw [List.mem_replicate] at this
    cases this.2
section
variable {P : Program} {w : World} {K : PySem.W.Frag} {mg : Str → Option Value} {base : Heap}
/-- a def as it stands behind the top, no defaults -/
def DefAt (K : PySem.W.Frag) (mg : Str → Option Value) (x : Str) (st : Stmt) : Prop := ∃ f fd, mg x = some (.ref f) ∧ FunD K x x (defArgs st) (defBody st) (defScope st) [] [] f fd
/-- a def that may be called: its contract, and how -/
structure CalI (P : Program) (w : World) (K : PySem.W.Frag) (mg : Str → Option Value) (base : Heap) (k : Nat) (x : Str) (ps : List Str) (sp : Sp) (f : Addr) (fd : FuncData) : Prop where
  at_ : mg x = some (.ref f)
  kp : PySem.W.keepIn K (.ref f) = true
  b : Binds K fd ps []
  F : FnOk P w K mg base CX0 k f fd ps sp
def Cal (P : Program) (w : World) (K : PySem.W.Frag) (mg : Str → Option Value) (base : Heap) (k : Nat) (x : Str) (ps : List Str) (S : Spec) : Prop := ∃ f fd, CalI P w K mg base k x ps (spW K S) f fd
def CalD (P : Program) (w : World) (K : PySem.W.Frag) (mg : Str → Option Value) (base : Heap) (k : Nat) (x : Str) (ps : List Str) (S : Spec) : Prop := ∃ f fd, CalI P w K mg base k x ps (spD K S) f fd
theorem Cal.mono {j k : Nat} {x : Str} {ps : List Str} {S : Spec} (c : Cal P w K mg base j x ps S) (h : j ≤ k) : Cal P w K mg base k x ps S := let ⟨f, fd, c⟩ := c; ⟨f, fd, c.at_, c.kp, c.b, c.F.mono h⟩
theorem CalD.mono {j k : Nat} {x : Str} {ps : List Str} {S : Spec} (c : CalD P w K mg base j x ps S) (h : j ≤ k) : CalD P w K mg base k x ps S := let ⟨f, fd, c⟩ := c; ⟨f, fd, c.at_, c.kp, c.b, c.F.mono h⟩
/-- a contract by another one -/
theorem Cal.imp {k : Nat} {x : Str} {ps : List Str} {S S' : Spec} (c : Cal P w K mg base k x ps S) (h : ∀ ds R, S' ds R → S ds R) : Cal P w K mg base k x ps S' := by
  obtain ⟨f, fd, c⟩ := c
  refine ⟨f, fd, c.at_, c.kp, c.b, c.F.imp ?_⟩
  rintro vs H Q E ⟨G, ds, R, a1, a2, a3, a4⟩
  exact ⟨G, ds, R, a1, a2, h _ _ a3, a4⟩
theorem CalD.imp {k : Nat} {x : Str} {ps : List Str} {S S' : Spec} (c : CalD P w K mg base k x ps S) (h : ∀ ds R, S' ds R → S ds R) : CalD P w K mg base k x ps S' := by
  obtain ⟨f, fd, c⟩ := c
  refine ⟨f, fd, c.at_, c.kp, c.b, c.F.imp ?_⟩
  rintro vs H Q E ⟨G, ds, R, dd, vs', a0, a1, a2, a3, a4, a5⟩
  exact ⟨G, ds, R, dd, vs', a0, a1, a2, a3, h _ _ a4, a5⟩
abbrev cxD (P : Program) (w : World) (K : PySem.W.Frag) (mg : Str → Option Value) (base : Heap) (N : List Str) (x : Str) (st : Stmt) (f : Addr) (cd : Value) (A : Around) (outer : List Env) (s : Shared) (H : Hp) (E : XK) : Cx := (cxOf CX0 P w K mg base N x (defScope st) f cd A outer s H E).nox
theorem fn_pureF {x : Str} {st : Stmt} {N ps : List Str} {k : Nat} {S : Spec} {T : TS'} (ow : List Nat) (F : DefAt K mg x st) (sc : FnScope N ps (defScope st)) (len : ∀ ds R, S ds R → ds.length = ps.length) (ho : ∀ i ∈ ow, ps.length ≤ i)
    (bi : ∀ (kV doc pm : Value) (an : Option Addr) (cdv ct : Value) (us : List Value), us.length = ps.length → bindArgs (PySem.W.fnOf x x (defArgs st) (defBody st) (defScope st) .none kV doc pm an cdv ct) ⟨us, []⟩ = pure (ps.zip us))
    (der : ∀ (f : Addr) (cd : Value) (A : Around) (outer : List Env) (s : Shared) (H G0 H0 : Hp) (E : XK), Room k (A.deeper (envOfC x (defScope st) s.heap.objs.size f cd)) → ∃ ts, PuSs (cxD P w K mg base N x st f cd A outer s H E) ⟨K, none, ow, G0, H0⟩ (defBody st) ts T)
    (math : ∀ ds R, S ds R → T { nx := fun _ => R .non, rt := R } (startD N.length ds)) : ∃ f fd, CalI P w K mg base (k + 1) x ps (spW K S) f fd ∧ FunD K x x (defArgs st) (defBody st) (defScope st) [] [] f fd := by
  obtain ⟨f, fd, hm, F⟩ := F
  refine ⟨f, fd, ⟨hm, F.kp, F.bindsN bi, F.ok sc ?_ ?_⟩, F⟩
  · rintro vs H Q E ⟨G, ds, R, _, r, hS, _⟩
    rw [r.length]
    exact len ds R hS
  · rintro cd A outer s H vs Q E hr ⟨G, ds, R, g1, r, hS, hQ⟩
    obtain ⟨ts, h⟩ := der f cd A outer s H G H E hr
    refine ⟨ts, h.ps.nox, ?_⟩
    obtain ⟨l1, p1⟩ := start_pur (N := N) r
    have E0 : EnvR ⟨K, none, ow, G, H⟩ G H (start N vs) (startD N.length ds) := by
      refine ⟨l1, Same.refl _, g1, Same.refl _, fun _ _ _ => rfl, fun i d h _ => ?_, fun i d h hi => ?_, fun i j p hi hj ei ej si sj => ?_, fun d h => by cases h⟩
      · obtain ⟨v, a, b, _⟩ := p1 i d h
        exact ⟨v, a, b⟩
      · obtain ⟨v, a, b, c⟩ := p1 i d h
        have := ho i hi
        rw [len ds R hS] at c
        omega
      · obtain ⟨d, ei⟩ := ei
        obtain ⟨v, a, b, c⟩ := p1 i d ei
        have := ho i hi
        rw [len ds R hS] at c
        omega
    have fin : ∀ d v G' H', R d → Xit ⟨K, none, ow, G, H⟩ G' H' → Rp K G' v d → Q v H' := fun d v G' H' a xt b => hQ d v G' H' a xt.gg xt.gh xt.hh xt.fr b
    exact h.pu G H _ _ _ _ E0 (math ds R hS) ⟨fun ρ σ G' H' a E' _ => fin _ _ _ _ a E'.xit .non, fun _ _ _ _ a _ _ => a.elim, fun _ _ _ _ a _ _ => a.elim, fin⟩
theorem fn_pure {x : Str} {st : Stmt} {N ps : List Str} {k : Nat} {S : Spec} {T : TS'} (ow : List Nat) (F : DefAt K mg x st) (sc : FnScope N ps (defScope st)) (len : ∀ ds R, S ds R → ds.length = ps.length) (ho : ∀ i ∈ ow, ps.length ≤ i)
    (bi : ∀ (kV doc pm : Value) (an : Option Addr) (cdv ct : Value) (us : List Value), us.length = ps.length → bindArgs (PySem.W.fnOf x x (defArgs st) (defBody st) (defScope st) .none kV doc pm an cdv ct) ⟨us, []⟩ = pure (ps.zip us))
    (der : ∀ (f : Addr) (cd : Value) (A : Around) (outer : List Env) (s : Shared) (H G0 H0 : Hp) (E : XK), Room k (A.deeper (envOfC x (defScope st) s.heap.objs.size f cd)) → ∃ ts, PuSs (cxD P w K mg base N x st f cd A outer s H E) ⟨K, none, ow, G0, H0⟩ (defBody st) ts T)
    (math : ∀ ds R, S ds R → T { nx := fun _ => R .non, rt := R } (startD N.length ds)) : Cal P w K mg base (k + 1) x ps S := by
  obtain ⟨f, fd, c, _⟩ := fn_pureF (k := k) (T := T) ow F sc len ho bi der math
  exact ⟨f, fd, c⟩
theorem fn_deal {x : Str} {st : Stmt} {N ps : List Str} {k : Nat} {S : Spec} {T : TS'} (ow : List Nat) (F : DefAt K mg x st) (sc : FnScope N ps (defScope st)) (len : ∀ ds R, S ds R → ds.length + 1 = ps.length) (ho : ∀ i ∈ ow, ps.length ≤ i)
    (bi : ∀ (kV doc pm : Value) (an : Option Addr) (cdv ct : Value) (us : List Value), us.length = ps.length → bindArgs (PySem.W.fnOf x x (defArgs st) (defBody st) (defScope st) .none kV doc pm an cdv ct) ⟨us, []⟩ = pure (ps.zip us))
    (der : ∀ (f : Addr) (cd : Value) (A : Around) (outer : List Env) (s : Shared) (H G0 H0 : Hp) (E : XK) (a c : Addr), Room k (A.deeper (envOfC x (defScope st) s.heap.objs.size f cd)) → ∃ ts, PuSs (cxD P w K mg base N x st f cd A outer s H E) ⟨K, some ⟨0, a, c⟩, ow, G0, H0⟩ (defBody st) ts T)
    (math : ∀ ds R, S ds R → T { nx := fun _ => R .non, rt := R } (none :: startD (N.length - 1) ds)) : CalD P w K mg base (k + 1) x ps S := by
  obtain ⟨f, fd, hm, F⟩ := F
  refine ⟨f, fd, hm, F.kp, F.bindsN bi, F.ok sc ?_ ?_⟩
  · rintro vs H Q E ⟨G, ds, R, dd, vs', rfl, _, _, r, hS, _⟩
    rw [List.length_cons, r.length]
    exact len ds R hS
  · rintro cd A outer s H vs Q E hr ⟨G, ds, R, dd, vs', rfl, g1, dl, r, hS, hQ⟩
    obtain ⟨i0, a, c⟩ := dd
    have dl' : DealAt ⟨0, a, c⟩ G H := ⟨dl.ga, dl.gc, dl.ne, dl.ex⟩
    obtain ⟨ts, h⟩ := der f cd A outer s H G H E a c hr
    refine ⟨ts, h.ps.nox, ?_⟩
    have hps : 1 ≤ N.length := by
      have := len ds R hS
      have h2 := congrArg List.length sc.pre
      rw [List.length_take] at h2
      omega
    cases N with
    | nil => simp at hps
    | cons y N =>
      have est : start (y :: N) (V.ref a :: vs') = some (V.ref a) :: start N vs' := by simp [L2.start]
      rw [est]
      obtain ⟨l1, p1⟩ := start_pur (N := N) r
      have E0 : EnvR ⟨K, some ⟨0, a, c⟩, ow, G, H⟩ G H (some (V.ref a) :: start N vs') (none :: startD N.length ds) := by
        have f1 : ∀ i d, (none :: startD N.length ds)[i]? = some (some d) → ∃ j, i = j + 1 ∧ (startD N.length ds)[j]? = some (some d) := fun i d h => by
          cases i with
          | zero => simp at h
          | succ j => exact ⟨j, rfl, by simpa using h⟩
        refine ⟨by simpa using l1, Same.refl _, g1, Same.refl _, fun _ _ _ => rfl, fun i d h _ => ?_, fun i d h hi => ?_, fun i j p hi hj ei ej si sj => ?_, fun d h => ?_⟩
        · obtain ⟨j, rfl, h⟩ := f1 i d h
          obtain ⟨v, a, b, _⟩ := p1 j d h
          exact ⟨v, by simpa using a, b⟩
        · obtain ⟨j, rfl, h⟩ := f1 i d h
          obtain ⟨v, a, b, c⟩ := p1 j d h
          have := ho _ hi
          have := len ds R hS
          omega
        · obtain ⟨d, ei⟩ := ei
          obtain ⟨m, rfl, ei⟩ := f1 i d ei
          obtain ⟨v, a, b, c⟩ := p1 m d ei
          have := ho _ hi
          have := len ds R hS
          omega
        · cases h
          obtain ⟨⟨_, t1⟩, _, t2⟩ := dl'.tr
          exact ⟨dl', rfl, rfl, by show H a ≠ none; rw [show H a = _ from t1]; simp, by show H c ≠ none; rw [show H c = _ from t2]; simp⟩
      have fin : ∀ d v G' H', R d → Xit ⟨K, some ⟨0, a, c⟩, ow, G, H⟩ G' H' → Rp K G' v d → Q v H' := fun d v G' H' q xt b => by
        have A := xt.deal _ rfl
        exact hQ d v G' H' q xt.gg xt.gh xt.hh xt.fr ⟨A.ga, A.gc, A.ne, A.ex⟩ b
      exact h.pu G H _ _ _ _ E0 (math ds R hS) ⟨fun ρ σ G' H' a E' _ => fin _ _ _ _ a E'.xit .non, fun _ _ _ _ a _ _ => a.elim, fun _ _ _ _ a _ _ => a.elim, fin⟩
end
end PU
set_option Elab.async false
set_option linter.all false
set_option maxRecDepth 100000
set_option maxHeartbeats 4000000
/-! PU, part 8: calls with keywords, isinstance of several types, tuples times and reversed, sorted pairs. -/
namespace PU
open PySem PySem.Spec PyProof.Rows L2

/-! ### f(k = v, ..), keywords alone -/
def tCallKn (n : Nat) (sp : Sp) (gV : List V → List V → List V) (E : XK) (tk : TA) : TE := fun σ H Q => tk σ H fun zs H2 => zs.length = n ∧ sp (gV [] zs) H2 Q E
section
variable {X : Cx} {k : Nat} {f : Addr} {fd : FuncData} {ps ks : List Str} {sp : Sp} {E : XK} {x : Str} {p pos : Pos} {kws : List Keyword} {tk : TA} {g : List Value → List Value → List Value} {gV : List V → List V → List V}
theorem pe_callKn (F : FnOk X.prog X.w X.K X.mg X.base CX0 k f fd ps sp) (hr : Room k X.A) (hg : Gl X x) (hm : X.mg x = some (.ref f)) (hk : PySem.W.keepIn X.K (.ref f) = true) (hb : KBn X.K fd ps 0 ks g gV) (hkw : PK X kws tk)
    (hall : (backToKw pos (keywordEach kws X.env)).all (·.1.isSome) = true := by rfl) (hks : (backToKw pos (keywordEach kws X.env)).filterMap (·.1) = ks := by rfl) (hdb : (x == ("__debug__" : Str)) = false := by decide)
    (hpl : ((backTo pos (starEach [] X.env)).any (·.1) || (backToKw pos (keywordEach kws X.env)).any (·.1.isNone)) = false := by rfl) :
    PE X (.Call (.Name x p) [] kws pos) (tCallKn ks.length sp gV E tk) := by
  constructor
  intro pins s σ H Q I hq
  refine wpAny_Call_Name_kw (ld_glob I hg hm (PySem.W.callWith_KW0 (h₀ := X.base) I.ok.mod.kin hk hall ?_ hpl) hdb)
  refine thn (hkw.run pos pins s σ H _ I hq) ?_
  rintro ws s2 ⟨zs, H2, I2, rz, hn, hs⟩
  refine ⟨I2.kIn, ?_⟩
  rw [hks]
  have r2 := hb.rel (.nil : Vals [] []) rz
  have hw : ws.length = ks.length := rz.length.symm.trans hn
  refine wpAny_call (codeAny_mono (F.run X.A X.stack s2 H2 ⟨[], ks.zip ws⟩ (g [] ws) (gV [] zs) Q E hr I2.env0 (hb.to s2 [] ws I2.kIn rfl hw) r2 hs) fun r s' hr' => ?_)
  match r, hr' with
  | .error e, h => exact h.elim
  | .ok (.ret u), h => exact I2.after h
  | .ok .next, h => exact h.elim
  | .ok .brk, h => exact h.elim
  | .ok .cont, h => exact h.elim
end
/-- the values of keywords put in the parameters' order: perm says which -/
def permL {α : Type} (perm : List Nat) (ws : List α) : List α := perm.filterMap fun i => ws[i]?
theorem perm_vals {perm : List Nat} {zs : List V} {ws : List Value} (r : Vals zs ws) : Vals (permL perm zs) (permL perm ws) := by
  unfold permL
  induction perm with
  | nil => exact .nil
  | cons i l ih =>
    rw [List.filterMap_cons, List.filterMap_cons]
    cases q : zs[i]? with
    | none =>
      rw [r.none_of q]
      exact ih
    | some v =>
      obtain ⟨u, h1, h2⟩ := r.get q
      rw [h1]
      exact .cons h2 ih
theorem perm_rp {K : PySem.W.Frag} {H : Hp} {perm : List Nat} {zs : List V} {ds : List D} (r : RpL K H zs ds) : RpL K H (permL perm zs) (permL perm ds) := by
  unfold permL
  induction perm with
  | nil => exact .nil
  | cons i l ih =>
    rw [List.filterMap_cons, List.filterMap_cons]
    cases q : ds[i]? with
    | none =>
      have : zs[i]? = none := by
        rw [List.getElem?_eq_none_iff] at q ⊢
        rw [r.length]; exact q
      rw [this]
      exact ih
    | some d =>
      obtain ⟨v, h1, h2⟩ := r.get q
      rw [h1]
      exact .cons h2 ih
def xCallK (perm : List Nat) (S : Spec) (Ta : TA') : TE' := fun ρ R => Ta ρ fun ds => S (permL perm ds) R
structure PuK (X : Cx) (B : Bs) (kws : List Keyword) (n : Nat) (t : TA) (T : TA') : Prop where
  pe : PK X kws t
  pu : ∀ G H σ ρ R Q, EnvR B G H σ ρ → T ρ R → (∀ ds vs G' H', R ds → ds.length = n → Stp B G H G' H' → RpL B.K G' vs ds → Q vs H') → t σ H Q
section
variable {X : Cx} {B : Bs} {e a b : Expr} {t ta tb : TE} {T Ta Tb : TE'} {p pos kpos : Pos} {kws : List Keyword} {nm : Option Str}
theorem puk_nil : PuK X B [] 0 tNil xNil := ⟨pk_nil, fun G H σ ρ R Q E hT k => k _ _ G H hT rfl (.refl E) .nil⟩
theorem puk_cons {n : Nat} {tr : TA} {Tr : TA'} (he : PuE X B e t T) (hr : PuK X B kws n tr Tr) : PuK X B (⟨nm, e, kpos⟩ :: kws) (n + 1) (tCons t tr) (xCons T Tr) := by
  refine ⟨pk_cons he.pe hr.pe, fun G H σ ρ R Q E hT k => ?_⟩
  refine he.pu G H σ ρ _ _ E hT fun d v G1 H1 h1 s1 r1 => ?_
  refine hr.pu G1 H1 σ ρ _ _ (E.step s1) h1 fun ds vs G2 H2 h2 l2 s2 r2 => ?_
  exact k _ _ G2 H2 h2 (by rw [List.length_cons, l2]) (s1.trans s2) (.cons (r1.mono s2.gg) r2)
theorem pu_callK {k n : Nat} {f : Addr} {fd : FuncData} {ps ks : List Str} {S : Spec} {x : Str} {tk : TA} {Tk : TA'} (perm : List Nat) (F : FnOk X.prog X.w X.K X.mg X.base CX0 k f fd ps (spW X.K S)) (hr : Room k X.A) (hg : Gl X x) (hm : X.mg x = some (.ref f)) (hk : PySem.W.keepIn X.K (.ref f) = true)
    (hb : KBn X.K fd ps 0 ks (fun _ ws => permL perm ws) (fun _ zs => permL perm zs)) (ha : PuK X B kws n tk Tk) (hn : ks.length = n) (hK : X.K = B.K := by rfl)
    (hall : (backToKw pos (keywordEach kws X.env)).all (·.1.isSome) = true := by rfl) (hks : (backToKw pos (keywordEach kws X.env)).filterMap (·.1) = ks := by rfl) (hdb : (x == ("__debug__" : Str)) = false := by decide)
    (hpl : ((backTo pos (starEach [] X.env)).any (·.1) || (backToKw pos (keywordEach kws X.env)).any (·.1.isNone)) = false := by rfl) :
    PuE X B (.Call (.Name x p) [] kws pos) (tCallKn ks.length (spW X.K S) (fun _ zs => permL perm zs) E0 tk) (xCallK perm S Tk) := by
  refine ⟨pe_callKn F hr hg hm hk hb ha.pe hall hks hdb hpl, fun G H σ ρ R Q E hT k => ?_⟩
  refine ha.pu G H σ ρ _ _ E hT fun ds vs G1 H1 h1 l1 s1 r1 => ⟨by rw [r1.length, l1, hn], ?_⟩
  have E1 := E.step s1
  rw [hK]
  exact ⟨G1, _, R, s1.gh, perm_rp r1, h1, fun d v G' H' h2 e1 e2 e3 e4 r2 => k _ _ _ _ h2 (s1.trans ⟨e1, e2, Hm_mono e3, e4, fun d hd => (E1.deal d hd).1.same e3 e4⟩) r2⟩
end
/-- how keywords bind, of a def as it stands -/
theorem kbn_of {K : PySem.W.Frag} {x : Str} {st : Stmt} {f : Addr} {fd : FuncData} {ps : List Str} (ks : List Str) (perm : List Nat) (F : FunD K x x (defArgs st) (defBody st) (defScope st) [] [] f fd)
    (h : ∀ (kV doc pm : Value) (an : Option Addr) (cdv ct : Value) (ws : List Value), ws.length = ks.length → bindArgs (PySem.W.fnOf x x (defArgs st) (defBody st) (defScope st) .none kV doc pm an cdv ct) ⟨[], ks.zip ws⟩ = pure (ps.zip (permL perm ws))) :
    KBn K fd ps 0 ks (fun _ ws => permL perm ws) (fun _ zs => permL perm zs) := by
  obtain ⟨oc, od, dV, kV, doc, pm, an, cdv, ct, osl, rfl, lk, hcd, hD, hK⟩ := F.ex
  rcases hD with ⟨_, rfl⟩ | ⟨e, _⟩
  · refine ⟨fun s us ws _ l1 l2 => ?_, fun _ rz => perm_vals rz⟩
    cases us with
    | nil => exact .of_eq (h kV doc pm an cdv ct ws l2)
    | cons _ _ => cases l1
  · exact absurd rfl e

/-! ### isinstance(x, (T, U, ..)) -/
section
variable {X : Cx} {B : Bs} {a : Expr} {ta : TE} {Ta : TE'} {p pos : Pos}
/-- a tuple of built-in types -/
inductive TyNs (X : Cx) : List Expr → List String → List V → List Value → TA → Prop
  | nil : TyNs X [] [] [] [] tNil
  | cons {n : Str} {m : String} {q : Pos} {es : List Expr} {ms : List String} {vs : List V} {us : List Value} {t : TA} (hg : Gl X n) (hm : X.mg n = none) (hv : bootBuiltins n = some (.type m)) (hk : m ∈ tyKnown) (hn : n ≠ "__name__") (hdb : (n == ("__debug__" : Str)) = false)
      (he : starEach (.Name n q :: es) X.env = (false, eval (.Name n q) X.env) :: starEach es X.env) (h : TyNs X es ms vs us t) : TyNs X (.Name n q :: es) (m :: ms) (.ty m :: vs) (.type m :: us) (tCons (tC (.ty m)) t)
theorem TyNs.pa {es : List Expr} {ms : List String} {vs : List V} {us : List Value} {t : TA} (h : TyNs X es ms vs us t) : PA X es t ∧ (∀ σ H Q, Q vs H → t σ H Q) ∧ Paired ClsV vs us ∧ ∀ d : D, d.isIns = false → PySem.W.kitAny X.K (.type d.tyN) us = some (ms.any (tyIs d.tyN)) := by
  induction h with
  | nil => exact ⟨pa_nil, fun _ _ _ h => h, .nil, fun _ _ => kitAny_nil⟩
  | @cons n m q es ms vs us t hg hm hv hk hn hdb he _ ih =>
    obtain ⟨h1, h2, h3, h4⟩ := ih
    refine ⟨pa_cons (pe_bltn hg hm hv rfl hn hdb) h1 he, fun σ H Q hQ => h2 σ H _ hQ, .cons (.ty _) h3, fun d hd => ?_⟩
    refine kitAny_cons (b := tyIs d.tyN m) (kit_ty (kit_known _ hk d hd)) (fun e => ?_) fun e => ?_
    · rw [h4 d hd, List.any_cons, e, Bool.false_or]
    · rw [List.any_cons, e, Bool.true_or]
def xIsiT (ms : List String) (Ta : TE') : TE' := fun ρ R => Ta ρ fun d => d.isIns = false ∧ R (.bl (ms.any (tyIs d.tyN)))
theorem pu_isiT {es : List Expr} {ms : List String} {vs : List V} {us : List Value} {t : TA} {x1 : Nat} {q : Pos} (hK : X.K = B.K := by rfl) (hg : Gl X "isinstance") (hm : X.mg "isinstance" = none) (ht : TyNs X es ms vs us t) (hl : vs.length ≤ sizeLine) (ha : PuG X B a ta Ta)
    (he : starEach [a, .Tuple es x1 q] X.env = (false, eval a X.env) :: starEach [.Tuple es x1 q] X.env := by rfl) (he2 : starEach [.Tuple es x1 q] X.env = (false, eval (.Tuple es x1 q) X.env) :: starEach [] X.env := by rfl) (hpl : (backTo pos (starEach [.Tuple es x1 q] X.env)).any (·.1) = false := by rfl) :
    PuE X B (.Call (.Name "isinstance" p) [a, .Tuple es x1 q] [] pos) (tCB (rIsiT X.K) (tCons ta (tCons (tTup t) tNil))) (xIsiT ms Ta) := by
  obtain ⟨h1, h2, h3, h4⟩ := ht.pa
  refine ⟨pe_callB call_isiT hg hm (by decide +kernel) (pa_cons ha.pe (pa_cons (pe_tup h1) pa_nil he2) he) (by decide) (by decide) he hpl, fun G H σ ρ R Q E hT k => ?_⟩
  refine ha.pu G H σ ρ _ _ E hT fun d v G1 H1 k1 s1 r1 => ?_
  refine h2 σ H1 _ ⟨hl, fun tp htp => ?_⟩
  have E1 := E.step s1
  have s2 := E1.stpNew (.tup vs) htp
  have r2 := RG.step (H0 := H) (H0' := H) r1 s2
  exact ⟨v, tp, vs, _, us, _, rfl, upd_same, h3, r2.tyx hK s2.ghm k1.1, h4 d k1.1, k _ _ _ _ k1.2 (s1.trans s2) (.bl _)⟩
end
end PU
set_option Elab.async false
set_option linter.all false
set_option maxRecDepth 100000
set_option maxHeartbeats 4000000
/-! PU, part 9: tuples times, tuples reversed, sorted pairs. -/
namespace PU
open PySem PySem.Spec PyProof.Rows L2

/-! ### t * n, any n up to 1000 -/
theorem tmul_same (l : Addr) (items : Array Value) (n : Nat) (dd : Option Addr) (sl : Array (Option Value)) (x : Int) (u : Tok) (b0 : (decide (x < -(2 ^ 63)) || decide (x ≥ 2 ^ 63)) = false) (b1 : (items.isEmpty || x == 1) = true) :
    Meets (Builtin.«tuple.__mul__» ⟨[.ref l, .int x u], []⟩) (fun _ R s => s.heap.get? l = some { cls := .type "tuple", dict := dd, data := .seq items n, slots := sl } ∧ R (.ok (.ret (.ref l))) s) :=
  .of_wp fun prog w A R s h => by
    obtain ⟨hp, g, d, tk, os⟩ := s
    obtain ⟨hl, h⟩ := h
    have f1 := AutoSeq1.idx_int
    wp_walk using wpAny_loadPart' hl
    all_goals (try (rw [b0] at *))
    repeat (first
      | (refine wpAny_ite_false (decide_eq_false (by rw [b0]; exact Bool.false_ne_true)) ?_; wp_walk using wpAny_loadPart' hl)
      | (refine wpAny_ite_true (decide_eq_true b1) ?_; wp_walk using wpAny_loadPart' hl))
    exact ⟨_, rfl, h⟩
theorem tmul_none (l : Addr) (items : Array Value) (n : Nat) (dd : Option Addr) (sl : Array (Option Value)) (x : Int) (u : Tok) (b0 : (decide (x < -(2 ^ 63)) || decide (x ≥ 2 ^ 63)) = false) (b1 : (items.isEmpty || x == 1) = false) (b2 : (decide (x ≤ 0) || items.isEmpty) = true) :
    Meets (Builtin.«tuple.__mul__» ⟨[.ref l, .int x u], []⟩) (fun _ R s => s.heap.get? l = some { cls := .type "tuple", dict := dd, data := .seq items n, slots := sl } ∧
      R (.ok (.ret (.ref s.heap.objs.size))) { s with heap := s.heap.push { cls := .type "tuple", data := .seq #[] }, toks := s.toks }) :=
  .of_wp fun prog w A R s h => by
    obtain ⟨hp, g, d, tk, os⟩ := s
    obtain ⟨hl, h⟩ := h
    have f1 := AutoSeq1.idx_int
    wp_walk using wpAny_loadPart' hl
    repeat (first
      | (refine wpAny_ite_false (decide_eq_false (by rw [b0]; exact Bool.false_ne_true)) ?_; wp_walk using wpAny_loadPart' hl)
      | (refine wpAny_ite_false (decide_eq_false (by rw [b1]; exact Bool.false_ne_true)) ?_; wp_walk using wpAny_loadPart' hl)
      | (refine wpAny_ite_true (decide_eq_true b2) ?_; wp_walk using wpAny_loadPart' hl))
    exact ⟨_, rfl, h⟩
/-- t * k where t is empty, or k is 1, or k is 0 or less -/
def rRepS (K : PySem.W.Frag) : R2 := fun x y H Q => ∃ (l : Addr) (k : Int) (xs : List V), x = .ref l ∧ y = .int k ∧ SqT K H l xs ∧ (-1000000 ≤ k ∧ k ≤ 1000000) ∧ ((xs = [] ∨ k = 1) → Q (.ref l) H) ∧ (¬ (xs = [] ∨ k = 1) → k ≤ 0 ∧ ∀ p, H p = none → Q (.ref p) (upd H p (.tup [])))
theorem op_repS {X : Cx} : OpR X (binaryOp .Mult) (rRepS X.K) := by
  rintro pins s σ H x y v u Q I rx ry ⟨l, k, xs, rfl, rfl, hT, ⟨k1, k2⟩, q1, q2⟩
  cases rx
  obtain ⟨t, rfl⟩ := ry
  obtain ⟨its, r, ⟨⟨oc, od, dat, osl⟩, ho, hc, n, hd⟩, hs⟩ := I.tuple hT
  simp only at hc hd
  subst hc hd
  have hle : its.length = xs.length := r.length.symm
  have b0 : (decide (k < -(2 ^ 63)) || decide (k ≥ 2 ^ 63)) = false := by
    rw [decide_eq_false (by omega), decide_eq_false (by omega)] <;> rfl
  have he : its.toArray.isEmpty = decide (xs = []) := by
    cases its with
    | nil => cases xs with
      | nil => rfl
      | cons _ _ => simp at hle
    | cons _ _ => cases xs with
      | nil => simp at hle
      | cons _ _ => rfl
  by_cases hw : xs = [] ∨ k = 1
  · have b1 : (its.toArray.isEmpty || k == 1) = true := by
      rw [he, Bool.or_eq_true]
      exact hw.imp (fun e => decide_eq_true e) fun e => by rw [e]; rfl
    refine wpAny_binaryOp_repeat_ref (T := "tuple") (U := "int") (by decide) ⟨_, ho, rfl⟩ (fun s' => typeIs_int s' k t) noFill_tuple_mul F.fills_int_mul F.slot_int_rmul repeat_tuple F.slot_int_index.lookup ?_
    refine call_meets F.slot_int_rmul (typeIs_int s k t) F.entry_int_rmul (F.args_int_rmul_2 _ _) (int_rmul_tuple k t l its.toArray n od osl) ⟨ho, rfl, ⟨_, ho, rfl⟩, ?_⟩
    refine call_meets F.slot_tuple_mul ⟨_, ho, rfl⟩ F.entry_tuple_mul (F.args_tuple_mul_2 _ _) (tmul_same l its.toArray n od osl k t b0 b1) ⟨ho, ?_⟩
    exact ⟨.ref l, H, I, rfl, q1 hw⟩
  · obtain ⟨k0, q3⟩ := q2 hw
    have b1 : (its.toArray.isEmpty || k == 1) = false := by
      rw [he, Bool.or_eq_false_iff]
      exact ⟨decide_eq_false fun e => hw (.inl e), beq_eq_false_iff_ne.mpr fun e => hw (.inr e)⟩
    have b2 : (decide (k ≤ 0) || its.toArray.isEmpty) = true := by
      rw [decide_eq_true k0]; rfl
    refine wpAny_binaryOp_repeat_ref (T := "tuple") (U := "int") (by decide) ⟨_, ho, rfl⟩ (fun s' => typeIs_int s' k t) noFill_tuple_mul F.fills_int_mul F.slot_int_rmul repeat_tuple F.slot_int_index.lookup ?_
    refine call_meets F.slot_int_rmul (typeIs_int s k t) F.entry_int_rmul (F.args_int_rmul_2 _ _) (int_rmul_tuple k t l its.toArray n od osl) ⟨ho, rfl, ⟨_, ho, rfl⟩, ?_⟩
    refine call_meets F.slot_tuple_mul ⟨_, ho, rfl⟩ F.entry_tuple_mul (F.args_tuple_mul_2 _ _) (tmul_none l its.toArray n od osl k t b0 b1 b2) ⟨ho, ?_⟩
    refine ⟨.ref s.heap.objs.size, _, I.laid (t' := s.toks) (o := .tup []) (fun _ _ w => Heap.get?_push_of_some _ w) (Nat.le_refl _) ?_, rfl, q3 _ (I.hok.fresh (Nat.le_refl _))⟩
    exact ⟨Nat.zero_le _, [], .nil, IsTup.new _ _⟩
def dRep : D → D → Option D
  | .tup xs, .int k => if -1000000 ≤ k ∧ k ≤ 1000 ∧ xs.length ≤ 1000 then some (.tup (List.replicate k.toNat xs).flatten) else none
  | _, _ => none
theorem op_repX {X : Cx} : OpR X (binaryOp .Mult) (fun x y H Q => rRepS X.K x y H Q ∨ rRepT X.K x y H Q) := op_repS.or op_repT
theorem ops_rep {X : Cx} {B : Bs} (hK : X.K = B.K) : OpS B (fun x y H Q => rRepS X.K x y H Q ∨ rRepT X.K x y H Q) dRep := by
  intro G H x y dx dy dz Q hn hs rx ry e k
  cases dx <;> cases dy <;> simp only [dRep, reduceCtorEq] at e
  split at e
  · rename_i xs m h
    cases e
    obtain ⟨a, vs, rfl, h1, h2⟩ := rx.tup
    have hl := h2.length
    have hq := Same.seqT hs.gh h1
    have hy := ry.int
    subst hy
    rw [hK]
    by_cases hw : vs = [] ∨ m = 1
    · refine .inl ⟨a, m, vs, rfl, rfl, hq, ⟨h.1, by omega⟩, fun _ => ?_, fun q => (q hw).elim⟩
      refine k _ _ _ hs ?_
      rcases hw with rfl | rfl
      · cases h2
        have : (List.replicate m.toNat ([] : List D)).flatten = [] := by simp
        rw [this]
        exact .tup h1 .nil
      · have : (List.replicate (1 : Int).toNat xs).flatten = xs := by simp
        rw [this]
        exact .tup h1 h2
    · by_cases h0 : m ≤ 0
      · refine .inl ⟨a, m, vs, rfl, rfl, hq, ⟨h.1, by omega⟩, fun q => (hw q).elim, fun _ => ⟨h0, fun p hp => ?_⟩⟩
        have : (List.replicate m.toNat xs).flatten = [] := by rw [show m.toNat = 0 by omega]; rfl
        exact k _ _ _ (hn p _ hp) (by rw [this]; exact .tup (SqT.of upd_same) .nil)
      · have h2' : 2 ≤ m := by
          have : m ≠ 1 := fun q => hw (.inr q)
          omega
        exact .inr ⟨a, m, vs, rfl, rfl, hq, fun q => hw (.inl q), h2', h.2.1, by omega, fun p hp => k _ _ _ (hn p _ hp) (.tup (SqT.of upd_same) ((h2.rep _).mono (hn p (.tup _) hp).gg))⟩
  · cases e
/-! ### t[::-1] of a tuple -/
section
variable {prog : Program} {w : World} {A : Around} {E : Value → Shared → Prop} {s : Shared}
theorem fm_map {α β : Type} {f : α → Option β} {g : α → β} : ∀ {l : List α}, (∀ k ∈ l, f k = some (g k)) → l.filterMap f = l.map g
  | [], _ => rfl
  | a :: l, h => by
    rw [List.filterMap_cons, h a (by simp), List.map_cons, fm_map fun k hk => h k (by simp [hk])]
theorem back_pick (xs : Array Value) : ((List.range xs.size).filterMap fun (k : Nat) => xs[(((xs.size : Int) - 1) + (k : Int) * (-1)).toNat]?).toArray = xs.toList.reverse.toArray := by
  congr 1
  have e : ∀ k ∈ List.range xs.size, xs[(((xs.size : Int) - 1) + (k : Int) * (-1)).toNat]? = some (xs.toList.reverse.getD k .none) := fun k hk => by
    rw [List.mem_range] at hk
    have e1 : (((xs.size : Int) - 1) + (k : Int) * (-1)).toNat = xs.size - 1 - k := by omega
    rw [e1, ← Array.getElem?_toList]
    have hk2 : k < xs.toList.reverse.length := by simpa using hk
    rw [List.getD_eq_getElem?_getD, List.getElem?_eq_getElem hk2, Option.getD_some, List.getElem_reverse, List.getElem?_eq_getElem (by simp; omega)]
    simp
  rw [fm_map e]
  apply List.ext_getElem?
  intro i
  rw [List.getElem?_map]
  by_cases hi : i < xs.size
  · have hi2 : i < xs.toList.reverse.length := by simpa using hi
    rw [List.getElem?_eq_getElem (by simpa using hi), List.getElem_range, Option.map_some, List.getD_eq_getElem?_getD, List.getElem?_eq_getElem hi2, Option.getD_some]
  · rw [List.getElem?_eq_none (by simpa using hi), List.getElem?_eq_none (by simpa using hi)]
    rfl
theorem getItem_tuple_back {t sl : Addr} {items : Array Value} {vl vu vs : Value} {Q : Value → Shared → Prop} (ht : IsTup s.heap t items) (hs : s.heap.IsSliceOf sl vl vu vs) (pl : IsPart vl none) (pu : IsPart vu none) (ps : IsPart vs (some (-1)))
    (h : Q (.ref s.heap.objs.size) { s with heap := s.heap.push { cls := .type "tuple", data := .seq items.toList.reverse.toArray } }) (hsz : items.size ≤ sizeLine) : wpAny (model prog w) A (getItem (.ref t) (.ref sl)) Q E s := by
  have hTs : s.TypeIs (.ref sl) "slice" := let ⟨os, a, b, _⟩ := hs; ⟨os, a, b⟩
  have hok : sizeOk (.seq items.toList.reverse.toArray) := by
    show items.toList.reverse.toArray.size ≤ sizeLine
    simpa using hsz
  unfold getItem
  try with_reducible refine wpAny_holding ?_
  first | refine wpAny_bind (wpAny_pure ?_) | skip
  refine wpAny_bind (wpAny_sequenceKey ht.typeIs (by decide) (wpAny_bind (wpAny_callSpecial?_slot (name := Str.ofString "__getitem__") ht.typeIs PyProof.Rows.slot_tuple_getitem (wpAny_call_entry PyProof.Rows.slot_tuple_getitem ht.typeIs entry_tuple_getitem ?_ (args_tuple_getitem _ _)))))
  show wpAny _ _ (Builtin.Tuple.tupleItemsOf (.ref t) >>= _) _ _ s
  refine wpAny_bind (tupleItemsOf_ ht (wpAny_bind (wpAny_typeOf hTs ?_)))
  rw [if_pos (by decide)]
  have app : ∀ {R : Int × Int × Nat → Shared → Prop}, R ((items.size : Int) - 1, -1, items.size) s → wpAny (model prog w) A.in1 (Builtin.Slice.sliceApplied (.ref sl) (pure (items.size : Int))) R E s := fun {R} hR => by
    obtain ⟨os, hos, hcs, hds⟩ := hs
    unfold Builtin.Slice.sliceApplied Builtin.Slice.sliceFields
    refine wpAny_bind (wpAny_bind (wpAny_field hos hds (x := vl) rfl (wpAny_bind (wpAny_field hos hds (x := vu) rfl (wpAny_bind (wpAny_field hos hds (x := vs) rfl (wpAny_pure ?_)))))))
    refine wpAny_bind (HT.slicePart_ ps ?_)
    show wpAny _ _ (if (((-1 : Int)) == 0) = true then _ else _) _ _ s
    rw [if_neg (by decide)]
    refine wpAny_bind (HT.slicePart_ pl (wpAny_bind (HT.slicePart_ pu (wpAny_bind (wpAny_pure ?_)))))
    have e1 : Builtin.Slice.sliceAdjust none none (-1) (items.size : Int) = ((items.size : Int) - 1, -1) := rfl
    have e2 : Builtin.Slice.slicePlaces ((items.size : Int) - 1) (-1) (-1) = items.size := by
      unfold Builtin.Slice.slicePlaces
      rw [if_neg (by decide)]
      by_cases h0 : (items.size : Int) - 1 > -1
      · rw [if_pos h0, show (-(-1) : Int) = 1 from rfl, Int.ediv_one]
        omega
      · rw [if_neg h0]
        omega
    show wpAny _ _ (match Builtin.Slice.sliceAdjust none none (-1) (items.size : Int) with | (x, y) => pure (x, (-1 : Int), Builtin.Slice.slicePlaces x y (-1))) _ _ s
    rw [e1]
    show wpAny _ _ (pure ((items.size : Int) - 1, (-1 : Int), Builtin.Slice.slicePlaces ((items.size : Int) - 1) (-1) (-1))) _ _ s
    rw [e2]
    exact wpAny_pure hR
  refine wpAny_bind (app ?_)
  have hno : ¬ ((((items.size : Int) - 1) == 0 && (-1 : Int) == 1 && items.size == items.size) = true) := by simp
  show wpAny _ _ (if (((items.size : Int) - 1) == 0 && (-1 : Int) == 1 && items.size == items.size) = true then _ else _) _ _ s
  rw [if_neg hno, back_pick]
  first
    | exact wpAny_bind (m := Builtin.Tuple.tupleExact _) (wpAny_newObj_type (wpAny_pure ⟨_, rfl, wpAny_pure h⟩) hok)
    | exact wpAny_bind (m := Builtin.Tuple.tupleExact _) (wpAny_newObj_type (wpAny_bind (wpAny_pure (wpAny_pure ⟨_, rfl, wpAny_pure h⟩))) hok)
    | exact wpAny_bind (wpAny_bind (m := Builtin.Tuple.tupleExact _) (wpAny_newObj_type (wpAny_pure (wpAny_pure ⟨_, rfl, wpAny_pure h⟩)) hok))
    | exact wpAny_bind (wpAny_bind (m := Builtin.Tuple.tupleExact _) (wpAny_newObj_type (wpAny_pure ⟨_, rfl, wpAny_pure h⟩) hok))
end
def tRevT (K : PySem.W.Frag) (te : TE) : TE := fun σ H Q => te σ H fun x H1 => ∃ a xs, x = .ref a ∧ SqT K H1 a xs ∧ ∀ p, H1 p = none → Q (.ref p) (upd H1 p (.tup xs.reverse))
theorem pe_revT {X : Cx} {e : Expr} {te : TE} {k : Nat} {p1 p2 p3 pos : Pos} (he : PE X e te) : PE X (.Subscript e (.Slice none none (some (.UnaryOp .USub (.Constant (.int 1) k p1) p2)) p3) pos) (tRevT X.K te) := by
  constructor
  intro pins s σ H Q I hw
  refine Subscript_ (thn (he.run pins s σ H _ I hw) ?_)
  rintro v s1 ⟨x, H1, I1, r1, a, xs, rfl, hx, q⟩
  cases r1
  have third : PO X (some (.UnaryOp .USub (.Constant (.int 1) k p1) p2)) (tPart (tUn (rU fun i => .int (-i)) (tC (.int 1)))) := po_some (pe_un un_neg pe_int)
  refine wpAny_Slice (thn (po_none.run pins s1 σ H1 (fun o H2 => o = none ∧ H2 = H1) I1 ⟨rfl, rfl⟩) ?_)
  rintro vl s2 ⟨_, _, I2, pl, rfl, rfl⟩
  refine thn (po_none.run pins s2 σ _ (fun o H3 => o = none ∧ H3 = _) I2 ⟨rfl, rfl⟩) ?_
  rintro vu s3 ⟨_, _, I3, pu, rfl, rfl⟩
  refine thn (third.run pins s3 σ _ (fun o H4 => o = some (-1) ∧ H4 = _) I3 ⟨1, rfl, -1, rfl, rfl, rfl⟩) ?_
  rintro vs s4 ⟨_, H4, I4, ps, rfl, rfl⟩
  have I5 := I4.kept (t' := s4.toks) (h' := s4.heap.push { cls := .type "slice", data := .fields #[vl, vu, vs] }) fun _ _ w => Heap.get?_push_of_some _ w
  obtain ⟨its, r, ht, hz⟩ := I5.tuple hx
  have hlen := r.length
  show wpAny (model X.prog X.w) X.A (subscriptTail e (.Slice none none (some (.UnaryOp .USub (.Constant (.int 1) k p1) p2)) p3) (.ref a) (.ref s4.heap.objs.size)) _ X.xe _
  refine tail_any (ops := [.ref a, .ref s4.heap.objs.size]) ht.typeIs PyProof.Rows.slot_tuple_getitem.lookup ?_ (by with_unfolding_all rfl)
  refine getItem_tuple_back ht (Heap.IsSliceOf.new _ vl vu vs) pl pu ps ?_ (by rw [List.size_toArray]; omega)
  refine ⟨.ref _, _, I5.laid (t' := s4.toks) (o := .tup xs.reverse) (fun _ _ w => Heap.get?_push_of_some _ w) (Nat.le_refl _) ?_, rfl, q _ (I5.hok.fresh (Nat.le_refl _))⟩
  exact ⟨by rw [List.length_reverse]; exact hz, _, r.reverse, IsTup.new _ _⟩
theorem pu_revT {X : Cx} {B : Bs} {a : Expr} {ta : TE} {Ta : TE'} {k : Nat} {p1 p2 p3 pos : Pos} (hK : X.K = B.K := by rfl) (ha : PuG X B a ta Ta) : PuE X B (.Subscript a (.Slice none none (some (.UnaryOp .USub (.Constant (.int 1) k p1) p2)) p3) pos) (tRevT X.K ta) (fun ρ R => Ta ρ fun d => ∃ xs, d = .tup xs ∧ R (.tup xs.reverse)) := by
  refine ⟨pe_revT ha.pe, fun G H σ ρ R Q E hT k => ?_⟩
  refine ha.pu G H σ ρ _ _ E hT fun d v G1 H1 h1 s1 r1 => ?_
  obtain ⟨xs, rfl, h4⟩ := h1
  obtain ⟨p, vs, rfl, q1, q2⟩ := r1.tup
  rw [hK]
  refine ⟨p, vs, rfl, Same.seqT s1.gh q1, fun q hq => ?_⟩
  have s4 := (E.step s1).stpNew (.tup vs.reverse) hq
  exact k _ _ _ _ h4 (s1.trans s4) (.tup (SqT.of upd_same) (q2.reverse.mono s4.gg))
end PU
set_option Elab.async false
set_option linter.all false
set_option maxRecDepth 100000
set_option maxHeartbeats 4000000
/-! PU, part 10: sorted of pairs of whole numbers. -/
namespace PU
open PySem PySem.Spec PyProof.Rows L2
def pairT (K : PySem.W.Frag) (H : Hp) (x : V) (p : Int × Int) : Prop := ∃ t, x = .ref t ∧ SqT K H t [.int p.1, .int p.2]
def rSortP (K : PySem.W.Frag) : List V → Hp → VK → Prop := fun vs H Q => ∃ (a : Addr) (xs : List V) (ps : List (Int × Int)), vs = [.ref a] ∧ SqL K H a xs ∧ Paired (pairT K H) xs ps ∧
  ∀ ys qs p, qs.Perm ps → qs.Pairwise (fun p q => SrtO.lexB q p = false) → (∀ F : V → Int × Int → Prop, Paired F xs ps → Paired F ys qs) → H p = none → Q (.ref p) (upd H p (.lst ys))
theorem paired_get {α β : Type} {F : α → β → Prop} : ∀ {xs : List α} {ys : List β}, Paired F xs ys → ∀ {i : Nat} {x : α}, xs[i]? = some x → ∃ y, ys[i]? = some y ∧ F x y
  | _, _, .nil, _, _, h => by simp at h
  | _, _, .cons r _, 0, _, h => by simp at h; subst h; exact ⟨_, rfl, r⟩
  | _, _, .cons _ t, i + 1, _, h => by
    obtain ⟨y, a, b⟩ := paired_get t (i := i) (by simpa using h)
    exact ⟨y, by simpa using a, b⟩
theorem paired_map {α β : Type} {F : α → β → Prop} {f : γ → α} {g : γ → β} : ∀ {l : List γ}, (∀ c ∈ l, F (f c) (g c)) → Paired F (l.map f) (l.map g)
  | [], _ => .nil
  | c :: l, h => .cons (h c (by simp)) (paired_map fun d hd => h d (by simp [hd]))
theorem cr_sortP {X : Cx} : CallR X (.builtin "sorted") (rSortP X.K) := by
  rintro pins s σ H vs us Q I r ⟨a, xs, ps, rfl, hs, hp, q⟩
  obtain ⟨its, rv, hl, hz⟩ := I.list hs
  obtain ⟨u, rfl, ru⟩ := vals1 r
  obtain rfl : u = Value.ref a := ru
  obtain ⟨e1, e2⟩ := refs_back rv fun x m => by
    obtain ⟨i, hi⟩ := List.getElem?_of_mem m
    obtain ⟨p, _, t, e, _⟩ := paired_get hp hi
    exact ⟨t, e⟩
  have lxp : xs.length = ps.length := hp.length
  have at_ : ∀ {i : Nat} {v : Value}, its[i]? = some v → ∃ p t, ps[i]? = some p ∧ v = .ref t ∧ SqT X.K H t [.int p.1, .int p.2] := fun {i v} hi => by
    have hx : xs[i]? = some (backV v) := by rw [e1, List.getElem?_map, hi]; rfl
    obtain ⟨p, h1, t, h2, h3⟩ := paired_get hp hx
    obtain ⟨t2, rfl⟩ := e2 v (List.mem_of_getElem? hi)
    have h2' : V.ref t2 = V.ref t := h2
    injection h2' with h2'
    subst h2'
    exact ⟨p, t2, h1, rfl, h3⟩
  have same : ∀ {i j : Nat} {v : Value} {p p' : Int × Int}, its[i]? = some v → its[j]? = some v → ps[i]? = some p → ps[j]? = some p' → p = p' := fun {i j v p p'} hi hj k1 k2 => by
    obtain ⟨_, t, a1, a2, a3⟩ := at_ hi
    obtain ⟨_, t', b1, b2, b3⟩ := at_ hj
    rw [k1] at a1; cases a1
    rw [k2] at b1; cases b1
    rw [a2] at b2; cases b2
    have := I.tuple_inj a3 b3
    simp only [List.cons.injEq, V.int.injEq, and_true] at this
    exact Prod.ext this.1 this.2
  have kex : ∃ kv : Value → Int × Int, ∀ (i : Nat) (v : Value), its[i]? = some v → ps[i]? = some (kv v) := by
    refine ⟨fun v => ps.getD (Classical.epsilon fun i => its[i]? = some v) (0, 0), fun i v hi => ?_⟩
    have hj : its[Classical.epsilon fun i => its[i]? = some v]? = some v := Classical.epsilon_spec (p := fun i => its[i]? = some v) ⟨i, hi⟩
    obtain ⟨p, t, h1, _⟩ := at_ hi
    obtain ⟨p', t', h2, _⟩ := at_ hj
    show ps[i]? = some (ps.getD _ (0, 0))
    rw [List.getD_eq_getElem?_getD, h2, Option.getD_some, h1, same hi hj h1 h2]
  obtain ⟨kv, hk⟩ := kex
  have hsq : ∀ v ∈ its, ∃ t, v = .ref t ∧ SqT X.K H t [.int (kv v).1, .int (kv v).2] := fun v hv => by
    obtain ⟨i, hi⟩ := List.getElem?_of_mem hv
    obtain ⟨p, t, h1, h2, h3⟩ := at_ hi
    have := hk i v hi
    rw [h1] at this; cases this
    exact ⟨t, h2, h3⟩
  have hmap : its.map kv = ps := by
    apply List.ext_getElem?
    intro i
    rw [List.getElem?_map]
    cases h : its[i]? with
    | none =>
      have : ps[i]? = none := by
        rw [List.getElem?_eq_none_iff] at h ⊢
        rw [← lxp, rv.length]; exact h
      rw [this]; rfl
    | some v => rw [hk i v h]; rfl
  refine SrtO.sorted_pairsO (k := kv) hl.isList (by rw [← rv.length]; exact hz) (fun v hv => ?_) fun h' d out h1 h2 kp hd hn => ?_
  · obtain ⟨t, rfl, ht⟩ := hsq v hv
    obtain ⟨its2, r2, ⟨o, ho, hc, n, hd⟩, _⟩ := I.tuple ht
    obtain ⟨u1, u2, rfl, ri, rj⟩ := vals2 r2
    obtain ⟨t1, rfl⟩ := ri
    obtain ⟨t2, rfl⟩ := rj
    exact ⟨t, o, t1, t2, n, rfl, ho, hc, hd⟩
  · obtain ⟨n, hn⟩ := hn
    have mem : ∀ v ∈ out, v ∈ its := fun v hv => h2.perm.mem_iff.mp hv
    have hrf : ∀ v ∈ out, ∃ b, v = Value.ref b := fun v hv => e2 v (mem v hv)
    have hlen : out.length = its.length := h2.perm.length_eq
    refine ⟨.ref d, upd H d (.lst (out.map backV)), I.laid (t' := s.toks) kp hd ⟨?_, out, n, vals_back hrf, hn⟩, rfl, q (out.map backV) (out.map kv) d ?_ ?_ ?_ (I.hok.fresh hd)⟩
    · rw [List.length_map, hlen, ← rv.length]; exact hz
    · rw [← hmap]; exact h2.perm.map kv
    · rw [List.pairwise_map]
      exact h1
    · refine fun F hF => paired_map fun v hv => ?_
      obtain ⟨i, hi⟩ := List.getElem?_of_mem (mem v hv)
      have hx : xs[i]? = some (backV v) := by rw [e1, List.getElem?_map, hi]; rfl
      obtain ⟨p, h5, h6⟩ := paired_get hF hx
      have := hk i v hi
      rw [h5] at this; cases this
      exact h6
def dP (p : Int × Int) : D := .tup [.int p.1, .int p.2]
def xSortP (T : TE') : TE' := fun ρ R => T ρ fun d => ∃ ps : List (Int × Int), d = .lst (ps.map dP) ∧ ∀ qs : List (Int × Int), qs.Perm ps → qs.Pairwise (fun p q => SrtO.lexB q p = false) → R (.lst (qs.map dP))
section
variable {X : Cx} {B : Bs} {a : Expr} {ta : TE} {Ta : TE'} {p pos : Pos}
theorem rp_pairs {K : PySem.W.Frag} {H : Hp} : ∀ {ps : List (Int × Int)} {vs : List V}, RpL K H vs (ps.map dP) → Paired (pairT K H) vs ps
  | [], _, h => by cases h; exact .nil
  | p :: ps, _, h => by
    cases h with
    | cons h1 h2 =>
      obtain ⟨t, us, rfl, h3, h4⟩ := h1.tup'
      cases h4 with
      | cons h5 h6 =>
        cases h6 with
        | cons h7 h8 =>
          cases h8
          rw [h5.dcases, h7.dcases] at h3
          exact .cons ⟨t, rfl, h3⟩ (rp_pairs h2)
theorem pairs_rp {K : PySem.W.Frag} {H : Hp} : ∀ {ps : List (Int × Int)} {vs : List V}, Paired (pairT K H) vs ps → RpL K H vs (ps.map dP)
  | [], _, .nil => .nil
  | p :: ps, _, .cons ⟨t, e, h⟩ r => by
    subst e
    exact .cons (.tup h (.cons (.int _) (.cons (.int _) .nil))) (pairs_rp r)
theorem pu_sortP (hK : X.K = B.K := by rfl) (hg : Gl X "sorted") (hm : X.mg "sorted" = none) (ha : PuE X B a ta Ta) (he : starEach [a] X.env = (false, eval a X.env) :: starEach [] X.env := by rfl) (hpl : (backTo pos (starEach [] X.env)).any (·.1) = false := by rfl) :
    PuF X B (.Call (.Name "sorted" p) [a] [] pos) (tCB (rSortP X.K) (tCons ta tNil)) (xSortP Ta) := by
  refine ⟨pe_callB cr_sortP hg hm (by decide +kernel) (pa_cons ha.pe pa_nil he) (by decide) (by decide) he hpl, fun G H σ ρ R Q E hT k => ?_⟩
  refine ha.pu G H σ ρ _ _ E hT fun d v G1 H1 h1 s1 r1 => ?_
  obtain ⟨ps, rfl, hR⟩ := h1
  obtain ⟨b, vs, rfl, h3, h4⟩ := r1.lst'
  rw [hK]
  have up : Paired (pairT B.K H1) vs ps := Paired.mapP (rp_pairs h4) fun _ _ ⟨t, e, z⟩ => ⟨t, e, Same.seqT s1.gh z⟩
  refine ⟨b, vs, ps, rfl, SqL.of (s1.gh _ _ h3), up, fun ys qs q hperm hsort hpair hq => ?_⟩
  have s2 := (E.step s1).stpNewH (.lst ys) hq
  exact k _ _ _ _ (hR qs hperm hsort) (s1.trans s2) ⟨q, _, _, rfl, rfl, s1.free hq, s1.gh.free hq, upd_same, pairs_rp (hpair _ (rp_pairs h4))⟩
end
end PU
set_option Elab.async false
set_option linter.all false
set_option maxRecDepth 100000
set_option maxHeartbeats 4000000
/-! PU, part 11: enumerate and zip over lists and tuples. -/
namespace PU
open PySem PySem.Spec PyProof.Rows L2

/-! ### a list (false) or a tuple (true), by one word -/
def SqK (b : Bool) (K : PySem.W.Frag) (H : Hp) (a : Addr) (xs : List V) : Prop := match b with
  | true => SqT K H a xs
  | false => SqL K H a xs
def ItK (b : Bool) (h : Heap) (it a : Addr) (i : Nat) : Prop := match b with
  | true => h.IsTupleIter it a i
  | false => h.IsListIter it a i
def SeqK (b : Bool) (h : Heap) (a : Addr) (its : Array Value) : Prop := match b with
  | true => h.IsTuple a its
  | false => h.IsList a its
def itO (b : Bool) (a : Addr) : Obj := { cls := .type (if b then "tuple_iterator" else "list_iterator"), data := .fields #[.ref a, .int 0 0] }
theorem beg_K (b : Bool) (a : Addr) (its : Array Value) : Begins (.ref a) (itO b a) (fun h => SeqK b h a its) := by
  cases b with
  | true => exact begins_tuple a its
  | false => exact begins_list a its
theorem drw_K (b : Bool) {prog : Program} {w : World} {A : Around} (hh : A.handled = none) (it a : Addr) (hne : a ≠ it) (its : Array Value) : Draws prog w A it [it, a] its.size (fun i v => its[i]? = some v) (fun i h => ItK b h it a i ∧ SeqK b h a its) := by
  cases b with
  | true => exact Draws.tuple hh it a hne its
  | false => exact Draws.list hh it a hne its
theorem ItK.live {b : Bool} {h : Heap} {it a : Addr} {i : Nat} (x : ItK b h it a i) : ∃ o vs, h.get? it = some o ∧ o.data = .fields vs := by
  cases b with
  | true => obtain ⟨o, e, _, d⟩ := x; exact ⟨o, _, e, d⟩
  | false => obtain ⟨o, e, _, d⟩ := x; exact ⟨o, _, e, d⟩
theorem ItK.keep {b : Bool} {h h' : Heap} {it a : Addr} {i : Nat} (x : ItK b h it a i) (k : ∀ o, h.get? it = some o → h'.get? it = some o) : ItK b h' it a i := by
  cases b with
  | true => exact Heap.IsTupleIter.at x k
  | false => exact Heap.IsListIter.at x k
theorem ItK.first {b : Bool} {h : Heap} {it a : Addr} (e : h.get? it = some (itO b a)) : ItK b h it a 0 := by
  cases b with
  | true => exact ⟨_, e, rfl, rfl⟩
  | false => exact ⟨_, e, rfl, rfl⟩
theorem seqK_ne {b : Bool} {h : Heap} {a c : Addr} {its : Array Value} {o : Obj} {vs : Array Value} (x : SeqK b h a its) (e : h.get? c = some o) (d : o.data = .fields vs) : a ≠ c := by
  rintro rfl
  cases b with
  | true => obtain ⟨o', e', _, n, d'⟩ := x; rw [e] at e'; cases e'; rw [d] at d'; cases d'
  | false => obtain ⟨o', e', _, n, d'⟩ := x; rw [e] at e'; cases e'; rw [d] at d'; cases d'
section
variable {X : Cx} {pins : List (Addr × Obj)} {σ : L2.St} {H : Hp} {s : Shared}
theorem seqK_of {b : Bool} {a : Addr} {xs : List V} (I : Inv X pins σ H s) (h : SqK b X.K H a xs) : ∃ its : List Value, Vals xs its ∧ SeqK b s.heap a its.toArray ∧ xs.length ≤ sizeLine ∧ a < s.heap.objs.size := by
  cases b with
  | true =>
    obtain ⟨its, r, p, z⟩ := I.tuple h
    exact ⟨its, r, p, z, let ⟨_, e, _⟩ := p; Heap.lt_size e⟩
  | false =>
    obtain ⟨its, r, p, z⟩ := I.list h
    exact ⟨its, r, p.isList, z, let ⟨_, _, e, _⟩ := p; Heap.lt_size e⟩
theorem seqK_inj {b : Bool} {a : Addr} {xs ys : List V} (I : Inv X pins σ H s) (h : SqK b X.K H a xs) (h' : SqK b X.K H a ys) : xs = ys := by
  cases b with
  | true => exact I.tuple_inj h h'
  | false => exact I.list_inj h h'
end
/-! ### enumerate -/
def ItnK (b : Bool) (K : PySem.W.Frag) (a : Addr) : It :=
  ⟨fun i H => ∃ xs x, SqK b K H a xs ∧ xs[i]? = some x, fun i H v H' => ∃ T x, v = .ref T ∧ H T = none ∧ H' = upd H T (.tup [.int (i : Nat), x]) ∧ ∀ xs, SqK b K H a xs → xs[i]? = some x, fun i H => ∃ xs, SqK b K H a xs ∧ xs.length = i⟩
theorem turn_enumK (b : Bool) {P : Program} {w : World} {K : PySem.W.Frag} {elts : List Expr} {kk : Nat} {tpos : Pos} (a e it : Addr) :
    Turn P w K (.Tuple elts kk tpos) (ItnK b K a) [e, it] e (fun i h => (∃ old, IsEnum h e it ((i : Nat) : Int) old) ∧ ItK b h it a i ∧ e ≠ it ∧ e ≠ a) where
  mem := List.mem_cons_self ..
  obj := by
    rintro i h ⟨⟨old, he⟩, hi, _⟩ c hc
    obtain ⟨o, vs, eo, ed⟩ := hi.live
    rcases List.mem_cons.mp hc with rfl | hc
    · exact ⟨_, he, fun v q => nomatch q⟩
    · rw [List.mem_singleton.mp hc]
      exact ⟨o, eo, fun v q => by rw [ed] at q; cases q⟩
  keep := by
    rintro i h h' ⟨⟨old, he⟩, hi, hn⟩ k
    exact ⟨⟨old, k e (by simp) _ he⟩, hi.keep fun o q => k it (by simp) o q, hn⟩
  item := by
    rintro X rfl rfl rfl hc i pins s σ H E I hf ⟨⟨old, he⟩, hit, hn, hna⟩ ⟨xs, x, hq, hx⟩
    obtain ⟨its, rv, sq, hz, hal⟩ := seqK_of I hq
    obtain ⟨u, hu, ru⟩ := rv.get hx
    obtain ⟨o0, vs0, eo0, ed0⟩ := hit.live
    have hie : i < its.toArray.size := by
      have := (List.getElem?_eq_some_iff.mp hu).1
      simpa using this
    have hai : a ≠ it := seqK_ne sq eo0 ed0
    refine wpAny_pyNext_enum_itemC (drw_K (A := X.A.in1) b (I.ok.hd hc) it a hai its.toArray) he ⟨hit, sq⟩ hie hn (fun z => (List.mem_cons.mp z).elim hn fun z => hna (List.mem_singleton.mp z)) ?_
    intro y h1 tk hy ho hs1 hT hsz hk
    obtain ⟨hit', _⟩ := hs1
    have hy' : y = u := by
      have : its[i]? = some y := by simpa using hy
      rw [hu] at this; cases this; rfl
    subst hy'
    have hel : e < s.heap.objs.size := Heap.lt_size he
    have hil : it < s.heap.objs.size := Heap.lt_size eo0
    refine ⟨_, rfl, wpAny_letOwnedTupleGo_enum (s := { s with heap := h1, toks := tk + 1 }) ho ?_⟩
    intro h2 he2 sb
    have hT2 : h2.get? s.heap.objs.size = some { cls := .type "tuple", data := .seq #[.int i tk, y] } := (sb.2 _ (Nat.ne_of_gt hel)).trans hT
    have fresh : ObjOk X.prog X.w (upd H s.heap.objs.size (.tup [.int (i : Nat), x])) h2 s.heap.objs.size (.tup [.int (i : Nat), x]) := ⟨by show 2 ≤ sizeLine; decide, [.int i tk, y], .cons ⟨_, rfl⟩ (.cons ru .nil), _, hT2, rfl, _, rfl⟩
    have I2 := I.turnedNew (t' := tk + 1) (ch := [e, it]) (T := s.heap.objs.size) (ob := .tup [.int (i : Nat), x]) (fun c o hb q => (sb.2 c (fun z => hb (by simp [z]))).trans (hk c o (fun z => hb (by simp [z])) (fun z => hb (by simp [z])) q)) hf (Nat.le_refl _) fresh
    refine ⟨.ref s.heap.objs.size, _, I2, rfl, ⟨_, x, rfl, I.hok.fresh (Nat.le_refl _), rfl, fun ys hy => by rw [seqK_inj I hy hq]; exact hx⟩, ⟨⟨y, ?_⟩, hit'.keep fun o q => (sb.2 it (Ne.symm hn)).trans q, hn, hna⟩, fun c hc => ?_⟩
    · rw [show ((i + 1 : Nat) : Int) = (i : Int) + 1 by omega]
      exact he2
    · have hlt : c < s.heap.objs.size := by
        rcases List.mem_cons.mp hc with rfl | hc
        · exact hel
        · rw [List.mem_singleton.mp hc]; exact hil
      rw [upd_ne (Nat.ne_of_lt hlt)]
      exact (hf c hc).1
  done := by
    rintro X rfl rfl rfl hc i pins s σ H E I hf ⟨⟨old, he⟩, hit, hn, hna⟩ ⟨xs, hq, hx⟩
    obtain ⟨its, rv, sq, hz, hal⟩ := seqK_of I hq
    obtain ⟨f0, f1, f2, f3, f4, f5⟩ := hf it (by simp)
    obtain ⟨o0, vs0, eo0, ed0⟩ := hit.live
    have hai : a ≠ it := seqK_ne sq eo0 ed0
    have hl := rv.length
    have hi : its.toArray.size = i := by simp; omega
    subst hi
    exact wpAny_pyNext_enum_endD (drw_K (A := X.A.in1) b (I.ok.hd hc) it a hai its.toArray) he ⟨hit, sq⟩ fun h' eb => ⟨rfl, I.turned (t' := s.toks) (fun c o hb q => eb c o hb q) f0 f1 f3 f4 f5⟩
  self := by
    rintro A i s Q E ⟨⟨_, he⟩, _⟩ h
    exact wpAny_pyIter_enum he h
theorem meets_enum1 {v : Value} {o : Obj} {Hy : Heap → Prop} (B : Begins v o Hy) :
    Meets (Builtin.«enumerate.__new__» ⟨[.type "enumerate", v], []⟩) (fun _ R s => Hy s.heap ∧ R (.ok (.ret (.ref (s.heap.push o).objs.size))) { s with heap := (s.heap.push o).push { cls := .type "enumerate", data := .fields #[.none, .bool false, .ref s.heap.objs.size, rawInt 0, .none, .none] } }) :=
  .of_wp fun prog w A R s hyp => by
    obtain ⟨hp, gl, di, tk, os⟩ := s
    obtain ⟨hv, hr⟩ := hyp
    have hsub := sub_enumerate
    have step : ∀ {A' : Around} {E : Value → Shared → Prop} {Q : Value → Shared → Prop}, Q (.ref hp.objs.size) ⟨hp.push o, gl, di, tk, os⟩ → wpAny (model prog w) A' (pyIter v) Q E ⟨hp, gl, di, tk, os⟩ := fun q => B.iter prog w _ _ ⟨hp, gl, di, tk, os⟩ _ hv q
    wp_walk using step
    refine wpAny_stack_any fun st => wpAny_pure ?_
    split
    · rename_i c _ _ _ _ _
      cases (c == Value.type "enumerate")
      all_goals
        wp_walk using step
        exact ⟨_, rfl, hr⟩
    · wp_walk using step
      exact ⟨_, rfl, hr⟩
theorem call_enumK {prog : Program} {w : World} {A : Around} {E : Value → Shared → Prop} {s : Shared} {v : Value} {o : Obj} {Hy : Heap → Prop} {Q : Value → Shared → Prop} (B : Begins v o Hy) (h1 : Hy s.heap)
    (k : ∀ g, IsEnum g (s.heap.objs.size + 1) s.heap.objs.size 0 .none → g.get? s.heap.objs.size = some o → (∀ c ob, s.heap.get? c = some ob → g.get? c = some ob) → Q (.ref (s.heap.objs.size + 1)) { s with heap := g }) :
    wpAny (model prog w) A (call (.type "enumerate") [v]) Q E s := by
  refine callType_new F.called_enumerate (by decide) (F.typeCall_enumerate_1 _) (F.newCall_enumerate_1 _) (fun obj => F.args_object_init_2 obj _) F.entry_enumerate_new (meets_enum1 B) ⟨h1, ?_⟩
  have hz : (s.heap.push o).objs.size = s.heap.objs.size + 1 := Heap.size_push ..
  have he := Heap.get?_push_size (s.heap.push o) (o := { cls := .type "enumerate", data := .fields #[.none, .bool false, .ref s.heap.objs.size, rawInt 0, .none, .none] }) rfl
  show _ ∧ _
  rw [hz] at he ⊢
  exact ⟨⟨_, he, rfl⟩, k _ he (Heap.get?_push_of_some _ (Heap.get?_push_size _ B.free)) fun c ob q => Heap.get?_push_of_some _ (Heap.get?_push_of_some _ q)⟩
def iEnumK (K : PySem.W.Frag) (t : TA) : TI := fun σ H R => t σ H fun vs H1 => ∃ b a xs, vs = [.ref a] ∧ SqK b K H1 a xs ∧ (xs.length ≤ sizeLine → R (ItnK b K a) H1)
theorem pi_enumK {X : Cx} {e : Expr} {t : TA} {p pos tpos : Pos} {elts : List Expr} {kk : Nat} (hg : Gl X "enumerate") (hm : X.mg "enumerate" = none) (ha : PA X [e] t) (hs : starEach [e] X.env = [(false, eval e X.env)] := by rfl) :
    PI X (.Tuple elts kk tpos) (.Call (.Name "enumerate" p) [e] [] pos) (iEnumK X.K t) := by
  refine ⟨fun pins s σ H R I h => ?_⟩
  refine Call_ (ld_blt I hg hm boot_enumerate (PyProof.Rows.callWith_type1 (thn (ha.run pos pins s σ H _ I h) fun us s1 => ?_) hs rfl))
  rintro ⟨vs, H1, I1, r1, b, a, xs, rfl, hq, q⟩
  cases r1 with
  | cons r rr =>
    cases rr
    cases r
    obtain ⟨its, rv, sq, hz, hal⟩ := seqK_of I1 hq
    refine call_enumK (beg_K b a its.toArray) sq fun g he hit hk => wpAny_pyIter_enum he ?_
    have I2 : Inv X pins σ H1 { s1 with heap := g } := I1.kept (t' := s1.toks) hk
    refine ⟨s1.heap.objs.size + 1, [s1.heap.objs.size + 1, s1.heap.objs.size], _, _, H1, rfl, I2, turn_enumK b a (s1.heap.objs.size + 1) s1.heap.objs.size, ⟨⟨.none, he⟩, ItK.first hit, Nat.succ_ne_self _, Nat.ne_of_gt (Nat.lt_succ_of_lt hal)⟩, fun c hc => ?_, q hz⟩
    have hle : s1.heap.objs.size ≤ c := by
      rcases List.mem_cons.mp hc with rfl | hc
      · exact Nat.le_add_right _ _
      · rw [List.mem_singleton.mp hc]; exact Nat.le_refl _
    exact I1.fpOk hle (I1.hok.fresh hle)
def enumD (ds : List D) : List D := (List.range ds.length).zipWith (fun i d => .tup [.int (i : Nat), d]) ds
theorem enumD_len (ds : List D) : (enumD ds).length = ds.length := by simp [enumD]
theorem enumD_get {ds : List D} {i : Nat} {d : D} (h : ds[i]? = some d) : (enumD ds)[i]? = some (.tup [.int (i : Nat), d]) := by
  obtain ⟨hi, rfl⟩ := List.getElem?_eq_some_iff.mp h
  simp [enumD, hi]
theorem itr_enum {B : Bs} {w b : Bool} {G1 H1 : Hp} {a : Addr} {vs : List V} {ds : List D} (r : RpL B.K G1 vs ds) (h : ∀ G H, Same G1 G → Same G H → (w = true → Same (Hm B.dl H1) (Hm B.dl H)) → SqK b B.K H a vs) : ItR B w (ItnK b B.K a) G1 H1 (enumD ds) := fun G H e1 e2 e3 => by
  have hq := h G H e1 e2 e3
  rw [enumD_len]
  refine ⟨fun i hi => ?_, ⟨vs, hq, r.length⟩⟩
  obtain ⟨v, hv, rv⟩ := r.get (List.getElem?_eq_getElem hi)
  refine ⟨⟨vs, v, hq, hv⟩, fun x H' hy => ?_⟩
  obtain ⟨T, y, rfl, hT, rfl, hy⟩ := hy
  have := (hy vs hq).symm.trans hv
  cases this
  refine ⟨_, enumD_get (List.getElem?_eq_getElem hi), .inr ⟨T, _, hT, rfl, ?_⟩⟩
  have n : Same G (upd G T (HO.tup [.int (i : Nat), v])) := fun c o q => (upd_ne (fun z => by rw [z, e2.free hT] at q; cases q)).trans q
  exact .tup (SqT.of upd_same) (.cons (.int _) (.cons ((rv.mono e1).mono n) .nil))
section
variable {X : Cx} {B : Bs} {e : Expr} {te : TE} {Te : TE'} {pos p tpos : Pos} {elts : List Expr} {kk : Nat}
def xEnum (T : TE') : TI' := fun ρ R => T ρ fun d => isSeq d fun ds => R (enumD ds)
theorem pui_enum (hK : X.K = B.K := by rfl) (hg : Gl X "enumerate") (hm : X.mg "enumerate" = none) (h : PuE X B e te Te) (hs : starEach [e] X.env = [(false, eval e X.env)] := by rfl) (hs2 : starEach [e] X.env = (false, eval e X.env) :: starEach [] X.env := by rfl) :
    PuI X B false (.Tuple elts kk tpos) (.Call (.Name "enumerate" p) [e] [] pos) (iEnumK X.K (tCons te tNil)) (xEnum Te) := by
  refine ⟨pi_enumK hg hm (pa_cons h.pe pa_nil hs2) hs, fun G H σ ρ R Q E hT k => ?_⟩
  refine h.pu G H σ ρ _ _ E hT fun d v G1 H1 h1 s1 r1 => ?_
  obtain ⟨ds, hd, h2⟩ := isSeq_iff h1
  rcases hd with rfl | rfl
  · obtain ⟨a, vs, rfl, h3, h4⟩ := r1.lst'
    rw [hK]
    exact ⟨false, a, vs, rfl, SqL.of (s1.gh _ _ h3), fun hl => k _ _ _ _ h2 (by rw [enumD_len, ← h4.length]; exact hl) s1 (itr_enum h4 fun G' H' a1 a2 _ => SqL.of (a2 _ _ (a1 _ _ h3)))⟩
  · obtain ⟨a, vs, rfl, h3, h4⟩ := r1.tup'
    rw [hK]
    exact ⟨true, a, vs, rfl, Same.seqT s1.gh h3, fun hl => k _ _ _ _ h2 (by rw [enumD_len, ← h4.length]; exact hl) s1 (itr_enum h4 fun G' H' a1 a2 _ => Same.seqT (a1.trans a2) h3)⟩
theorem pui_enumG (hK : X.K = B.K := by rfl) (hg : Gl X "enumerate") (hm : X.mg "enumerate" = none) (h : PuG X B e te Te) (hs : starEach [e] X.env = [(false, eval e X.env)] := by rfl) (hs2 : starEach [e] X.env = (false, eval e X.env) :: starEach [] X.env := by rfl) :
    PuI X B true (.Tuple elts kk tpos) (.Call (.Name "enumerate" p) [e] [] pos) (iEnumK X.K (tCons te tNil)) (xEnum Te) := by
  refine ⟨pi_enumK hg hm (pa_cons h.pe pa_nil hs2) hs, fun G H σ ρ R Q E hT k => ?_⟩
  refine h.pu G H σ ρ _ _ E hT fun d v G1 H1 h1 s1 r1 => ?_
  obtain ⟨ds, hd, h2⟩ := isSeq_iff h1
  rcases hd with rfl | rfl
  · obtain ⟨a, vs, rfl, h3, h4⟩ := r1.lst s1.ghm
    rw [hK]
    exact ⟨false, a, vs, rfl, SqL.of (Hm_some h3), fun hl => k _ _ _ _ h2 (by rw [enumD_len, ← h4.length]; exact hl) s1 (itr_enum h4 fun G' H' a1 a2 a3 => SqL.of (Hm_some (a3 rfl _ _ h3)))⟩
  · obtain ⟨a, vs, rfl, h3, h4⟩ := r1.tup
    rw [hK]
    exact ⟨true, a, vs, rfl, Same.seqT s1.gh h3, fun hl => k _ _ _ _ h2 (by rw [enumD_len, ← h4.length]; exact hl) s1 (itr_enum h4 fun G' H' a1 a2 _ => Same.seqT (a1.trans a2) h3)⟩
end
end PU
set_option Elab.async false
set_option linter.all false
set_option maxRecDepth 100000
set_option maxHeartbeats 4000000
/-! PU, part 12: what the printed derivations name. -/
namespace PU
open PySem PySem.Spec PyProof.Rows L2

theorem offN {i : Nat} : offDl none i := fun _ h => nomatch h
theorem offS {i j : Nat} {a c : Addr} (h : j ≠ i) : offDl (some ⟨j, a, c⟩) i := fun d e => by cases e; exact h
theorem offNs {l : List Nat} : ∀ i ∈ l, offDl none i := fun _ _ => offN
theorem offSs {l : List Nat} {j : Nat} {a c : Addr} (h : j ∉ l) : ∀ i ∈ l, offDl (some ⟨j, a, c⟩) i := fun i hi => offS fun e => h (e ▸ hi)
theorem blkN {N : List Str} {sc scope : Scope} {own : List (Str × Nat)} (h1 : scope.kind = .function) (h2 : ∀ y ∈ scope.names, scope.names.lookup y.1 = some y.2) (h3 : ∀ p ∈ own, N[p.2]? = some p.1)
    (h4 : ∀ y ∈ scope.names, y.2 = .free → sc.names.lookup y.1 = some .cell ∨ sc.names.lookup y.1 = some .free) (h5 : ∀ y ∈ scope.names, y.2 = .local ∨ y.2 = .cell → y.1 ∈ own.map (·.1) ∨ y.1 ∉ N) : BlkOk N sc scope own := ⟨h1, h2, h3, h4, h5⟩
theorem blkR {N : List Str} {sc scope : Scope} {own : List (Str × Nat)} (h1 : scope.kind = .function) (h2 : (scope.names.all fun y => decide (scope.names.lookup y.1 = some y.2)) = true) (h3 : (own.all fun p => decide (N[p.2]? = some p.1)) = true)
    (h4 : (scope.names.all fun y => decide (y.2 ≠ .free) || decide (sc.names.lookup y.1 = some .cell) || decide (sc.names.lookup y.1 = some .free)) = true) (h5 : (scope.names.all fun y => (decide (y.2 ≠ .local) && decide (y.2 ≠ .cell)) || decide (y.1 ∈ own.map (·.1)) || decide (y.1 ∉ N)) = true) : BlkOk N sc scope own := by
  rw [List.all_eq_true] at h2 h3 h4 h5
  refine ⟨h1, fun y hy => of_decide_eq_true (h2 y hy), fun p hp => of_decide_eq_true (h3 p hp), fun y hy e => ?_, fun y hy e => ?_⟩
  · have := h4 y hy
    simp [e] at this
    exact this
  · have := h5 y hy
    rcases e with e | e
    · simp [e] at this ⊢; exact this
    · simp [e] at this ⊢; exact this
theorem len_cons' {i : Nat} {u : TGs'} {n : Nat} (h : ∀ ds ρ R, u ds ρ R → ds.length = n) : ∀ ds ρ R, gCons' (gN i) u ds ρ R → ds.length = n + 1 := fun ds ρ R q => by
  cases ds with
  | nil => exact q.elim
  | cons d ds => rw [List.length_cons, h ds _ R q]
def xRevT (T : TE') : TE' := fun ρ R => T ρ fun d => ∃ xs, d = .tup xs ∧ R (.tup xs.reverse)
def xRevL (T : TE') : TE' := fun ρ R => T ρ fun d => ∃ xs, d = .lst xs ∧ R (.lst xs.reverse)
def xListOf (T : TE') : TE' := fun ρ R => T ρ fun d => isSeq d fun xs => R (.lst xs)
def xRepF (T U : TE') : TE' := fun ρ R => T ρ fun x => U ρ fun y => ∃ xs k, x = .lst xs ∧ y = .int k ∧ -(2 ^ 63) ≤ k ∧ k < 2 ^ 63 ∧ xs.length * k.toNat ≤ sizeLine ∧ R (.lst (List.replicate k.toNat xs).flatten)
def xAddF (T U : TE') : TE' := fun ρ R => T ρ fun x => U ρ fun y => ∃ xs ys, x = .lst xs ∧ y = .lst ys ∧ xs.length + ys.length ≤ sizeLine ∧ R (.lst (xs ++ ys))
/-- an int constant of the module -/
def GlI (mg : Str → Option Value) (x : Str) (i : Int) : Prop := ∃ u, mg x = some u ∧ RelV (.int i) u
section
variable {X : Cx} {B : Bs} {pos p apos : Pos} {e : Expr} {t : TE} {T : TE'}
theorem pus_appendE (i : Nat) {x : Str} {a : Expr} (h : PuE X B a t T) (hi : i ∈ B.ow := by exact in_of rfl) (hN : X.N[i]? = some x := by rfl) (hv : Vis X.env.scope x := by first | exact Or.inl rfl | exact Or.inr (Or.inl rfl) | exact Or.inr (Or.inr rfl)) (hd : (x == ("__debug__" : Str)) = false := by decide) (hcd : (x == ("__classdict__" : Str)) = false := by decide)
    (hbase : attributeBase (.Name x p) "append" X.env (eval (.Name x p) X.env) = eval (.Name x p) X.env := by rfl)
    (hfew : ((backTo pos (starEach [a] X.env)).all (fun x => !x.1) && (backToKw pos (keywordEach [] X.env)).all (fun x => x.1.isSome) && decide ([a].length + ([] : List Keyword).length + (if ([] : List Keyword).isEmpty then 0 else 1) < 30)) = true := by rfl)
    (hline : (apos.endLine == pos.line) = true := by rfl) (hs : starEach [a] X.env = (false, eval a X.env) :: starEach [] X.env := by rfl) (hplain : (backTo pos (starEach [] X.env)).any (·.1) = false := by rfl)
    (hsw : swapsWith (.Call (.Attribute (.Name x p) "append" apos) [a] [] pos) none pos'.line X.env = pure false := by rfl) :
    PuS X B (.Expr (.Call (.Attribute (.Name x p) "append" apos) [a] [] pos) pos') (tDrop (tBM X.K "list" rAppend (tVar i) (tCons t tNil))) (sApp i (xUp T)) :=
  pus_append i (PuE.x h) hi hN hv hd hcd (ps := fun hp => ps_expr (pe_bm PySem.F.plainAttrs_list PySem.F.slot_list_append PySem.F.type_list_append mt_append hp (pa_cons h.pe pa_nil hs) hbase hfew hline hs hplain) hsw)
theorem pux_popL (i : Nat) {x : Str} (hi : i ∈ B.ow := by exact in_of rfl) (hN : X.N[i]? = some x := by rfl) (hv : Vis X.env.scope x := by first | exact Or.inl rfl | exact Or.inr (Or.inl rfl) | exact Or.inr (Or.inr rfl)) (hd : (x == ("__debug__" : Str)) = false := by decide) (hcd : (x == ("__classdict__" : Str)) = false := by decide)
    (hbase : attributeBase (.Name x p) "pop" X.env (eval (.Name x p) X.env) = eval (.Name x p) X.env := by rfl) (hline : (apos.endLine == pos.line) = true := by rfl) :
    PuX X B (.Call (.Attribute (.Name x p) "pop" apos) [] [] pos) (tBM0 X.K "list" rPop (tVar i)) (xPop i) :=
  pux_pop i hi hN hv hd hcd (pe := fun hp => pe_bm0 PySem.F.plainAttrs_list PySem.F.slot_list_pop PySem.F.type_list_pop mt_pop hp hbase hline)
end
abbrev call_lenX {X : Cx} := @call_len X
abbrev call_absX {X : Cx} := @call_abs X
abbrev call_intX {X : Cx} := @call_int1 X
abbrev call_tupX {X : Cx} := @call_tuple_of X
section
variable {X : Cx} {B : Bs} {pos p : Pos}
theorem pu_callD' {k : Nat} {f : Addr} {fd : FuncData} {ps : List Str} {S : Spec} {x y : Str} {q : Pos} {es : List Expr} {t : TA} {T : TA'} {dd : Dl} (hdl : B.dl = some dd) (F : FnOk X.prog X.w X.K X.mg X.base CX0 k f fd ps (spD X.K S)) (hr : Room k X.A) (hg : Gl X x) (hm : X.mg x = some (.ref f)) (hk : PySem.W.keepIn X.K (.ref f) = true)
    (hb : Binds X.K fd ps []) (hN : X.N[dd.i]? = some y) (ha : PuA X B es t T) (hv : Vis X.env.scope y := by first | exact Or.inl rfl | exact Or.inr (Or.inl rfl) | exact Or.inr (Or.inr rfl)) (hK : X.K = B.K := by rfl) (hdb : (x == ("__debug__" : Str)) = false := by decide) (hdy : (y == ("__debug__" : Str)) = false := by decide) (hcy : (y == ("__classdict__" : Str)) = false := by decide)
    (he : starEach (.Name y q :: es) X.env = (false, eval (.Name y q) X.env) :: starEach es X.env := by rfl) (hpl : (backTo pos (starEach es X.env)).any (·.1) = false := by rfl) :
    PuE X B (.Call (.Name x p) (.Name y q :: es) [] pos) (tCall (spD X.K S) [] E0 (tCons (tVar dd.i) t)) (xCall S T) := pu_callD hdl F hr hg hm hk hb hN hv ha hK hdb hdy hcy he hpl
end

/-! ### the rules again, over B.K (a block's context must not stand in what is read) -/
section
variable {X : Cx} {B : Bs} {e a b c : Expr} {es : List Expr} {t ta tb tc : TE} {T Ta Tb Tc : TE'} {pos p p2 q : Pos}
theorem pu_addO (hK : X.K = B.K) (ha : PuG X B a ta Ta) (hb : PuG X B b tb Tb) : PuE X B (.BinOp a .Add b pos) (tOp (rAddX B.K) ta tb) (xOp dAdd Ta Tb) := by rw [← hK]; exact pu_op op_addX (ops_add hK) ha hb
theorem pu_mulO (hK : X.K = B.K) (ha : PuG X B a ta Ta) (hb : PuG X B b tb Tb) : PuE X B (.BinOp a .Mult b pos) (tOp (rMulX B.K) ta tb) (xOp dMul Ta Tb) := by rw [← hK]; exact pu_op op_mulA (ops_mul hK) ha hb
abbrev rRepX (K : PySem.W.Frag) : R2 := fun x y H Q => rRepS K x y H Q ∨ rRepT K x y H Q
theorem pu_repO (hK : X.K = B.K) (ha : PuG X B a ta Ta) (hb : PuG X B b tb Tb) : PuE X B (.BinOp a .Mult b pos) (tOp (rRepX B.K) ta tb) (xOp dRep Ta Tb) := by rw [← hK]; exact pu_op op_repX (ops_rep hK) ha hb
theorem pu_eqO (hK : X.K = B.K) (hu : X.A.units + 64 < cLine) (ha : PuG X B a ta Ta) (hb : PuG X B b tb Tb) : PuE X B (.Compare a [.Eq] [b] pos) (tOp (rEqD B.K) ta tb) (xOp dEq Ta Tb) := by rw [← hK]; exact pu_cmp (op_eqD hu) (ops_eq hK) ha hb (nomark _)
theorem pu_neO (hK : X.K = B.K) (hu : X.A.units + 64 < cLine) (ha : PuG X B a ta Ta) (hb : PuG X B b tb Tb) : PuE X B (.Compare a [.NotEq] [b] pos) (tOp (rNeD B.K) ta tb) (xOp dNe Ta Tb) := by rw [← hK]; exact pu_cmp (op_neD hu) (ops_ne hK) ha hb (nomark _)
theorem put_eqO (hK : X.K = B.K) (hu : X.A.units + 64 < cLine) (ha : PuG X B a ta Ta) (hb : PuG X B b tb Tb) : PuT X B (.Compare a [.Eq] [b] pos) (tTest (tOp (rEqD B.K) ta tb)) (xB (xOp dEq Ta Tb)) := by rw [← hK]; exact put_cmp (op_eqD hu) (ops_eq hK) ha hb (nomark _)
theorem put_neO (hK : X.K = B.K) (hu : X.A.units + 64 < cLine) (ha : PuG X B a ta Ta) (hb : PuG X B b tb Tb) : PuT X B (.Compare a [.NotEq] [b] pos) (tTest (tOp (rNeD B.K) ta tb)) (xB (xOp dNe Ta Tb)) := by rw [← hK]; exact put_cmp (op_neD hu) (ops_ne hK) ha hb (nomark _)
theorem pu_inO (hK : X.K = B.K) (ha : PuG X B a ta Ta) (hb : PuG X B b tb Tb) (hm : behindInMarks .In b = false) : PuE X B (.Compare a [.In] [b] pos) (tOp (rIn B.K false) ta tb) (xOp dIn Ta Tb) := by rw [← hK]; exact pu_cmp op_in_seq (ops_in hK) ha hb hm
theorem pu_ninO (hK : X.K = B.K) (ha : PuG X B a ta Ta) (hb : PuG X B b tb Tb) (hm : behindInMarks .NotIn b = false) : PuE X B (.Compare a [.NotIn] [b] pos) (tOp (rIn B.K true) ta tb) (xOp dNotIn Ta Tb) := by rw [← hK]; exact pu_cmp op_notIn_seq (ops_notIn hK) ha hb hm
theorem put_inO (hK : X.K = B.K) (ha : PuG X B a ta Ta) (hb : PuG X B b tb Tb) (hm : behindInMarks .In b = false) : PuT X B (.Compare a [.In] [b] pos) (tTest (tOp (rIn B.K false) ta tb)) (xB (xOp dIn Ta Tb)) := by rw [← hK]; exact put_cmp op_in_seq (ops_in hK) ha hb hm
theorem put_ninO (hK : X.K = B.K) (ha : PuG X B a ta Ta) (hb : PuG X B b tb Tb) (hm : behindInMarks .NotIn b = false) : PuT X B (.Compare a [.NotIn] [b] pos) (tTest (tOp (rIn B.K true) ta tb)) (xB (xOp dNotIn Ta Tb)) := by rw [← hK]; exact put_cmp op_notIn_seq (ops_notIn hK) ha hb hm
theorem pu_ixO (hK : X.K = B.K) (ha : PuG X B a ta Ta) (hb : PuG X B b tb Tb) (hs : PlainIx b := by exact fun _ _ => rfl) : PuE X B (.Subscript a b pos) (tOp (rIx B.K) ta tb) (xOp dIx Ta Tb) := by rw [← hK]; exact pu_ix hK ha hb hs
theorem pu_sliceO {lo hi : Option Expr} {tl th : TO} {Tl Th : TO'} (hK : X.K = B.K) (ha : PuG X B a ta Ta) (hl : PuO X B lo tl Tl) (hh : PuO X B hi th Th) : PuE X B (.Subscript a (.Slice lo hi none p2) pos) (tSl (rSlX B.K) ta tl th) (xSl Ta Tl Th) := by rw [← hK]; exact pu_slice hK ha hl hh
theorem pu_revTO {k : Nat} {p1 p3 : Pos} (hK : X.K = B.K) (ha : PuG X B a ta Ta) : PuE X B (.Subscript a (.Slice none none (some (.UnaryOp .USub (.Constant (.int 1) k p1) p2)) p3) pos) (tRevT B.K ta) (xRevT Ta) := by rw [← hK]; exact pu_revT hK ha
theorem pu_revLO {k : Nat} {p1 p3 : Pos} (hK : X.K = B.K) (ha : PuG X B a ta Ta) : PuF X B (.Subscript a (.Slice none none (some (.UnaryOp .USub (.Constant (.int 1) k p1) p2)) p3) pos) (tRevL B.K ta) (xRevL Ta) := by rw [← hK]; exact pu_revF hK ha
theorem pu_lenO (hK : X.K = B.K) (hg : Gl X "len") (hm : X.mg "len" = none) (ha : PuG X B a ta Ta) (he : starEach [a] X.env = (false, eval a X.env) :: starEach [] X.env := by rfl) (hpl : (backTo pos (starEach [] X.env)).any (·.1) = false := by rfl) :
    PuE X B (.Call (.Name "len" p) [a] [] pos) (tCB (rLen B.K) (tCons ta tNil)) (xOp1 dLen Ta) := by rw [← hK]; exact pu_callB call_len (cs_len hK) hg hm boot_len ha (he := he) (hpl := hpl)
theorem pu_absO (hg : Gl X "abs") (hm : X.mg "abs" = none) (ha : PuG X B a ta Ta) (he : starEach [a] X.env = (false, eval a X.env) :: starEach [] X.env := by rfl) (hpl : (backTo pos (starEach [] X.env)).any (·.1) = false := by rfl) :
    PuE X B (.Call (.Name "abs" p) [a] [] pos) (tCB rAbs (tCons ta tNil)) (xOp1 dAbs Ta) := pu_callB call_abs cs_abs hg hm boot_abs ha (he := he) (hpl := hpl)
theorem pu_sumO (hc : X.calm = true) (hK : X.K = B.K) (hg : Gl X "sum") (hm : X.mg "sum" = none) (ha : PuG X B a ta Ta) (he : starEach [a] X.env = (false, eval a X.env) :: starEach [] X.env := by rfl) (hpl : (backTo pos (starEach [] X.env)).any (·.1) = false := by rfl) :
    PuE X B (.Call (.Name "sum" p) [a] [] pos) (tCB (rSum B.K) (tCons ta tNil)) (xOp1 dSum Ta) := by rw [← hK]; exact pu_callB (cr_sum hc) (cs_sum hK) hg hm boot_sum ha (he := he) (hpl := hpl)
theorem pu_intO (hg : Gl X "int") (hm : X.mg "int" = none) (ha : PuG X B a ta Ta) (he : starEach [a] X.env = (false, eval a X.env) :: starEach [] X.env := by rfl) (hpl : (backTo pos (starEach [] X.env)).any (·.1) = false := by rfl) :
    PuE X B (.Call (.Name "int" p) [a] [] pos) (tCB rIntOf (tCons ta tNil)) (xOp1 dIntOf Ta) := pu_callTy call_int1 cs_int hg hm boot_int ha (he := he) (hpl := hpl)
theorem pu_tupO (hK : X.K = B.K) (hg : Gl X "tuple") (hm : X.mg "tuple" = none) (ha : PuG X B a ta Ta) (he : starEach [a] X.env = (false, eval a X.env) :: starEach [] X.env := by rfl) (hpl : (backTo pos (starEach [] X.env)).any (·.1) = false := by rfl) :
    PuE X B (.Call (.Name "tuple" p) [a] [] pos) (tCB (rTupOf B.K) (tCons ta tNil)) (xOp1 dTupOf Ta) := by rw [← hK]; exact pu_callTy call_tuple_of (cs_tup hK) hg hm boot_tuple ha (he := he) (hpl := hpl)
theorem pu_listO (hK : X.K = B.K) (hg : Gl X "list") (hm : X.mg "list" = none) (ha : PuG X B a ta Ta) (he : starEach [a] X.env = (false, eval a X.env) :: starEach [] X.env := by rfl) (hpl : (backTo pos (starEach [] X.env)).any (·.1) = false := by rfl) :
    PuF X B (.Call (.Name "list" p) [a] [] pos) (tCB (rLstOf B.K) (tCons ta tNil)) (xListOf Ta) := by rw [← hK]; exact pu_listOf hK hg hm boot_list ha (he := he) (hpl := hpl)
theorem pu_isiO {n : Str} {m : String} (hK : X.K = B.K) (hg : Gl X "isinstance") (hm : X.mg "isinstance" = none) (hg2 : Gl X n) (hm2 : X.mg n = none) (hv2 : bootBuiltins n = some (.type m)) (hk : m ∈ tyKnown) (ha : PuG X B a ta Ta)
    (h1 : n ≠ "__name__" := by decide) (h2 : (n == ("__debug__" : Str)) = false := by decide) (he : starEach [a, .Name n q] X.env = (false, eval a X.env) :: starEach [.Name n q] X.env := by rfl) (he2 : starEach [.Name n q] X.env = (false, eval (.Name n q) X.env) :: starEach [] X.env := by rfl) (hpl : (backTo pos (starEach [.Name n q] X.env)).any (·.1) = false := by rfl) :
    PuE X B (.Call (.Name "isinstance" p) [a, .Name n q] [] pos) (tCB (rIsi B.K) (tCons ta (tCons (tC (.ty m)) tNil))) (xIsi m Ta) := by rw [← hK]; exact pu_isi hK hg hm hg2 hm2 hv2 hk ha h1 h2 he he2 hpl
theorem pu_isiTO {ms : List String} {vs : List V} {us : List Value} {t : TA} {x1 : Nat} (hK : X.K = B.K) (hg : Gl X "isinstance") (hm : X.mg "isinstance" = none) (ht : TyNs X es ms vs us t) (hl : vs.length ≤ sizeLine) (ha : PuG X B a ta Ta)
    (he : starEach [a, .Tuple es x1 q] X.env = (false, eval a X.env) :: starEach [.Tuple es x1 q] X.env := by rfl) (he2 : starEach [.Tuple es x1 q] X.env = (false, eval (.Tuple es x1 q) X.env) :: starEach [] X.env := by rfl) (hpl : (backTo pos (starEach [.Tuple es x1 q] X.env)).any (·.1) = false := by rfl) :
    PuE X B (.Call (.Name "isinstance" p) [a, .Tuple es x1 q] [] pos) (tCB (rIsiT B.K) (tCons ta (tCons (tTup t) tNil))) (xIsiT ms Ta) := by rw [← hK]; exact pu_isiT hK hg hm ht hl ha he he2 hpl
theorem pui_seqO {tg : Expr} (hK : X.K = B.K) (h : PuE X B e t T) : PuI X B false tg e (iSq B.K t) (xSeq T) := by rw [← hK]; exact pui_seq hK h
theorem pui_seqGO {tg : Expr} (hK : X.K = B.K) (h : PuG X B e t T) : PuI X B true tg e (iSq B.K t) (xSeq T) := by rw [← hK]; exact pui_seqG hK h
theorem pui_enumO {elts : List Expr} {kk : Nat} {tpos : Pos} (hK : X.K = B.K) (hg : Gl X "enumerate") (hm : X.mg "enumerate" = none) (h : PuE X B e t T) (hs : starEach [e] X.env = [(false, eval e X.env)] := by rfl) (hs2 : starEach [e] X.env = (false, eval e X.env) :: starEach [] X.env := by rfl) :
    PuI X B false (.Tuple elts kk tpos) (.Call (.Name "enumerate" p) [e] [] pos) (iEnumK B.K (tCons t tNil)) (xEnum T) := by rw [← hK]; exact pui_enum hK hg hm h hs hs2
theorem pui_enumGO {elts : List Expr} {kk : Nat} {tpos : Pos} (hK : X.K = B.K) (hg : Gl X "enumerate") (hm : X.mg "enumerate" = none) (h : PuG X B e t T) (hs : starEach [e] X.env = [(false, eval e X.env)] := by rfl) (hs2 : starEach [e] X.env = (false, eval e X.env) :: starEach [] X.env := by rfl) :
    PuI X B true (.Tuple elts kk tpos) (.Call (.Name "enumerate" p) [e] [] pos) (iEnumK B.K (tCons t tNil)) (xEnum T) := by rw [← hK]; exact pui_enumG hK hg hm h hs hs2
theorem pug_tupO {kk : Nat} {t : TGs} {t' : TGs'} {n : Nat} {sl : List Nat} (hK : X.K = B.K) (hc : X.calm = true) (h : PuGs X B es t t' sl) (hl : ∀ ds ρ R, t' ds ρ R → ds.length = n) (hn : (assignEach es X.env).length = n := by rfl) (hst : (assignEach es X.env).findIdx? (·.1) = none := by rfl) :
    PuGt X B (.Tuple es kk pos) (gTup B.K n t) (gT t') sl := by rw [← hK]; exact pug_tup hK hc h hl fun h => pg_tup hc h hn hst
theorem pu_callO {k : Nat} {f : Addr} {fd : FuncData} {ps : List Str} {S : Spec} {x : Str} {t : TA} {T : TA'} (hK : X.K = B.K) (F : FnOk X.prog X.w X.K X.mg X.base CX0 k f fd ps (spW X.K S)) (hr : Room k X.A) (hg : Gl X x) (hm : X.mg x = some (.ref f)) (hk : PySem.W.keepIn X.K (.ref f) = true)
    (hb : Binds X.K fd ps []) (ha : PuA X B (e :: es) t T) (hdb : (x == ("__debug__" : Str)) = false := by decide) (he : starEach (e :: es) X.env = (false, eval e X.env) :: starEach es X.env := by rfl) (hpl : (backTo pos (starEach es X.env)).any (·.1) = false := by rfl) :
    PuE X B (.Call (.Name x p) (e :: es) [] pos) (tCall (spW B.K S) [] E0 t) (xCall S T) := by rw [← hK]; exact pu_call F hr hg hm hk hb ha hK hdb he hpl
theorem pu_call0O {k : Nat} {f : Addr} {fd : FuncData} {S : Spec} {x : Str} (hK : X.K = B.K) (F : FnOk X.prog X.w X.K X.mg X.base CX0 k f fd [] (spW X.K S)) (hr : Room k X.A) (hg : Gl X x) (hm : X.mg x = some (.ref f)) (hk : PySem.W.keepIn X.K (.ref f) = true)
    (hb : Binds X.K fd [] []) (hdb : (x == ("__debug__" : Str)) = false := by decide) :
    PuE X B (.Call (.Name x p) [] [] pos) (tCall (spW B.K S) [] E0 tNil) (xCall S xNil) := by rw [← hK]; exact pu_call0 F hr hg hm hk hb hK hdb
theorem pu_callDO {k : Nat} {f : Addr} {fd : FuncData} {ps : List Str} {S : Spec} {x y : Str} {t : TA} {T : TA'} {dd : Dl} (hdl : B.dl = some dd) (hK : X.K = B.K) (F : FnOk X.prog X.w X.K X.mg X.base CX0 k f fd ps (spD X.K S)) (hr : Room k X.A) (hg : Gl X x) (hm : X.mg x = some (.ref f)) (hk : PySem.W.keepIn X.K (.ref f) = true)
    (hb : Binds X.K fd ps []) (hN : X.N[dd.i]? = some y) (ha : PuA X B es t T) (hv : Vis X.env.scope y := by first | exact Or.inl rfl | exact Or.inr (Or.inl rfl) | exact Or.inr (Or.inr rfl)) (hdb : (x == ("__debug__" : Str)) = false := by decide) (hdy : (y == ("__debug__" : Str)) = false := by decide) (hcy : (y == ("__classdict__" : Str)) = false := by decide)
    (he : starEach (.Name y q :: es) X.env = (false, eval (.Name y q) X.env) :: starEach es X.env := by rfl) (hpl : (backTo pos (starEach es X.env)).any (·.1) = false := by rfl) :
    PuE X B (.Call (.Name x p) (.Name y q :: es) [] pos) (tCall (spD B.K S) [] E0 (tCons (tVar dd.i) t)) (xCall S T) := by rw [← hK]; exact pu_callD hdl F hr hg hm hk hb hN hv ha hK hdb hdy hcy he hpl
theorem pu_sortO (hK : X.K = B.K) (hg : Gl X "sorted") (hm : X.mg "sorted" = none) (ha : PuE X B a ta Ta) (he : starEach [a] X.env = (false, eval a X.env) :: starEach [] X.env := by rfl) (hpl : (backTo pos (starEach [] X.env)).any (·.1) = false := by rfl) :
    PuF X B (.Call (.Name "sorted" p) [a] [] pos) (tCB (rSortP B.K) (tCons ta tNil)) (xSortP Ta) := by rw [← hK]; exact pu_sortP hK hg hm ha he hpl
end
end PU
set_option Elab.async false
set_option linter.all false
set_option maxRecDepth 100000
set_option maxHeartbeats 4000000
/-! readings, by simp -/
namespace PU
open PySem PySem.Spec PyProof.Rows L2

@[simp] theorem xVar_ap (i : Nat) (ρ : PEnv) (R : D → Prop) : xVar i ρ R = getW (ρ[i]?) R := rfl
@[simp] theorem getW_some (d : D) (R : D → Prop) : getW (some (some d)) R = R d := rfl
@[simp] theorem xC_ap (d : D) (ρ : PEnv) (R : D → Prop) : xC d ρ R = R d := rfl
@[simp] theorem xNil_ap (ρ : PEnv) (R : List D → Prop) : xNil ρ R = R [] := rfl
@[simp] theorem xCons_ap (T : TE') (U : TA') (ρ : PEnv) (R : List D → Prop) : xCons T U ρ R = T ρ fun d => U ρ fun ds => R (d :: ds) := rfl
@[simp] theorem xTup_ap (T : TA') (ρ : PEnv) (R : D → Prop) : xTup T ρ R = T ρ fun ds => ds.length ≤ 1000 ∧ R (.tup ds) := rfl
@[simp] theorem xLst_ap (T : TA') (ρ : PEnv) (R : D → Prop) : xLst T ρ R = T ρ fun ds => ds.length ≤ 1000 ∧ R (.lst ds) := rfl
@[simp] theorem ok_some (d : D) (R : D → Prop) : ok (some d) R = R d := rfl
@[simp] theorem ok_none (R : D → Prop) : ok none R = False := rfl
@[simp] theorem xOp_ap (f : D → D → Option D) (T U : TE') (ρ : PEnv) (R : D → Prop) : xOp f T U ρ R = T ρ fun x => U ρ fun y => ok (f x y) R := rfl
@[simp] theorem xOp1_ap (f : D → Option D) (T : TE') (ρ : PEnv) (R : D → Prop) : xOp1 f T ρ R = T ρ fun x => ok (f x) R := rfl
@[simp] theorem isB_bl (b : Bool) (R : Bool → Prop) : isB (.bl b) R = R b := rfl
@[simp] theorem xB_ap (T : TE') (ρ : PEnv) (R : Bool → Prop) : xB T ρ R = T ρ fun d => isB d R := rfl
@[simp] theorem xNot_ap (T : TT') (ρ : PEnv) (R : Bool → Prop) : xNot T ρ R = T ρ fun b => R (!b) := rfl
@[simp] theorem xAnd_ap (T U : TT') (ρ : PEnv) (R : Bool → Prop) : xAnd T U ρ R = T ρ fun b => if b = true then U ρ R else R false := rfl
@[simp] theorem xOr_ap (T U : TT') (ρ : PEnv) (R : Bool → Prop) : xOr T U ρ R = T ρ fun b => if b = true then R true else U ρ R := rfl
@[simp] theorem xAndV_ap (T U : TE') (ρ : PEnv) (R : D → Prop) : xAndV T U ρ R = T ρ fun d => isB d fun b => if b = true then U ρ R else R (.bl false) := rfl
@[simp] theorem xOrV_ap (T U : TE') (ρ : PEnv) (R : D → Prop) : xOrV T U ρ R = T ρ fun d => isB d fun b => if b = true then R (.bl true) else U ρ R := rfl
@[simp] theorem xNotV_ap (T : TE') (ρ : PEnv) (R : D → Prop) : xNotV T ρ R = T ρ fun d => isB d fun b => R (.bl (!b)) := rfl
@[simp] theorem xIf_ap (c : TT') (T U : TE') (ρ : PEnv) (R : D → Prop) : xIf c T U ρ R = c ρ fun b => if b = true then T ρ R else U ρ R := rfl
@[simp] theorem xChain_ap (f g : D → D → Option D) (Ta Tb Tc : TE') (ρ : PEnv) (R : D → Prop) : xChain f g Ta Tb Tc ρ R = Ta ρ fun x => Tb ρ fun y => ok (f x y) fun z => isB z fun k => if k = true then Tc ρ fun w => ok (g y w) R else R (.bl false) := rfl
@[simp] theorem xIsi_ap (n : String) (T : TE') (ρ : PEnv) (R : D → Prop) : xIsi n T ρ R = T ρ fun d => d.isIns = false ∧ R (.bl (tyIs d.tyN n)) := rfl
@[simp] theorem xIsiT_ap (ms : List String) (T : TE') (ρ : PEnv) (R : D → Prop) : xIsiT ms T ρ R = T ρ fun d => d.isIns = false ∧ R (.bl (ms.any (tyIs d.tyN))) := rfl
@[simp] theorem xCall_ap (S : Spec) (T : TA') (ρ : PEnv) (R : D → Prop) : xCall S T ρ R = T ρ fun ds => S ds R := rfl
@[simp] theorem xCallK_ap (p : List Nat) (S : Spec) (T : TA') (ρ : PEnv) (R : D → Prop) : xCallK p S T ρ R = T ρ fun ds => S (permL p ds) R := rfl
@[simp] theorem xNo_ap (ρ : PEnv) (R : Option Int → Prop) : xNo ρ R = R none := rfl
@[simp] theorem xPart_ap (T : TE') (ρ : PEnv) (R : Option Int → Prop) : xPart T ρ R = T ρ fun d => isI d fun i => R (some i) := rfl
@[simp] theorem isI_int (i : Int) (R : Int → Prop) : isI (.int i) R = R i := rfl
@[simp] theorem xSl_ap (T : TE') (Tl Tu : TO') (ρ : PEnv) (R : D → Prop) : xSl T Tl Tu ρ R = T ρ fun d => Tl ρ fun l => Tu ρ fun u => ok (dCut d l u) R := rfl
@[simp] theorem xSeq_ap (T : TE') (ρ : PEnv) (R : List D → Prop) : xSeq T ρ R = T ρ fun d => isSeq d R := rfl
@[simp] theorem isSeq_l (xs : List D) (R : List D → Prop) : isSeq (.lst xs) R = R xs := rfl
@[simp] theorem isSeq_t (xs : List D) (R : List D → Prop) : isSeq (.tup xs) R = R xs := rfl
@[simp] theorem xEnum_ap (T : TE') (ρ : PEnv) (R : List D → Prop) : xEnum T ρ R = T ρ fun d => isSeq d fun ds => R (enumD ds) := rfl
@[simp] theorem xRange1_ap (T : TE') (ρ : PEnv) (R : List D → Prop) : xRange1 T ρ R = T ρ fun d => isI d fun j => (-1000000 ≤ j ∧ j ≤ 1000000) ∧ R (rngD 0 j.toNat) := rfl
@[simp] theorem xRange2_ap (T U : TE') (ρ : PEnv) (R : List D → Prop) : xRange2 T U ρ R = T ρ fun d => U ρ fun f => isI d fun i => isI f fun j => (-1000000 ≤ i ∧ i ≤ 1000000 ∧ -1000000 ≤ j ∧ j ≤ 1000000) ∧ R (rngD i (j - i).toNat) := rfl
@[simp] theorem xYes_ap (ρ : PEnv) (R : Bool → Prop) : xYes ρ R = R true := rfl
@[simp] theorem xLc_ap (Ti : TI') (g : TG') (tt : TT') (te : TE') (vs : List Nat) (ρ : PEnv) (R : D → Prop) : xLc Ti g tt te vs ρ R = Ti ρ fun ds => lcLoop g tt te (wipe' ρ vs) ds [] fun acc => R (.lst acc) := rfl
@[simp] theorem xRevT_ap (T : TE') (ρ : PEnv) (R : D → Prop) : xRevT T ρ R = T ρ fun d => ∃ xs, d = .tup xs ∧ R (.tup xs.reverse) := rfl
@[simp] theorem xListOf_ap (T : TE') (ρ : PEnv) (R : D → Prop) : xListOf T ρ R = T ρ fun d => isSeq d fun xs => R (.lst xs) := rfl
@[simp] theorem gN_ap (i : Nat) (d : D) (ρ : PEnv) (R : PEnv → Prop) : gN i d ρ R = R (ρ.set i (some d)) := rfl
@[simp] theorem gNil_ap (ρ : PEnv) (R : PEnv → Prop) : gNil' [] ρ R = R ρ := rfl
@[simp] theorem gCons_ap (g : TG') (u : TGs') (d : D) (ds : List D) (ρ : PEnv) (R : PEnv → Prop) : gCons' g u (d :: ds) ρ R = g d ρ fun ρ1 => u ds ρ1 R := rfl
@[simp] theorem gT_ap (u : TGs') (ds : List D) (ρ : PEnv) (R : PEnv → Prop) : gT u (.tup ds) ρ R = u ds ρ R := rfl
@[simp] theorem sNext_ap (D : Ends') (ρ : PEnv) : sNext D ρ = D.nx ρ := rfl
@[simp] theorem sSeq_ap (t u : TS') (D : Ends') (ρ : PEnv) : sSeq t u D ρ = t { D with nx := fun ρ1 => u D ρ1 } ρ := rfl
@[simp] theorem sRet_ap (T : TE') (D : Ends') (ρ : PEnv) : sRet T D ρ = T ρ D.rt := rfl
@[simp] theorem sIf_ap (c : TT') (T U : TS') (D : Ends') (ρ : PEnv) : sIf c T U D ρ = c ρ fun b => if b = true then T D ρ else U D ρ := rfl
@[simp] theorem sAsg_ap (T : TE') (g : TG') (D : Ends') (ρ : PEnv) : sAsg T g D ρ = T ρ fun d => g d ρ D.nx := rfl
@[simp] theorem sPar_ap (i j : Nat) (T U : TE') (D : Ends') (ρ : PEnv) : sPar i j T U D ρ = T ρ fun d => U ρ fun f => D.nx ((ρ.set i (some d)).set j (some f)) := rfl
@[simp] theorem sFor_ap (Ti : TI') (g : TG') (tb : TS') (D : Ends') (ρ : PEnv) : sFor Ti g tb D ρ = Ti ρ fun ds => forL g tb ds D ρ := rfl
@[simp] theorem dAdd_ii (i j : Int) : dAdd (.int i) (.int j) = some (.int (i + j)) := rfl
@[simp] theorem dSub_ii (i j : Int) : dSub (.int i) (.int j) = some (.int (i - j)) := rfl
@[simp] theorem dLt_ii (i j : Int) : dLt (.int i) (.int j) = some (.bl (decide (i < j))) := rfl
@[simp] theorem dLe_ii (i j : Int) : dLe (.int i) (.int j) = some (.bl (decide (i ≤ j))) := rfl
@[simp] theorem dGt_ii (i j : Int) : dGt (.int i) (.int j) = some (.bl (decide (j < i))) := rfl
@[simp] theorem dGe_ii (i j : Int) : dGe (.int i) (.int j) = some (.bl (decide (j ≤ i))) := rfl
@[simp] theorem dNeg_i (i : Int) : dNeg (.int i) = some (.int (-i)) := rfl
@[simp] theorem dAbs_i (i : Int) : dAbs (.int i) = some (.int (if i < 0 then -i else i)) := rfl
@[simp] theorem dIntOf_i (i : Int) : dIntOf (.int i) = some (.int i) := rfl
@[simp] theorem dLen_l (xs : List D) : dLen (.lst xs) = some (.int xs.length) := rfl
@[simp] theorem dLen_t (xs : List D) : dLen (.tup xs) = some (.int xs.length) := rfl
@[simp] theorem dTupOf_l (xs : List D) : dTupOf (.lst xs) = some (.tup xs) := rfl
@[simp] theorem dTupOf_t (xs : List D) : dTupOf (.tup xs) = some (.tup xs) := rfl
@[simp] theorem dIx_t (xs : List D) (i : Int) : dIx (.tup xs) (.int i) = atI xs i := rfl
@[simp] theorem dIx_l (xs : List D) (i : Int) : dIx (.lst xs) (.int i) = atI xs i := rfl
@[simp] theorem dCut_t (xs : List D) (l h : Option Int) : dCut (.tup xs) l h = some (.tup (cutD xs l h)) := rfl
@[simp] theorem good_int (i : Int) : (D.int i).good = true := rfl
@[simp] theorem good_bl (i : Bool) : (D.bl i).good = true := rfl
@[simp] theorem good_non : D.non.good = true := rfl
@[simp] theorem good_tup (xs : List D) : (D.tup xs).good = D.goodL xs := rfl
@[simp] theorem good_lst (xs : List D) : (D.lst xs).good = D.goodL xs := rfl
@[simp] theorem goodL_nil : D.goodL [] = true := rfl
@[simp] theorem goodL_cons (x : D) (xs : List D) : D.goodL (x :: xs) = (x.good && D.goodL xs) := rfl
@[simp] theorem good_ins (C : Addr) (ns : List Str) (xs : List D) : (D.ins C ns xs).good = false := rfl
@[simp] theorem dep_int (i : Int) : (D.int i).dep = 0 := rfl
@[simp] theorem dep_bl (i : Bool) : (D.bl i).dep = 0 := rfl
@[simp] theorem dep_non : D.non.dep = 0 := rfl
@[simp] theorem dep_str (x : Str) : (D.str x).dep = 0 := rfl
@[simp] theorem dep_tup (xs : List D) : (D.tup xs).dep = D.depL xs + 1 := rfl
@[simp] theorem dep_lst (xs : List D) : (D.lst xs).dep = D.depL xs + 1 := rfl
@[simp] theorem depL_nil : D.depL [] = 0 := rfl
@[simp] theorem depL_cons (x : D) (xs : List D) : D.depL (x :: xs) = max x.dep (D.depL xs) := rfl
@[simp] theorem deq_ii (i j : Int) : deq (.int i) (.int j) = decide (i = j) := by
  simp [deq, D.py, PyData.eqv]
  rfl
@[simp] theorem dEq_ii (i j : Int) : dEq (.int i) (.int j) = some (.bl (decide (i = j))) := by simp [dEq]
@[simp] theorem dNe_ii (i j : Int) : dNe (.int i) (.int j) = some (.bl (!decide (i = j))) := by simp [dNe]
theorem good_mem : ∀ {xs : List D} {x : D}, D.goodL xs = true → x ∈ xs → x.good = true
  | y :: ys, x, h, m => by
    simp at h
    rcases List.mem_cons.mp m with rfl | m
    · exact h.1
    · exact good_mem h.2 m
theorem dep_mem : ∀ {xs : List D} {x : D}, x ∈ xs → x.dep ≤ D.depL xs
  | y :: ys, x, m => by
    rcases List.mem_cons.mp m with rfl | m
    · simp; omega
    · have := dep_mem m; simp; omega
theorem goodL_of : ∀ {xs : List D}, (∀ x ∈ xs, x.good = true) → D.goodL xs = true
  | [], _ => rfl
  | y :: ys, h => by
    have h2 := goodL_of (xs := ys) fun x m => h x (List.mem_cons_of_mem _ m)
    simp [h y (by simp), h2]
theorem depL_of {n : Nat} : ∀ {xs : List D}, (∀ x ∈ xs, x.dep ≤ n) → D.depL xs ≤ n
  | [], _ => Nat.zero_le _
  | y :: ys, h => by
    have h1 := h y (by simp)
    have h2 := depL_of (n := n) (xs := ys) fun x m => h x (List.mem_cons_of_mem _ m)
    simp; omega
theorem good_isIns {d : D} (h : d.good = true) : d.isIns = false := by cases d <;> first | rfl | cases h
/-! comparisons with an empty list or tuple -/
theorem deq_nil_l (xs : List D) : deq (.lst xs) (.lst []) = xs.isEmpty := by
  cases xs <;> simp [deq, D.py, D.pyL, PyData.eqv, PyData.eqvAll]
theorem deq_nil_t (xs : List D) : deq (.tup xs) (.tup []) = xs.isEmpty := by
  cases xs <;> simp [deq, D.py, D.pyL, PyData.eqv, PyData.eqvAll]
theorem dEq_nil_l {xs : List D} (h : D.goodL xs = true) (h2 : D.depL xs ≤ 63) : dEq (.lst xs) (.lst []) = some (.bl xs.isEmpty) := by
  simp [dEq, h, deq_nil_l]; omega
theorem dNe_nil_l {xs : List D} (h : D.goodL xs = true) (h2 : D.depL xs ≤ 63) : dNe (.lst xs) (.lst []) = some (.bl (!xs.isEmpty)) := by
  simp [dNe, h, deq_nil_l]; omega
theorem dNe_nil_t {xs : List D} (h : D.goodL xs = true) (h2 : D.depL xs ≤ 63) : dNe (.tup xs) (.tup []) = some (.bl (!xs.isEmpty)) := by
  simp [dNe, h, deq_nil_t]; omega
/-! comprehensions and loops -/
/-- a comprehension whose test and element are plain -/
theorem lcLoop_plain {g : TG'} {tt : TT'} {te : TE'} {ρ : PEnv} {p : D → Bool} {f : D → D} {xs : List D} {acc : List D} {R : List D → Prop}
    (h : ∀ x ∈ xs, ∀ (k : D → Prop) (k2 : Prop), (p x = true → k (f x)) → (p x = false → k2) → g x ρ fun ρ1 => tt ρ1 fun b => if b = true then te ρ1 k else k2) (hR : R (acc ++ (xs.filter p).map f)) : lcLoop g tt te ρ xs acc R := by
  induction xs generalizing acc with
  | nil => simpa [lcLoop] using hR
  | cons x xs ih =>
    unfold lcLoop
    refine h x (by simp) _ _ (fun hp => ?_) fun hp => ?_
    · refine ih (fun y hy => h y (by simp [hy])) ?_
      simpa [hp] using hR
    · refine ih (fun y hy => h y (by simp [hy])) ?_
      simpa [hp] using hR
/-- a comprehension without a test -/
theorem lcLoop_map {g : TG'} {te : TE'} {ρ : PEnv} {f : D → D} {xs : List D} {acc : List D} {R : List D → Prop}
    (h : ∀ x ∈ xs, ∀ (k : D → Prop), k (f x) → g x ρ fun ρ1 => te ρ1 k) (hR : R (acc ++ xs.map f)) : lcLoop g xYes te ρ xs acc R := by
  refine lcLoop_plain (p := fun _ => true) (f := f) (fun x hx k k2 h1 _ => ?_) (by rw [List.filter_eq_self.mpr (by simp)]; exact hR)
  simpa using h x hx k (h1 rfl)
theorem forL_nil {g : TG'} {tb : TS'} {D : Ends'} {ρ : PEnv} : forL g tb [] D ρ = D.nx ρ := rfl
theorem forL_cons {g : TG'} {tb : TS'} {x : PU.D} {xs : List PU.D} {D : Ends'} {ρ : PEnv} : forL g tb (x :: xs) D ρ = g x ρ fun ρ1 => tb { D with nx := fun ρ2 => forL g tb xs D ρ2, ct := fun ρ2 => forL g tb xs D ρ2, bk := D.nx } ρ1 := rfl
end PU
namespace PU
open PySem PySem.Spec PyProof.Rows L2
@[simp] theorem Ends_nx (n : PEnv → Prop) (r : D → Prop) (b c : PEnv → Prop) : (Ends'.mk n r b c).nx = n := rfl
/-- for x in xs: if not p(x): return False -/
theorem forL_all {g : TG'} {tb : TS'} {D : Ends'} {p : PU.D → Bool} {P : PEnv → Prop} : ∀ {xs : List PU.D} {ρ : PEnv},
    (∀ x ∈ xs, ∀ ρ, P ρ → ∀ D' : Ends', D'.rt = D.rt → (p x = true → ∀ ρ', P ρ' → D'.nx ρ') → (p x = false → D.rt (.bl false)) → g x ρ fun ρ1 => tb D' ρ1) →
    (xs.all p = false → D.rt (.bl false)) → (xs.all p = true → ∀ ρ', P ρ' → D.nx ρ') → P ρ → forL g tb xs D ρ
  | [], ρ, h, hf, ht, hP => ht rfl ρ hP
  | x :: xs, ρ, h, hf, ht, hP => by
    rw [forL_cons]
    refine h x (by simp) ρ hP _ rfl (fun hp ρ' hP' => ?_) fun hp => hf (by simp [hp])
    exact forL_all (p := p) (P := P) (fun y hy => h y (by simp [hy])) (fun q => hf (by simp [q])) (fun q => ht (by simp [hp, q])) hP'
/-- the last turn's state, a fold -/
theorem forL_fold {α : Type} {g : TG'} {tb : TS'} {D : Ends'} {f : α → PU.D → α} {P : α → PEnv → Prop} : ∀ {xs : List PU.D} {ρ : PEnv} {a : α},
    (∀ x ∈ xs, ∀ a ρ, P a ρ → ∀ D' : Ends', D'.rt = D.rt → (∀ ρ', P (f a x) ρ' → D'.nx ρ') → g x ρ fun ρ1 => tb D' ρ1) → (∀ ρ', P (xs.foldl f a) ρ' → D.nx ρ') → P a ρ → forL g tb xs D ρ
  | [], ρ, a, h, ht, hP => ht ρ hP
  | x :: xs, ρ, a, h, ht, hP => by
    rw [forL_cons]
    refine h x (by simp) a ρ hP _ rfl fun ρ' hP' => ?_
    exact forL_fold (f := f) (P := P) (fun y hy => h y (by simp [hy])) ht hP'
end PU
set_option Elab.async false
set_option linter.all false
set_option maxRecDepth 100000
set_option maxHeartbeats 4000000
/-! the program's words, field, echelon, rooms, flats: what they tell of any value -/
namespace PU
open PySem PySem.Spec PyProof.Rows L2

def isIntB : D → Bool | .int _ => true | _ => false
def S_is_integer : Spec := fun ds R => match ds with
  | [v] => v.isIns = false ∧ R (.bl (isIntB v))
  | _ => False
theorem l_is_integer : ∀ ds R, S_is_integer ds R → ds.length = 1 := fun ds R h => match ds, h with | [_], _ => rfl
@[simp] theorem S_is_integer_ap (v : D) (R : D → Prop) : S_is_integer [v] R = (v.isIns = false ∧ R (.bl (isIntB v))) := rfl
def T_is_integer : TS' := (sRet (xAndV (xIsi "int" (xVar 0)) (xNotV (xIsi "bool" (xVar 0)))))
theorem m_is_integer : ∀ ds R, S_is_integer ds R → T_is_integer { nx := fun _ => R .non, rt := R } (startD 1 ds) := fun ds R h => by
  match ds, h with
  | [v], ⟨h, hR⟩ => cases v <;> simp_all [T_is_integer, startD, isIntB, D.tyN, tyIs]
/-! is_number -/
def isNumB : D → Bool | .int i => decide (0 ≤ i) | _ => false
def S_is_number : Spec := fun ds R => match ds with
  | [v] => v.isIns = false ∧ R (.bl (isNumB v))
  | _ => False
theorem l_is_number : ∀ ds R, S_is_number ds R → ds.length = 1 := fun ds R h => match ds, h with | [_], _ => rfl
@[simp] theorem S_is_number_ap (v : D) (R : D → Prop) : S_is_number [v] R = (v.isIns = false ∧ R (.bl (isNumB v))) := rfl
def T_is_number : TS' := (sRet (xAndV (xCall S_is_integer (xCons (xVar 0) xNil)) (xOp dGe (xVar 0) (xC (.int 0)))))
theorem m_is_number : ∀ ds R, S_is_number ds R → T_is_number { nx := fun _ => R .non, rt := R } (startD 1 ds) := fun ds R h => by
  match ds, h with
  | [v], ⟨h, hR⟩ => cases v <;> simp_all [T_is_number, startD, isIntB, isNumB]
/-! is_tuple -/
def isTupB (n : Int) : D → Bool | .tup xs => decide ((xs.length : Int) = n) | _ => false
def S_is_tuple : Spec := fun ds R => match ds with
  | [v, .int n] => v.isIns = false ∧ R (.bl (isTupB n v))
  | _ => False
theorem l_is_tuple : ∀ ds R, S_is_tuple ds R → ds.length = 2 := fun ds R h => match ds, h with | [_, .int _], _ => rfl
@[simp] theorem S_is_tuple_ap (v : D) (n : Int) (R : D → Prop) : S_is_tuple [v, .int n] R = (v.isIns = false ∧ R (.bl (isTupB n v))) := rfl
def T_is_tuple : TS' := (sRet (xAndV (xIsi "tuple" (xVar 0)) (xOp dEq (xOp1 dLen (xVar 0)) (xVar 1))))
theorem m_is_tuple : ∀ ds R, S_is_tuple ds R → T_is_tuple { nx := fun _ => R .non, rt := R } (startD 2 ds) := fun ds R h => by
  match ds, h with
  | [v, .int n], ⟨h, hR⟩ => cases v <;> simp_all [T_is_tuple, startD, isTupB, D.tyN, tyIs]
/-! common_divisor -/
theorem gcd_loop {D : Ends'} {tc : TT'} {tb : TS'} (hc : ∀ a b : Nat, ∀ R, R (decide (b ≠ 0)) → tc [some (.int a), some (.int b)] R) (hb : ∀ (a b : Nat) (D' : Ends'), b ≠ 0 → D'.nx [some (.int b), some (.int ((a % b : Nat) : Int))] → tb D' [some (.int a), some (.int b)]) :
    ∀ b a : Nat, D.nx [some (.int (Nat.gcd a b : Nat)), some (.int (0 : Nat))] → ∃ n, whileN tc tb n D [some (.int a), some (.int b)] := fun b => by
  induction b using Nat.strongRecOn with
  | _ b ih =>
    intro a h
    by_cases hz : b = 0
    · subst hz
      refine ⟨1, ?_⟩
      unfold whileN
      refine hc _ _ _ ?_
      simpa using h
    · have hlt := Nat.mod_lt a (Nat.pos_of_ne_zero hz)
      obtain ⟨n, hn⟩ := ih (a % b) hlt b (by rw [Nat.gcd_comm, ← Nat.gcd_rec, Nat.gcd_comm]; exact h)
      refine ⟨n + 1, ?_⟩
      unfold whileN
      refine hc _ _ _ ?_
      rw [decide_eq_true (show b ≠ 0 from hz), if_pos rfl]
      exact hb _ _ _ hz hn
def S_common_divisor : Spec := fun ds R => match ds with
  | [.int a, .int b] => R (.int (Int.gcd a b))
  | _ => False
theorem l_common_divisor : ∀ ds R, S_common_divisor ds R → ds.length = 2 := fun ds R h => match ds, h with | [.int _, .int _], _ => rfl
@[simp] theorem S_common_divisor_ap (a b : Int) (R : D → Prop) : S_common_divisor [.int a, .int b] R = R (.int (Int.gcd a b)) := rfl
theorem abs_if (a : Int) : (if a < 0 then -a else a) = (a.natAbs : Int) := by split <;> omega
theorem dMod_nn (a b : Nat) (h : b ≠ 0) : dMod (.int a) (.int b) = some (.int ((a % b : Nat) : Int)) := by
  have : (b : Int) ≠ 0 := by omega
  simp [dMod, h, Int.fmod_eq_emod_of_nonneg]
def T_common_divisor : TS' := (sSeq (sPar 0 1 (xOp1 dAbs (xVar 0)) (xOp1 dAbs (xVar 1)))
  (sSeq (sWhile (xB (xOp dNe (xVar 1) (xC (.int 0))))
   (sPar 0 1 (xVar 1) (xOp dMod (xVar 0) (xVar 1))))
  (sRet (xVar 0))))
theorem m_common_divisor : ∀ ds R, S_common_divisor ds R → T_common_divisor { nx := fun _ => R .non, rt := R } (startD 2 ds) := fun ds R h => by
  match ds, h with
  | [.int a, .int b], h =>
    simp [T_common_divisor, startD, abs_if]
    refine gcd_loop (fun a b R h => ?_) (fun a b D' hb h => ?_) b.natAbs a.natAbs ?_
    · simpa using h
    · simpa [dMod_nn a b hb] using h
    · simpa [Int.gcd] using h
/-! fractions -/
def frD (q : Rat) : D := .tup [.int q.num, .int q.den]
def isFrB : D → Bool
  | .tup [.int n, .int d] => decide (1 ≤ d) && decide (((Int.gcd n d : Nat) : Int) = 1)
  | _ => false
theorem isFr_frD (q : Rat) : isFrB (frD q) = true := by
  have h1 : (1 : Int) ≤ q.den := by have := q.den_pos; omega
  have h2 : Int.gcd q.num q.den = 1 := by have := q.reduced; simpa [Int.gcd] using this
  simp [isFrB, frD, h2]; omega
theorem isFr_iff {v : D} (h : isFrB v = true) : ∃ q : Rat, v = frD q := by
  unfold isFrB at h
  split at h
  · rename_i n d
    simp at h
    obtain ⟨h1, h2⟩ := h
    obtain ⟨k, rfl⟩ := Int.eq_ofNat_of_zero_le (by omega : 0 ≤ d)
    have h3 : Int.gcd n k = 1 := by omega
    exact ⟨⟨n, k, by omega, by simpa [Int.gcd, Nat.Coprime] using h3⟩, rfl⟩
  · cases h
theorem frD_inj {p q : Rat} (h : frD p = frD q) : p = q := by
  simp [frD] at h
  exact Rat.ext h.1 (by omega)
@[simp] theorem frD_good (q : Rat) : (frD q).good = true := rfl
@[simp] theorem frD_dep (q : Rat) : (frD q).dep = 1 := rfl
@[simp] theorem frD_isIns (q : Rat) : (frD q).isIns = false := rfl
theorem deq_fr (p q : Rat) : deq (frD p) (frD q) = decide (p = q) := by
  by_cases h : p = q
  · subst h; simp [deq, frD, D.py, D.pyL, PyData.eqv, PyData.eqvAll]
  · rw [decide_eq_false h]
    have : ¬ (p.num = q.num ∧ (p.den : Int) = q.den) := fun z => h (Rat.ext z.1 (by omega))
    by_cases h1 : p.num = q.num
    · have h2 : ¬ (p.den : Int) = q.den := fun z => this ⟨h1, z⟩
      simp [deq, frD, D.py, D.pyL, PyData.eqv, PyData.eqvAll, h1]
      simpa using h2
    · simp [deq, frD, D.py, D.pyL, PyData.eqv, PyData.eqvAll]
      intro z
      exact absurd (by simpa using z) h1
@[simp] theorem dEq_fr (p q : Rat) : dEq (frD p) (frD q) = some (.bl (decide (p = q))) := by simp [dEq, deq_fr]
@[simp] theorem dNe_fr (p q : Rat) : dNe (frD p) (frD q) = some (.bl (!decide (p = q))) := by simp [dNe, deq_fr]
theorem fr_one : frD 1 = .tup [.int 1, .int 1] := rfl
theorem fr_zero : frD 0 = .tup [.int 0, .int 1] := rfl
@[simp] theorem atI_0 {α : Type} (x : α) (xs : List α) : atI (x :: xs) 0 = some x := by
  simp [atI, ixN]
@[simp] theorem atI_1 {α : Type} (x y : α) (xs : List α) : atI (x :: y :: xs) 1 = some y := by
  have : (1 : Int) < xs.length + 1 + 1 := by omega
  simp [atI, ixN, this]
theorem atI_at {α : Type} (xs : List α) (i : Nat) (h : i < xs.length) : atI xs (i : Int) = some xs[i] := by
  simp [atI, ixN, h]
def S_is_fraction : Spec := fun ds R => match ds with
  | [v] => v.good = true ∧ R (.bl (isFrB v))
  | _ => False
theorem l_is_fraction : ∀ ds R, S_is_fraction ds R → ds.length = 1 := fun ds R h => match ds, h with | [_], _ => rfl
@[simp] theorem S_is_fraction_ap (v : D) (R : D → Prop) : S_is_fraction [v] R = (v.good = true ∧ R (.bl (isFrB v))) := rfl
def T_is_fraction : TS' := (sSeq (sIf (xOr (xNot (xB (xCall S_is_tuple (xCons (xVar 0) (xCons (xC (.int 2)) xNil))))) (xOr (xNot (xB (xCall S_is_integer (xCons (xOp dIx (xVar 0) (xC (.int 0))) xNil)))) (xNot (xB (xCall S_is_integer (xCons (xOp dIx (xVar 0) (xC (.int 1))) xNil))))))
   (sRet (xC (.bl false)))
   sNext)
  (sRet (xAndV (xOp dGe (xOp dIx (xVar 0) (xC (.int 1))) (xC (.int 1))) (xOp dEq (xCall S_common_divisor (xCons (xOp dIx (xVar 0) (xC (.int 0))) (xCons (xOp dIx (xVar 0) (xC (.int 1))) xNil))) (xC (.int 1))))))
theorem m_is_fraction : ∀ ds R, S_is_fraction ds R → T_is_fraction { nx := fun _ => R .non, rt := R } (startD 1 ds) := fun ds R h => by
  match ds, h with
  | [v], ⟨hg, hR⟩ =>
    have hi := good_isIns hg
    by_cases ht : isTupB 2 v = true
    · cases v with
      | tup xs =>
        simp [isTupB] at ht
        match xs, ht with
        | [a, b], _ =>
          simp at hg
          have ha := good_isIns hg.1
          have hb := good_isIns hg.2
          simp [T_is_fraction, startD, D.isIns, isTupB, ha, hb]
          cases a <;> simp_all [isIntB, isFrB]
          cases b <;> simp_all [isIntB, isFrB]
          split <;> simp_all
      | _ => simp [isTupB] at ht
    · have hf : isFrB v = false := by
        cases q : isFrB v with
        | false => rfl
        | true =>
          obtain ⟨q, rfl⟩ := isFr_iff q
          simp [isTupB, frD] at ht
      rw [hf] at hR
      simp [T_is_fraction, startD, hi, ht, hR]
/-! is_number_of, one_of, is_zero -/
def S_is_number_of : Spec := fun ds R => match ds with
  | [.int f, v] => f = 0 ∧ v.good = true ∧ R (.bl (isFrB v))
  | _ => False
theorem l_is_number_of : ∀ ds R, S_is_number_of ds R → ds.length = 2 := fun ds R h => match ds, h with | [.int _, _], _ => rfl
@[simp] theorem S_is_number_of_ap (f : Int) (v : D) (R : D → Prop) : S_is_number_of [.int f, v] R = (f = 0 ∧ v.good = true ∧ R (.bl (isFrB v))) := rfl
def T_is_number_of : TS' := (sSeq (sIf (xB (xOp dEq (xVar 0) (xC (.int 0))))
   (sRet (xCall S_is_fraction (xCons (xVar 1) xNil)))
   sNext)
  (sRet (xAndV (xCall S_is_number (xCons (xVar 1) xNil)) (xOp dLt (xVar 1) (xVar 0)))))
theorem m_is_number_of : ∀ ds R, S_is_number_of ds R → T_is_number_of { nx := fun _ => R .non, rt := R } (startD 2 ds) := fun ds R h => by
  match ds, h with
  | [.int f, v], ⟨hf, h, hR⟩ => subst hf; simp [T_is_number_of, startD, h, hR]
def S_one_of : Spec := fun ds R => match ds with
  | [.int f] => f = 0 ∧ R (frD 1)
  | _ => False
theorem l_one_of : ∀ ds R, S_one_of ds R → ds.length = 1 := fun ds R h => match ds, h with | [.int _], _ => rfl
@[simp] theorem S_one_of_ap (f : Int) (R : D → Prop) : S_one_of [.int f] R = (f = 0 ∧ R (frD 1)) := rfl
def T_one_of : TS' := (sRet (xIf (xB (xOp dEq (xVar 0) (xC (.int 0)))) (xTup (xCons (xC (.int 1)) (xCons (xC (.int 1)) xNil))) (xC (.int 1))))
theorem m_one_of : ∀ ds R, S_one_of ds R → T_one_of { nx := fun _ => R .non, rt := R } (startD 1 ds) := fun ds R h => by
  match ds, h with
  | [.int f], ⟨hf, hR⟩ => subst hf; rw [fr_one] at hR; simp [T_one_of, startD, hR]
def S_is_zero : Spec := fun ds R => ∃ q : Rat, ds = [.int 0, frD q] ∧ R (.bl (decide (q = 0)))
theorem l_is_zero : ∀ ds R, S_is_zero ds R → ds.length = 2 := fun ds R ⟨_, h, _⟩ => by rw [h]; rfl
@[simp] theorem S_is_zero_ap (q : Rat) (R : D → Prop) : S_is_zero [.int 0, frD q] R = R (.bl (decide (q = 0))) := by
  refine propext ⟨fun ⟨q', h, hR⟩ => ?_, fun h => ⟨q, rfl, h⟩⟩
  have : q = q' := frD_inj (by simpa using h)
  rw [this]; exact hR
def T_is_zero : TS' := (sRet (xIf (xB (xOp dEq (xVar 0) (xC (.int 0)))) (xOp dEq (xOp dIx (xVar 1) (xC (.int 0))) (xC (.int 0))) (xOp dEq (xVar 1) (xC (.int 0)))))
theorem m_is_zero : ∀ ds R, S_is_zero ds R → T_is_zero { nx := fun _ => R .non, rt := R } (startD 2 ds) := fun ds R h => by
  obtain ⟨q, rfl, hR⟩ := h
  simp [T_is_zero, startD, frD]
  have : decide (q.num = 0) = decide (q = 0) := by simp [Rat.num_eq_zero]
  simpa [this] using hR
end PU
set_option Elab.async false
set_option linter.all false
set_option maxRecDepth 100000
set_option maxHeartbeats 4000000
/-! rows and rooms of fractions -/
namespace PU
open PySem PySem.Spec PyProof.Rows L2

def rowD (r : List Rat) : D := .tup (r.map frD)
def roomD (M : List (List Rat)) : D := .tup (M.map rowD)
def hd (r : List Rat) : Nat := r.findIdx fun x => decide (x ≠ 0)
def headI (r : List Rat) : Int := if hd r < r.length then hd r else -1
@[simp] theorem goodL_fr (r : List Rat) : D.goodL (r.map frD) = true := goodL_of fun x hx => by
  obtain ⟨q, _, rfl⟩ := List.mem_map.mp hx; rfl
theorem depL_fr (r : List Rat) : D.depL (r.map frD) ≤ 1 := depL_of fun x hx => by
  obtain ⟨q, _, rfl⟩ := List.mem_map.mp hx; simp
@[simp] theorem rowD_good (r : List Rat) : (rowD r).good = true := by simp [rowD]
theorem rowD_dep (r : List Rat) : (rowD r).dep ≤ 2 := by have := depL_fr r; simp [rowD]; omega
@[simp] theorem goodL_row (M : List (List Rat)) : D.goodL (M.map rowD) = true := goodL_of fun x hx => by
  obtain ⟨q, _, rfl⟩ := List.mem_map.mp hx; simp
theorem depL_row (M : List (List Rat)) : D.depL (M.map rowD) ≤ 2 := depL_of fun x hx => by
  obtain ⟨q, _, rfl⟩ := List.mem_map.mp hx; exact rowD_dep q
@[simp] theorem roomD_good (M : List (List Rat)) : (roomD M).good = true := by simp [roomD]
theorem roomD_dep (M : List (List Rat)) : (roomD M).dep ≤ 3 := by have := depL_row M; simp [roomD]; omega
theorem map_fr_inj {r s : List Rat} (h : r.map frD = s.map frD) : r = s := List.map_inj_right (fun p q => frD_inj) |>.mp h
theorem rowD_inj {r s : List Rat} (h : rowD r = rowD s) : r = s := map_fr_inj (by simpa [rowD] using h)
theorem roomD_inj {M N : List (List Rat)} (h : roomD M = roomD N) : M = N := List.map_inj_right (fun p q => rowD_inj) |>.mp (by simpa [roomD] using h)
/-! enumerate -/
def enF (i : Nat) : List D → List D
  | [] => []
  | d :: ds => .tup [.int i, d] :: enF (i + 1) ds
theorem enF_get : ∀ (ds : List D) (i j : Nat), (enF i ds)[j]? = (ds[j]?).map fun d => .tup [.int ((i + j : Nat) : Int), d]
  | [], i, j => by simp [enF]
  | d :: ds, i, 0 => by simp [enF]
  | d :: ds, i, j + 1 => by
    rw [enF, List.getElem?_cons_succ, List.getElem?_cons_succ, enF_get ds (i + 1) j]
    congr 1; funext d; congr 4; omega
theorem enumD_enF (ds : List D) : enumD ds = enF 0 ds := by
  apply List.ext_getElem?
  intro j
  rw [enF_get]
  cases h : ds[j]? with
  | none =>
    have := List.getElem?_eq_none_iff.mp h
    rw [List.getElem?_eq_none (by rw [enumD_len]; exact this)]; rfl
  | some d => rw [enumD_get h]; simp
/-! head_of -/
def S_head_of : Spec := fun ds R => ∃ r : List Rat, ds = [.int 0, rowD r] ∧ R (.int (headI r))
theorem l_head_of : ∀ ds R, S_head_of ds R → ds.length = 2 := fun ds R ⟨_, h, _⟩ => by rw [h]; rfl
@[simp] theorem S_head_of_ap (r : List Rat) (R : D → Prop) : S_head_of [.int 0, rowD r] R = R (.int (headI r)) := by
  refine propext ⟨fun ⟨q, h, hR⟩ => ?_, fun h => ⟨r, rfl, h⟩⟩
  have : r = q := rowD_inj (by simpa using h)
  rw [this]; exact hR
def T_head_of : TS' := (sSeq (sFor (xEnum (xVar 1)) (gT (gCons' (gN 2) (gCons' (gN 3) gNil')))
   (sIf (xNot (xB (xCall S_is_zero (xCons (xVar 0) (xCons (xVar 3) xNil)))))
   (sRet (xVar 2))
   sNext))
  (sRet (xOp1 dNeg (xC (.int 1)))))
theorem hd_cons (q : Rat) (r : List Rat) : hd (q :: r) = if q = 0 then hd r + 1 else 0 := by
  unfold hd
  rw [List.findIdx_cons]
  by_cases h : q = 0 <;> simp [h]
theorem head_loop {D : Ends'} {b : TS'} (x : Option PU.D) (hb : ∀ (i : Nat) (q : Rat) (D' : Ends'), D'.rt = D.rt → (q = 0 → D'.nx [some (.int 0), x, some (.int i), some (frD q)]) → (q ≠ 0 → D.rt (.int i)) → b D' [some (.int 0), x, some (.int i), some (frD q)]) : ∀ (r : List Rat) (i : Nat) (y z : Option PU.D),
    (hd r < r.length → D.rt (.int ((i + hd r : Nat) : Int))) → (hd r = r.length → ∀ y z, D.nx [some (.int 0), x, y, z]) → forL (gT (gCons' (gN 2) (gCons' (gN 3) gNil'))) b (enF i (r.map frD)) D [some (.int 0), x, y, z]
  | [], i, y, z, h1, h2 => h2 rfl y z
  | q :: r, i, y, z, h1, h2 => by
    rw [List.map_cons, enF, forL_cons]
    simp only [gT_ap, gCons_ap, gN_ap, gNil_ap, List.set_cons_succ, List.set_cons_zero]
    rw [hd_cons] at h1 h2
    refine hb i q _ rfl (fun hq => ?_) fun hq => ?_
    · refine head_loop x hb r (i + 1) _ _ (fun h => ?_) fun h => ?_
      · rw [if_pos hq] at h1
        have := h1 (by simp; exact h)
        rw [show i + 1 + hd r = i + (hd r + 1) by omega]; exact this
      · rw [if_pos hq] at h2
        exact h2 (by simp; exact h)
    · rw [if_neg hq] at h1
      simpa using h1 (by simp)
theorem hd_le (r : List Rat) : hd r ≤ r.length := List.findIdx_le_length
theorem m_head_of : ∀ ds R, S_head_of ds R → T_head_of { nx := fun _ => R .non, rt := R } (startD 4 ds) := fun ds R h => by
  obtain ⟨r, rfl, hR⟩ := h
  simp [T_head_of, startD, rowD, enumD_enF]
  refine head_loop _ (fun i q D' e h1 h2 => ?_) r 0 _ _ (fun h => ?_) fun h y z => ?_
  · simp [e]
    by_cases hq : q = 0
    · subst hq; simpa using h1 rfl
    · simpa [hq] using h2 hq
  · simpa [headI, h] using hR
  · have : ¬ hd r < r.length := by omega
    simpa [headI, this] using hR
end PU
set_option Elab.async false
set_option linter.all false
set_option maxRecDepth 100000
set_option maxHeartbeats 4000000
/-! rows and rooms, looked at -/
namespace PU
open PySem PySem.Spec PyProof.Rows L2

theorem goodL_filter {xs : List D} (p : D → Bool) (h : D.goodL xs = true) : D.goodL (xs.filter p) = true := goodL_of fun x hx => good_mem h (List.mem_filter.mp hx).1
theorem depL_filter {xs : List D} (p : D → Bool) : D.depL (xs.filter p) ≤ D.depL xs := depL_of fun x hx => dep_mem (List.mem_filter.mp hx).1
theorem isEmpty_filter {α : Type} (p : α → Bool) (xs : List α) : (xs.filter p).isEmpty = xs.all fun x => !p x := by
  induction xs with
  | nil => rfl
  | cons x xs ih => rw [List.filter_cons]; cases h : p x <;> simp [h, ih]
def isRowB (size : Int) : D → Bool
  | .tup xs => decide ((xs.length : Int) = size) && xs.all isFrB
  | _ => false
def S_is_row_of : Spec := fun ds R => match ds with
  | [.int f, .int size, v] => f = 0 ∧ v.good = true ∧ v.dep ≤ 60 ∧ R (.bl (isRowB size v))
  | _ => False
theorem l_is_row_of : ∀ ds R, S_is_row_of ds R → ds.length = 3 := fun ds R h => match ds, h with | [.int _, .int _, _], _ => rfl
@[simp] theorem S_is_row_of_ap (f size : Int) (v : D) (R : D → Prop) : S_is_row_of [.int f, .int size, v] R = (f = 0 ∧ v.good = true ∧ v.dep ≤ 60 ∧ R (.bl (isRowB size v))) := rfl
def T_is_row_of : TS' := (sRet (xAndV (xCall S_is_tuple (xCons (xVar 2) (xCons (xVar 1) xNil))) (xOp dEq (xLc (xSeq (xVar 2)) (gN 3) (xNot (xB (xCall S_is_number_of (xCons (xVar 0) (xCons (xVar 3) xNil))))) (xVar 3) [3]) (xLst xNil))))
theorem m_is_row_of : ∀ ds R, S_is_row_of ds R → T_is_row_of { nx := fun _ => R .non, rt := R } (startD 4 ds) := fun ds R h => by
  match ds, h with
  | [.int f, .int size, v], ⟨hf, hg, hd, hR⟩ =>
    subst hf
    have hi := good_isIns hg
    by_cases ht : isTupB size v = true
    · cases v with
      | tup xs =>
        simp [isTupB] at ht
        simp at hg hd
        simp [T_is_row_of, startD, D.isIns, isTupB, ht]
        refine lcLoop_plain (p := fun x => !isFrB x) (f := fun x => x) (fun x hx k k2 h1 h2 => ?_) ?_
        · have hgx := good_mem hg hx
          simp [wipe', hgx]
          cases h : isFrB x <;> simp_all
        · have h1 : D.depL (xs.filter fun x => !isFrB x) ≤ 63 := Nat.le_trans (depL_filter _) (by omega)
          simp [dEq_nil_l (goodL_filter _ hg) h1, isEmpty_filter]
          simpa [isRowB, ht] using hR
      | _ => simp [isTupB] at ht
    · have hf : isRowB size v = false := by
        cases v with
        | tup xs => simp [isTupB] at ht; simp [isRowB, ht]
        | _ => rfl
      rw [hf] at hR
      simp [T_is_row_of, startD, hi, ht, hR]
/-! are_heads_right -/
def AI (M : List (List Rat)) : Prop := ∀ i, (h : i + 1 < M.length) → hd (M[i]'(by omega)) < hd M[i + 1]
def CO (M : List (List Rat)) (j : Nat) : Prop := ∀ i, i < M.length → ((M.getD i []).getD (hd (M.getD j [])) 0 = if i = j then 1 else 0)
def UN (M : List (List Rat)) : Prop := ∀ j, j < M.length → CO M j
instance (M : List (List Rat)) (j : Nat) : Decidable (CO M j) := by unfold CO; exact inferInstance
instance (M : List (List Rat)) : Decidable (UN M) := by unfold UN; exact inferInstance
instance (M : List (List Rat)) : Decidable (AI M) :=
  if h : ∀ i, i < M.length - 1 → hd (M.getD i []) < hd (M.getD (i + 1) []) then
    .isTrue fun i hi => by have := h i (by omega); simpa [show i < M.length by omega, hi] using this
  else .isFalse fun q => h fun i hi => by have := q i (by omega); simpa [show i < M.length by omega, show i + 1 < M.length by omega] using this
def rrB (M : List (List Rat)) : Bool := decide (AI M ∧ UN M)
theorem rng_mem {x : D} {n : Nat} (h : x ∈ rngD 0 n) : ∃ i, i < n ∧ x = .int (i : Nat) := by
  simp [rngD] at h
  obtain ⟨i, h1, h2⟩ := h
  exact ⟨i, h1, h2.symm⟩
theorem mem_rng {i n : Nat} (h : i < n) : D.int (i : Nat) ∈ rngD 0 n := by
  simp [rngD]; exact ⟨i, h, rfl⟩
theorem mem_enF {x : D} {ds : List D} (h : x ∈ enF 0 ds) : ∃ j, ∃ (hj : j < ds.length), x = .tup [.int (j : Nat), ds[j]] := by
  obtain ⟨j, hj⟩ := List.getElem?_of_mem h
  rw [enF_get] at hj
  cases q : ds[j]? with
  | none => rw [q] at hj; cases hj
  | some d =>
    rw [q] at hj
    obtain ⟨h1, h2⟩ := List.getElem?_eq_some_iff.mp q
    refine ⟨j, h1, ?_⟩
    simp at hj
    rw [h2, hj]
theorem enF_mem {ds : List D} {j : Nat} (hj : j < ds.length) : D.tup [.int (j : Nat), ds[j]] ∈ enF 0 ds := by
  refine List.mem_of_getElem? (i := j) ?_
  rw [enF_get, List.getElem?_eq_getElem hj]; simp
theorem cut_take (xs : List D) (j : Nat) (h : j ≤ xs.length) : cutD xs none (some (j : Int)) = xs.take j := by
  simp [cutD, HT.sIx_none, HT.sIx_nat, Nat.min_eq_left h]
theorem cut_drop (xs : List D) (j : Nat) : cutD xs (some (j : Int)) none = xs.drop j := by
  simp [cutD, HT.sIx_none, HT.sIx_nat]
  by_cases h : j ≤ xs.length
  · rw [Nat.min_eq_left h]; exact List.take_of_length_le (by simp)
  · rw [Nat.min_eq_right (by omega), List.drop_of_length_le (Nat.le_refl _), List.drop_of_length_le (by omega)]; simp
@[simp] theorem dAdd_tt (xs ys : List D) (h : xs.length + ys.length ≤ sizeLine) : dAdd (.tup xs) (.tup ys) = some (.tup (xs ++ ys)) := by simp [dAdd, h]
theorem headI_of {r : List Rat} (h : hd r < r.length) : headI r = (hd r : Nat) := by simp [headI, h]
def S_are_heads_right : Spec := fun ds R => ∃ (M : List (List Rat)) (n : Nat), ds = [.int 0, roomD M, .lst (M.map fun r => .int (headI r))] ∧ (∀ r ∈ M, r.length = n ∧ hd r < n) ∧ M.length ≤ 1000 ∧ R (.bl (rrB M))
theorem l_are_heads_right : ∀ ds R, S_are_heads_right ds R → ds.length = 3 := fun ds R ⟨_, _, h, _⟩ => by rw [h]; rfl
def T_are_heads_right : TS' := (sSeq (sIf (xB (xOp dNe (xLc (xRange1 (xOp dSub (xOp1 dLen (xVar 2)) (xC (.int 1)))) (gN 3) (xB (xOp dGe (xOp dIx (xVar 2) (xVar 3)) (xOp dIx (xVar 2) (xOp dAdd (xVar 3) (xC (.int 1)))))) (xC (.int 1)) [3]) (xLst xNil)))
   (sRet (xC (.bl false)))
   sNext)
  (sSeq (sFor (xEnum (xVar 1)) (gT (gCons' (gN 3) (gCons' (gN 4) gNil')))
   (sSeq (sIf (xB (xOp dNe (xOp dIx (xVar 4) (xOp dIx (xVar 2) (xVar 3))) (xCall S_one_of (xCons (xVar 0) xNil))))
   (sRet (xC (.bl false)))
   sNext)
  (sIf (xB (xOp dNe (xLc (xSeq (xOp dAdd (xSl (xVar 1) xNo (xPart (xVar 3))) (xSl (xVar 1) (xPart (xOp dAdd (xVar 3) (xC (.int 1)))) xNo))) (gN 5) (xNot (xB (xCall S_is_zero (xCons (xVar 0) (xCons (xOp dIx (xVar 5) (xOp dIx (xVar 2) (xVar 3))) xNil))))) (xC (.int 1)) [5]) (xLst xNil)))
   (sRet (xC (.bl false)))
   sNext)))
  (sRet (xC (.bl true)))))
theorem m_are_heads_right : ∀ ds R, S_are_heads_right ds R → T_are_heads_right { nx := fun _ => R .non, rt := R } (startD 6 ds) := fun ds R h => by
  obtain ⟨M, n, rfl, hM, hl, hR⟩ := h
  have hat : ∀ j, j < M.length → atI (M.map fun r => D.int (headI r)) (j : Int) = some (.int (hd (M.getD j []) : Nat)) := fun j hj => by
    rw [atI_at _ _ (by simpa using hj)]
    have := hM M[j] (List.getElem_mem hj)
    simp [hj, headI_of (r := M[j]) (by omega)]
  simp [T_are_heads_right, startD]
  refine ⟨⟨by omega, by omega⟩, ?_⟩
  refine lcLoop_plain (p := fun x => match x with | .int i => decide (hd (M.getD (i.toNat + 1) []) ≤ hd (M.getD i.toNat [])) | _ => false) (f := fun _ => .int 1) (fun x hx k k2 h1 h2 => ?_) ?_
  · obtain ⟨i, hi, rfl⟩ := rng_mem hx
    have e1 := hat i (by omega)
    have e2 := hat (i + 1) (by omega)
    rw [show ((i + 1 : Nat) : Int) = (i : Int) + 1 by omega] at e2
    simp only [Int.toNat_natCast] at h1 h2
    simp [wipe', e1, e2]
    split
    · rename_i hh; exact h1 (by simpa using hh)
    · rename_i hh; exact h2 (by simpa using hh)
  · have hgood : ∀ (ys : List D), D.goodL (ys.map fun _ => D.int 1) = true := fun ys => goodL_of fun x hx => by obtain ⟨_, _, rfl⟩ := List.mem_map.mp hx; rfl
    have hdep : ∀ (ys : List D), D.depL (ys.map fun _ => D.int 1) ≤ 63 := fun ys => depL_of fun x hx => by obtain ⟨_, _, rfl⟩ := List.mem_map.mp hx; simp
    simp only [List.nil_append, dNe_nil_l (hgood _) (hdep _), ok_some, isB_bl, List.isEmpty_map, isEmpty_filter, roomD, isSeq_t]
    have hAI : ((rngD 0 (M.length - 1)).all fun x => !(match x with | .int i => decide (hd (M.getD (i.toNat + 1) []) ≤ hd (M.getD i.toNat [])) | _ => false)) = true ↔ AI M := by
      rw [List.all_eq_true]
      constructor
      · intro h i hi
        have := h (.int (i : Nat)) (mem_rng (by omega))
        simp only [Int.toNat_natCast, Bool.not_eq_true', decide_eq_false_iff_not] at this
        simp [show i < M.length by omega, hi] at this
        exact this
      · intro h x hx
        obtain ⟨i, hi, rfl⟩ := rng_mem hx
        have := h i (by omega)
        simp only [Int.toNat_natCast, Bool.not_eq_true', decide_eq_false_iff_not]
        simp [show i < M.length by omega, show i + 1 < M.length by omega]
        exact this
    by_cases hA : AI M
    · rw [hAI.mpr hA]
      simp only [Bool.not_true, Bool.false_eq_true, if_false, enumD_enF]
      have hrr : rrB M = decide (∀ j, j < M.length → CO M j) := by simp [rrB, hA, UN]
      rw [hrr] at hR
      refine forL_all (p := fun x => match x with | .tup [.int j, _] => decide (CO M j.toNat) | _ => false) (P := fun ρ => ∃ y z, ρ = [some (.int 0), some (.tup (M.map rowD)), some (.lst (M.map fun r => .int (headI r))), y, z, none]) (fun x hx ρ hP D' hD h1 h2 => ?_) (fun h => ?_) (fun h ρ' hP => ?_) ⟨_, _, rfl⟩
      · obtain ⟨y, z, rfl⟩ := hP
        obtain ⟨j, hj, rfl⟩ := mem_enF hx
        simp only [List.length_map] at hj
        simp only [List.getElem_map] at h1 h2 ⊢
        have hjM := hM M[j] (List.getElem_mem hj)
        have hgj : M.getD j [] = M[j] := by simp [hj]
        simp only [Int.toNat_natCast] at h1 h2
        have a1 := hat j hj
        rw [hgj] at a1
        have a2 : atI (M[j].map frD) ((hd M[j] : Nat) : Int) = some (frD (M[j].getD (hd M[j]) 0)) := by
          rw [atI_at _ _ (by simp; omega)]
          simp [show hd M[j] < M[j].length by omega]
        simp [rowD, a1, a2, hD]
        by_cases hv : M[j][hd M[j]]?.getD 0 = 1
        · rw [if_pos hv]
          have hu : (j : Int) + 1 = ((j + 1 : Nat) : Int) := by omega
          rw [hu, cut_take _ _ (by simp; omega), cut_drop, dAdd_tt _ _ (k1000 (by simp; omega)), ok_some, isSeq_t, ← List.map_take, ← List.map_drop, ← List.map_append]
          refine lcLoop_plain (p := fun x => match x with | .tup xs => !deq (xs.getD (hd M[j]) .non) (frD 0) | _ => false) (f := fun _ => .int 1) (fun x hx k k2 k3 k4 => ?_) ?_
          · obtain ⟨r, hr, rfl⟩ := List.mem_map.mp hx
            have hrM : r ∈ M := (List.mem_append.mp hr).elim List.mem_of_mem_take List.mem_of_mem_drop
            have hrl := hM r hrM
            have a3 : atI (r.map frD) ((hd M[j] : Nat) : Int) = some (frD (r.getD (hd M[j]) 0)) := by
              rw [atI_at _ _ (by simp; omega)]
              simp [show hd M[j] < r.length by omega]
            have e : (r.map frD).getD (hd M[j]) .non = frD (r.getD (hd M[j]) 0) := by simp [show hd M[j] < r.length by omega]
            simp only [rowD, e, deq_fr] at k3 k4
            simp [wipe', rowD, a1, a3]
            split
            · rename_i hz; exact k4 (by simpa using hz)
            · rename_i hz; exact k3 (by simpa using hz)
          · simp only [List.nil_append, dNe_nil_l (hgood _) (hdep _), ok_some, isB_bl, List.isEmpty_map, isEmpty_filter]
            have key : ((List.map rowD (M.take j ++ M.drop (j + 1))).all fun x => !(match x with | .tup xs => !deq (xs.getD (hd M[j]) .non) (frD 0) | _ => false)) = true ↔ CO M j := by
              rw [List.all_eq_true]
              constructor
              · intro h i hi
                by_cases hij : i = j
                · subst hij; rw [if_pos rfl]; simpa [hj] using hv
                · rw [if_neg hij]
                  have hrl := hM M[i] (List.getElem_mem hi)
                  have hm : M[i] ∈ M.take j ++ M.drop (j + 1) := by
                    rw [List.mem_append]
                    rcases Nat.lt_or_gt_of_ne hij with hlt | hgt
                    · left; exact List.mem_of_getElem? (i := i) (by rw [List.getElem?_take, if_pos hlt, List.getElem?_eq_getElem hi])
                    · right; exact List.mem_of_getElem? (i := i - (j + 1)) (by rw [List.getElem?_drop, show j + 1 + (i - (j + 1)) = i by omega, List.getElem?_eq_getElem hi])
                  have := h (rowD M[i]) (List.mem_map_of_mem hm)
                  have e : (M[i].map frD).getD (hd M[j]) .non = frD (M[i].getD (hd M[j]) 0) := by simp [show hd M[j] < M[i].length by omega]
                  simp only [rowD, e, deq_fr] at this
                  simp [hi, hj] at this ⊢
                  exact this
              · intro h x hx
                obtain ⟨r, hr, rfl⟩ := List.mem_map.mp hx
                have : ∃ i, ∃ (hi : i < M.length), i ≠ j ∧ r = M[i] := by
                  rcases List.mem_append.mp hr with hr | hr
                  · obtain ⟨i, hi⟩ := List.getElem?_of_mem hr
                    rw [List.getElem?_take] at hi
                    split at hi
                    · obtain ⟨h1, h2⟩ := List.getElem?_eq_some_iff.mp hi
                      exact ⟨i, h1, by omega, h2.symm⟩
                    · cases hi
                  · obtain ⟨i, hi⟩ := List.getElem?_of_mem hr
                    rw [List.getElem?_drop] at hi
                    obtain ⟨h1, h2⟩ := List.getElem?_eq_some_iff.mp hi
                    exact ⟨_, h1, by omega, h2.symm⟩
                obtain ⟨i, hi, hij, rfl⟩ := this
                have hrl := hM M[i] (List.getElem_mem hi)
                have := h i hi
                rw [if_neg hij] at this
                have e : (M[i].map frD).getD (hd M[j]) .non = frD (M[i].getD (hd M[j]) 0) := by simp [show hd M[j] < M[i].length by omega]
                simp only [rowD, e, deq_fr]
                simp [hi, hj] at this ⊢
                exact this
            by_cases hc : CO M j
            · rw [key.mpr hc]
              simp only [Bool.not_true, Bool.false_eq_true, if_false]
              exact h1 (decide_eq_true hc) _ ⟨_, _, rfl⟩
            · have hf : ((List.map rowD (M.take j ++ M.drop (j + 1))).all fun x => !(match x with | .tup xs => !deq (xs.getD (hd M[j]) .non) (frD 0) | _ => false)) = false := by
                rw [← Bool.not_eq_true, key]; exact hc
              rw [hf]
              simpa using h2 (decide_eq_false hc)
        · rw [if_neg hv]
          refine h2 (decide_eq_false fun hc => hv ?_)
          have := hc j hj
          rw [if_pos rfl] at this
          simpa [hj] using this
      · have : ¬ ∀ j, j < M.length → CO M j := fun q => by
          rw [← Bool.not_eq_true] at h
          refine h (List.all_eq_true.mpr fun x hx => ?_)
          obtain ⟨j, hj, rfl⟩ := mem_enF hx
          simpa using q j (by simpa using hj)
        rw [decide_eq_false this] at hR
        exact hR
      · have : ∀ j, j < M.length → CO M j := fun j hj => by
          have := List.all_eq_true.mp h _ (enF_mem (ds := M.map rowD) (j := j) (by simpa using hj))
          simpa using this
        rw [decide_eq_true this] at hR
        exact hR
    · have : rrB M = false := by simp [rrB, hA]
      rw [this] at hR
      have hf : ((rngD 0 (M.length - 1)).all fun x => !(match x with | .int i => decide (hd (M.getD (i.toNat + 1) []) ≤ hd (M.getD i.toNat [])) | _ => false)) = false := by
        rw [← Bool.not_eq_true, hAI]; exact hA
      rw [hf]
      simpa using hR
end PU
set_option Elab.async false
set_option linter.all false
set_option maxRecDepth 100000
set_option maxHeartbeats 4000000
/-! is_room, is_false, is_flat -/
namespace PU
open PySem PySem.Spec PyProof.Rows L2

def toQ : D → Rat
  | .tup [.int n, .int d] => Rat.divInt n d
  | _ => 0
def toR : D → List Rat
  | .tup xs => xs.map toQ
  | _ => []
def toM : D → List (List Rat)
  | .tup xs => xs.map toR
  | _ => []
@[simp] theorem toQ_fr (q : Rat) : toQ (frD q) = q := Rat.num_divInt_den q
@[simp] theorem toR_row (r : List Rat) : toR (rowD r) = r := by simp [toR, rowD, List.map_map, Function.comp_def]
@[simp] theorem toM_room (M : List (List Rat)) : toM (roomD M) = M := by simp [toM, roomD, List.map_map, Function.comp_def]
def formB (size : Int) : D → Bool
  | .tup xs => xs.all (isRowB size)
  | _ => false
theorem isRow_iff {size : Int} {v : D} (h : isRowB size v = true) : ∃ r : List Rat, v = rowD r ∧ (r.length : Int) = size := by
  cases v with
  | tup xs =>
    simp only [isRowB, Bool.and_eq_true, decide_eq_true_eq] at h
    have : ∃ r : List Rat, xs = r.map frD := by
      have h2 := h.2
      clear h
      induction xs with
      | nil => exact ⟨[], rfl⟩
      | cons x xs ih =>
        simp only [List.all_cons, Bool.and_eq_true] at h2
        obtain ⟨r, rfl⟩ := ih h2.2
        obtain ⟨q, rfl⟩ := isFr_iff h2.1
        exact ⟨q :: r, rfl⟩
    obtain ⟨r, rfl⟩ := this
    exact ⟨r, rfl, by simpa using h.1⟩
  | _ => cases h
theorem isRow_row (r : List Rat) : isRowB (r.length : Nat) (rowD r) = true := by
  simp [isRowB, rowD, isFr_frD]
theorem isRow_row' (r : List Rat) (n : Int) : isRowB n (rowD r) = decide ((r.length : Int) = n) := by
  simp [isRowB, rowD, isFr_frD]
theorem form_iff {size : Int} {v : D} (h : formB size v = true) : ∃ M : List (List Rat), v = roomD M ∧ ∀ r ∈ M, (r.length : Int) = size := by
  cases v with
  | tup xs =>
    simp only [formB] at h
    have : ∃ M : List (List Rat), xs = M.map rowD ∧ ∀ r ∈ M, (r.length : Int) = size := by
      induction xs with
      | nil => exact ⟨[], rfl, by simp⟩
      | cons x xs ih =>
        simp only [List.all_cons, Bool.and_eq_true] at h
        obtain ⟨M, rfl, hM⟩ := ih h.2
        obtain ⟨r, rfl, hr⟩ := isRow_iff h.1
        exact ⟨r :: M, rfl, fun s hs => by rcases List.mem_cons.mp hs with rfl | hs; exact hr; exact hM s hs⟩
    obtain ⟨M, rfl, hM⟩ := this
    exact ⟨M, rfl, hM⟩
  | _ => cases h
theorem form_room {M : List (List Rat)} {n : Int} : formB n (roomD M) = true ↔ ∀ r ∈ M, (r.length : Int) = n := by
  simp [formB, roomD, isRow_row']
def roomB (size : Int) (v : D) : Bool := formB size v && (decide (∀ r ∈ toM v, hd r < r.length) && rrB (toM v))
def topOk : D → Prop
  | .tup xs => xs.length ≤ 1000
  | _ => True
def S_is_room : Spec := fun ds R => match ds with
  | [.int f, .int size, v] => f = 0 ∧ v.good = true ∧ v.dep ≤ 60 ∧ topOk v ∧ R (.bl (roomB size v))
  | _ => False
theorem l_is_room : ∀ ds R, S_is_room ds R → ds.length = 3 := fun ds R h => match ds, h with | [.int _, .int _, _], _ => rfl
@[simp] theorem S_is_room_ap (f size : Int) (v : D) (R : D → Prop) : S_is_room [.int f, .int size, v] R = (f = 0 ∧ v.good = true ∧ v.dep ≤ 60 ∧ topOk v ∧ R (.bl (roomB size v))) := rfl
theorem heads_ap {M : List (List Rat)} {n : Nat} {R : D → Prop} (hM : ∀ r ∈ M, r.length = n ∧ hd r < n) (hl : M.length ≤ 1000) (hR : R (.bl (rrB M))) : S_are_heads_right [.int 0, roomD M, .lst (M.map fun r => .int (headI r))] R := ⟨M, n, rfl, hM, hl, hR⟩
def T_is_room : TS' := (sSeq (sIf (xOr (xNot (xB (xIsi "tuple" (xVar 2)))) (xB (xOp dNe (xLc (xSeq (xVar 2)) (gN 3) (xNot (xB (xCall S_is_row_of (xCons (xVar 0) (xCons (xVar 1) (xCons (xVar 3) xNil)))))) (xVar 3) [3]) (xLst xNil))))
   (sRet (xC (.bl false)))
   sNext)
  (sSeq (sAsg (xLc (xSeq (xVar 2)) (gN 3) xYes (xCall S_head_of (xCons (xVar 0) (xCons (xVar 3) xNil))) [3]) (gN 4))
  (sRet (xAndV (xOp dEq (xLc (xSeq (xVar 4)) (gN 5) (xB (xOp dLt (xVar 5) (xC (.int 0)))) (xC (.int 1)) [5]) (xLst xNil)) (xCall S_are_heads_right (xCons (xVar 0) (xCons (xVar 2) (xCons (xVar 4) xNil))))))))
theorem headI_neg (r : List Rat) : (headI r < 0) ↔ ¬ hd r < r.length := by
  unfold headI
  split <;> omega
theorem m_is_room : ∀ ds R, S_is_room ds R → T_is_room { nx := fun _ => R .non, rt := R } (startD 6 ds) := fun ds R h => by
  match ds, h with
  | [.int f, .int size, v], ⟨hf, hg, hd, ht, hR⟩ =>
    subst hf
    have hi := good_isIns hg
    simp [T_is_room, startD, hi]
    cases v with
    | tup xs =>
      simp at hg hd
      simp only [D.tyN, tyIs]
      simp
      refine lcLoop_plain (p := fun x => !isRowB size x) (f := fun x => x) (fun x hx k k2 h1 h2 => ?_) ?_
      · have a1 := good_mem hg hx
        have a2 := dep_mem hx
        simp [wipe', a1, show x.dep ≤ 60 by omega]
        cases h : isRowB size x <;> simp_all
      · have h1 : D.depL (xs.filter fun x => !isRowB size x) ≤ 63 := Nat.le_trans (depL_filter _) (by omega)
        simp only [List.nil_append, List.map_id', dNe_nil_l (goodL_filter _ hg) h1, ok_some, isB_bl, isEmpty_filter, Bool.not_not]
        by_cases hform : formB size (.tup xs) = true
        · obtain ⟨M, hv, hM⟩ := form_iff hform
          have hall : (xs.all fun x => isRowB size x) = true := hform
          have hv' : xs = M.map rowD := by simpa [roomD] using hv
          subst hv'
          rw [hall]
          simp only [Bool.not_true, Bool.false_eq_true, if_false]
          have hlen : M.length ≤ 1000 := by simpa [topOk] using ht
          have hR' : R (.bl (decide (∀ r ∈ M, PU.hd r < r.length) && rrB M)) := by
            have e : toM (D.tup (M.map rowD)) = M := toM_room M
            simpa [roomB, hform, e] using hR
          refine lcLoop_map (f := fun x => .int (headI (toR x))) (fun x hx k h1 => ?_) ?_
          · obtain ⟨r, hr, rfl⟩ := List.mem_map.mp hx
            simp [wipe']
            simpa using h1
          · simp [Function.comp_def]
            refine lcLoop_plain (p := fun x => match x with | .int i => decide (i < 0) | _ => false) (f := fun _ => .int 1) (fun x hx k k2 h1 h2 => ?_) ?_
            · obtain ⟨r, hr, rfl⟩ := List.mem_map.mp hx
              simp [wipe']
              split
              · rename_i hh; exact h1 (by simpa using hh)
              · rename_i hh; exact h2 (by simpa using hh)
            · have hgood : ∀ (ys : List D), D.goodL (ys.map fun _ => D.int 1) = true := fun ys => goodL_of fun x hx => by obtain ⟨_, _, rfl⟩ := List.mem_map.mp hx; rfl
              have hdep : ∀ (ys : List D), D.depL (ys.map fun _ => D.int 1) ≤ 63 := fun ys => depL_of fun x hx => by obtain ⟨_, _, rfl⟩ := List.mem_map.mp hx; simp
              simp only [List.nil_append, dEq_nil_l (hgood _) (hdep _), ok_some, isB_bl, List.isEmpty_map, isEmpty_filter]
              by_cases hh : ∀ r ∈ M, PU.hd r < r.length
              · have e : ((M.map fun r => D.int (headI r)).all fun x => !(match x with | .int i => decide (i < 0) | _ => false)) = true := by
                  rw [List.all_eq_true]
                  intro x hx
                  obtain ⟨r, hr, rfl⟩ := List.mem_map.mp hx
                  have := hh r hr
                  have h3 := headI_neg r
                  simp only [Bool.not_eq_true', decide_eq_false_iff_not]
                  rw [h3]; omega
                rw [e]
                simp only [if_true]
                rw [decide_eq_true hh, Bool.true_and] at hR'
                cases M with
                | nil => exact heads_ap (M := []) (n := 0) (fun r hr => by cases hr) (by simp) hR'
                | cons r0 M0 =>
                  refine heads_ap (n := r0.length) (fun r hr => ?_) hlen hR'
                  have h1 := hM r hr
                  have h2 := hM r0 (by simp)
                  have h3 := hh r hr
                  omega
              · have e : ((M.map fun r => D.int (headI r)).all fun x => !(match x with | .int i => decide (i < 0) | _ => false)) = false := by
                  rw [← Bool.not_eq_true, List.all_eq_true]
                  intro q
                  refine hh fun r hr => ?_
                  have := q (.int (headI r)) (List.mem_map_of_mem hr)
                  have h3 := headI_neg r
                  simp only [Bool.not_eq_true', decide_eq_false_iff_not] at this
                  rw [h3] at this
                  omega
                rw [e]
                rw [decide_eq_false hh, Bool.false_and] at hR'
                simpa using hR'
        · have hall : (xs.all fun x => isRowB size x) = false := by simpa [formB] using hform
          rw [hall]
          have : roomB size (.tup xs) = false := by simp [roomB, hform]
          rw [this] at hR
          simpa using hR
    | ins _ _ _ => simp at hg
    | _ => simpa [D.tyN, tyIs, roomB, formB] using hR
end PU
set_option Elab.async false
set_option linter.all false
set_option maxRecDepth 100000
set_option maxHeartbeats 4000000
/-! is_false, is_flat; the law's words over fractions -/
namespace PU
open PySem PySem.Spec PyProof.Rows L2

theorem atI_end {α : Type} {xs : List α} (h : xs ≠ []) : atI xs (-1) = some (xs.getLast h) := by
  have := atI_last xs.dropLast (xs.getLast h)
  rwa [List.dropLast_concat_getLast] at this
def falseB (M : List (List Rat)) : Bool := match M.getLast? with
  | some r => decide (headI r = (r.length : Int) - 1)
  | none => false
def S_is_false : Spec := fun ds R => ∃ M : List (List Rat), ds = [roomD M] ∧ R (.bl (falseB M))
theorem l_is_false : ∀ ds R, S_is_false ds R → ds.length = 1 := fun ds R ⟨_, h, _⟩ => by rw [h]; rfl
@[simp] theorem S_is_false_ap (M : List (List Rat)) (R : D → Prop) : S_is_false [roomD M] R = R (.bl (falseB M)) := by
  refine propext ⟨fun ⟨q, h, hR⟩ => ?_, fun h => ⟨M, rfl, h⟩⟩
  have : M = q := roomD_inj (by simpa using h)
  rw [this]; exact hR
def T_is_false : TS' := (sRet (xAndV (xOp dNe (xVar 0) (xTup xNil)) (xOp dEq (xCall S_head_of (xCons (xC (.int 0)) (xCons (xOp dIx (xVar 0) (xOp1 dNeg (xC (.int 1)))) xNil))) (xOp dSub (xOp1 dLen (xOp dIx (xVar 0) (xOp1 dNeg (xC (.int 1))))) (xC (.int 1))))))
theorem m_is_false : ∀ ds R, S_is_false ds R → T_is_false { nx := fun _ => R .non, rt := R } (startD 1 ds) := fun ds R h => by
  obtain ⟨M, rfl, hR⟩ := h
  have hd3 : D.depL (M.map rowD) ≤ 63 := Nat.le_trans (depL_row M) (by omega)
  simp only [T_is_false, startD]
  by_cases hM : M = []
  · subst hM
    have e0 : dNe (.tup []) (.tup []) = some (.bl false) := dNe_nil_t (xs := []) rfl (by simp)
    simpa [roomD, e0, falseB] using hR
  · have hne : M.map rowD ≠ [] := by simpa using hM
    have e : falseB M = decide (headI (M.getLast hM) = ((M.getLast hM).length : Int) - 1) := by simp [falseB, List.getLast?_eq_getLast hM]
    have e2 : (M.map rowD).getLast hne = rowD (M.getLast hM) := by rw [List.getLast_map]
    have e3 : (M.map rowD).isEmpty = false := by simpa using hM
    rw [e] at hR
    simp [roomD, dNe_nil_t (goodL_row M) hd3, e3, atI_end hne, e2]
    simp [rowD]
    exact hR
def flatB (size : Int) (v : D) : Bool := roomB (size + 1) v && !falseB (toM v)
def S_is_flat : Spec := fun ds R => match ds with
  | [.int size, v] => v.good = true ∧ v.dep ≤ 60 ∧ topOk v ∧ R (.bl (flatB size v))
  | _ => False
theorem l_is_flat : ∀ ds R, S_is_flat ds R → ds.length = 2 := fun ds R h => match ds, h with | [.int _, _], _ => rfl
@[simp] theorem S_is_flat_ap (size : Int) (v : D) (R : D → Prop) : S_is_flat [.int size, v] R = (v.good = true ∧ v.dep ≤ 60 ∧ topOk v ∧ R (.bl (flatB size v))) := rfl
def T_is_flat : TS' := (sRet (xAndV (xCall S_is_room (xCons (xC (.int 0)) (xCons (xOp dAdd (xVar 0) (xC (.int 1))) (xCons (xVar 1) xNil)))) (xNotV (xCall S_is_false (xCons (xVar 1) xNil)))))
theorem room_form {size : Int} {v : D} (h : roomB size v = true) : ∃ M, v = roomD M ∧ (∀ r ∈ M, (r.length : Int) = size) ∧ (∀ r ∈ M, hd r < r.length) ∧ AI M ∧ UN M := by
  simp only [roomB, Bool.and_eq_true, decide_eq_true_eq] at h
  obtain ⟨h1, h2, h3⟩ := h
  obtain ⟨M, rfl, hM⟩ := form_iff h1
  rw [toM_room] at h2 h3
  exact ⟨M, rfl, hM, h2, of_decide_eq_true h3⟩
theorem m_is_flat : ∀ ds R, S_is_flat ds R → T_is_flat { nx := fun _ => R .non, rt := R } (startD 2 ds) := fun ds R h => by
  match ds, h with
  | [.int size, v], ⟨hg, hd, ht, hR⟩ =>
    simp [T_is_flat, startD, hg, hd, ht]
    by_cases h : roomB (size + 1) v = true
    · obtain ⟨M, rfl, _⟩ := room_form h
      simpa [flatB, h] using hR
    · simp only [Bool.not_eq_true] at h
      simpa [flatB, h] using hR
end PU
set_option Elab.async false
set_option linter.all false
set_option maxRecDepth 100000
set_option maxHeartbeats 4000000
/-! the law's words over fractions -/
namespace PU
open PySem PySem.Spec PyProof.Rows L2

def S__law_divisor : Spec := fun ds R => match ds with
  | [.int a, .int b] => R (.int (Int.gcd a b))
  | _ => False
theorem l__law_divisor : ∀ ds R, S__law_divisor ds R → ds.length = 2 := fun ds R h => match ds, h with | [.int _, .int _], _ => rfl
@[simp] theorem S__law_divisor_ap (a b : Int) (R : D → Prop) : S__law_divisor [.int a, .int b] R = R (.int (Int.gcd a b)) := rfl
def T__law_divisor : TS' := (sSeq (sPar 0 1 (xOp1 dAbs (xVar 0)) (xOp1 dAbs (xVar 1)))
  (sSeq (sWhile (xB (xOp dNe (xVar 1) (xC (.int 0))))
   (sPar 0 1 (xVar 1) (xOp dMod (xOp1 dIntOf (xVar 0)) (xVar 1))))
  (sRet (xVar 0))))
theorem m__law_divisor : ∀ ds R, S__law_divisor ds R → T__law_divisor { nx := fun _ => R .non, rt := R } (startD 2 ds) := fun ds R h => by
  match ds, h with
  | [.int a, .int b], h =>
    simp [T__law_divisor, startD, abs_if]
    refine gcd_loop (fun a b R h => ?_) (fun a b D' hb h => ?_) b.natAbs a.natAbs ?_
    · simpa using h
    · simpa [dMod_nn a b hb] using h
    · simpa [Int.gcd] using h
/-! the one form of a fraction -/
theorem divInt_form {a b : Int} (hb : b ≠ 0) (s : Int) (hs : s = if b < 0 then 0 - (Int.gcd a b : Int) else (Int.gcd a b : Int)) : s ≠ 0 ∧ (Rat.divInt a b).num = a.fdiv s ∧ ((Rat.divInt a b).den : Int) = b.fdiv s := by
  have hg : (0 : Int) < Int.gcd a b := by
    have : 0 < Int.gcd a b := Int.gcd_pos_iff.mpr (.inr hb)
    omega
  obtain ⟨a', ha⟩ := Int.gcd_dvd_left a b
  obtain ⟨b', hb'⟩ := Int.gcd_dvd_right a b
  have hco : Int.gcd a' b' = 1 := by
    have h1 : Int.gcd a b = Int.gcd a b * Int.gcd a' b' := by
      have h2 := Int.gcd_mul_left (Int.gcd a b : Int) a' b'
      rw [← ha, ← hb'] at h2
      simpa using h2
    exact Nat.eq_of_mul_eq_mul_left (Nat.pos_of_ne_zero (by omega)) (by omega : Int.gcd a b * Int.gcd a' b' = Int.gcd a b * 1)
  have main : ∀ (e c d : Int), e ≠ 0 → a = e * c → b = e * d → 0 < d → Int.gcd c d = 1 → (Rat.divInt a b).num = a.fdiv e ∧ ((Rat.divInt a b).den : Int) = b.fdiv e := by
    rintro e c d he hc hd hp hcd
    obtain ⟨k, rfl⟩ := Int.eq_ofNat_of_zero_le (by omega : 0 ≤ d)
    have h1 : Rat.divInt a b = ⟨c, k, by omega, by simpa [Int.gcd, Nat.Coprime] using hcd⟩ := by
      rw [Rat.mk_eq_divInt, hc, hd, Rat.divInt_mul_left he]
    rw [h1, hc, hd, Int.mul_fdiv_cancel_left _ he, Int.mul_fdiv_cancel_left _ he]
    exact ⟨rfl, rfl⟩
  by_cases h : b < 0
  · rw [if_pos h] at hs
    have hn : b' < 0 := by
      rcases (by omega : b' < 0 ∨ 0 ≤ b') with q | q
      · exact q
      · have := Int.mul_nonneg (Int.le_of_lt hg) q
        omega
    refine ⟨by omega, main s (-a') (-b') (by omega) ?_ ?_ (by omega) (by simpa [Int.gcd] using hco)⟩
    · rw [hs, Int.zero_sub, Int.neg_mul_neg]; exact ha
    · rw [hs, Int.zero_sub, Int.neg_mul_neg]; exact hb'
  · rw [if_neg h] at hs
    have hn : 0 < b' := by
      rcases (by omega : 0 < b' ∨ b' ≤ 0) with q | q
      · exact q
      · have := Int.mul_nonpos_of_nonneg_of_nonpos (Int.le_of_lt hg) q
        omega
    exact ⟨by omega, main s a' b' (by omega) (by rw [hs]; exact ha) (by rw [hs]; exact hb') hn hco⟩
def S__law_fraction : Spec := fun ds R => match ds with
  | [.int a, .int b] => b ≠ 0 ∧ b.natAbs.log2 < 9000 ∧ R (frD (Rat.divInt a b))
  | _ => False
theorem l__law_fraction : ∀ ds R, S__law_fraction ds R → ds.length = 2 := fun ds R h => match ds, h with | [.int _, .int _], _ => rfl
@[simp] theorem S__law_fraction_ap (a b : Int) (R : D → Prop) : S__law_fraction [.int a, .int b] R = (b ≠ 0 ∧ b.natAbs.log2 < 9000 ∧ R (frD (Rat.divInt a b))) := rfl
theorem log2_mono {a b : Nat} (h : a ≤ b) (ha : a ≠ 0) : a.log2 ≤ b.log2 := by
  rw [Nat.le_log2 (by omega)]
  exact Nat.le_trans (Nat.log2_self_le ha) h
theorem dDiv_ok (i j : Int) (h : j ≠ 0) (h2 : j.natAbs.log2 < 9000) : dDiv (.int i) (.int j) = some (.int (i.fdiv j)) := by simp [dDiv, DivOk, h, h2]
def T__law_fraction : TS' := (sSeq (sAsg (xCall S__law_divisor (xCons (xVar 0) (xCons (xVar 1) xNil))) (gN 2))
  (sSeq (sAsg (xIf (xB (xOp dLt (xVar 1) (xC (.int 0)))) (xOp dSub (xC (.int 0)) (xVar 2)) (xVar 2)) (gN 2))
  (sRet (xTup (xCons (xOp1 dIntOf (xOp dDiv (xVar 0) (xVar 2))) (xCons (xOp1 dIntOf (xOp dDiv (xVar 1) (xVar 2))) xNil))))))
theorem m__law_fraction : ∀ ds R, S__law_fraction ds R → T__law_fraction { nx := fun _ => R .non, rt := R } (startD 3 ds) := fun ds R h => by
  match ds, h with
  | [.int a, .int b], ⟨hb, hl, hR⟩ =>
    simp [T__law_fraction, startD]
    have hle : (Int.gcd a b).log2 < 9000 := by
      have h1 : Int.gcd a b ≤ b.natAbs := Nat.le_of_dvd (by omega) (by have := Int.natAbs_dvd_natAbs.mpr (Int.gcd_dvd_right a b); simpa using this)
      have h2 : Int.gcd a b ≠ 0 := by have := Int.gcd_pos_iff.mpr (.inr hb : a ≠ 0 ∨ b ≠ 0); omega
      exact Nat.lt_of_le_of_lt (log2_mono h1 h2) hl
    by_cases h : b < 0
    · obtain ⟨h1, h2, h3⟩ := divInt_form (a := a) hb _ (if_pos h).symm
      have hl2 : (0 - (Int.gcd a b : Int)).natAbs.log2 < 9000 := by rw [show (0 - (Int.gcd a b : Int)).natAbs = Int.gcd a b by omega]; exact hle
      simp only [Int.zero_sub] at h1 h2 h3 hl2
      simp [h, dDiv_ok _ _ h1 hl2, ← h2, ← h3]
      exact hR
    · obtain ⟨h1, h2, h3⟩ := divInt_form (a := a) hb _ (if_neg h).symm
      have hl2 : ((Int.gcd a b : Int)).natAbs.log2 < 9000 := by simpa using hle
      simp [h, dDiv_ok _ _ h1 hl2, ← h2, ← h3]
      exact hR
end PU
set_option Elab.async false
set_option linter.all false
set_option maxRecDepth 100000
set_option maxHeartbeats 4000000
namespace PU
open PySem PySem.Spec PyProof.Rows L2

def S__law_zero : Spec := fun ds R => match ds with
  | [.int f] => f = 0 ∧ R (frD 0)
  | _ => False
theorem l__law_zero : ∀ ds R, S__law_zero ds R → ds.length = 1 := fun ds R h => match ds, h with | [.int _], _ => rfl
@[simp] theorem S__law_zero_ap (f : Int) (R : D → Prop) : S__law_zero [.int f] R = (f = 0 ∧ R (frD 0)) := rfl
def T__law_zero : TS' := (sRet (xIf (xB (xOp dEq (xVar 0) (xC (.int 0)))) (xTup (xCons (xC (.int 0)) (xCons (xC (.int 1)) xNil))) (xC (.int 0))))
theorem m__law_zero : ∀ ds R, S__law_zero ds R → T__law_zero { nx := fun _ => R .non, rt := R } (startD 1 ds) := fun ds R h => by
  match ds, h with
  | [.int f], ⟨hf, hR⟩ => subst hf; rw [fr_zero] at hR; simp [T__law_zero, startD, hR]
def S__law_one : Spec := fun ds R => match ds with
  | [.int f] => f = 0 ∧ R (frD 1)
  | _ => False
theorem l__law_one : ∀ ds R, S__law_one ds R → ds.length = 1 := fun ds R h => match ds, h with | [.int _], _ => rfl
@[simp] theorem S__law_one_ap (f : Int) (R : D → Prop) : S__law_one [.int f] R = (f = 0 ∧ R (frD 1)) := rfl
def T__law_one : TS' := (sRet (xIf (xB (xOp dEq (xVar 0) (xC (.int 0)))) (xTup (xCons (xC (.int 1)) (xCons (xC (.int 1)) xNil))) (xC (.int 1))))
theorem m__law_one : ∀ ds R, S__law_one ds R → T__law_one { nx := fun _ => R .non, rt := R } (startD 1 ds) := fun ds R h => by
  match ds, h with
  | [.int f], ⟨hf, hR⟩ => subst hf; rw [fr_one] at hR; simp [T__law_one, startD, hR]
/-! small fractions -/
def sm (q : Rat) : Prop := q.num.natAbs.log2 < 4000 ∧ q.den.log2 < 4000
theorem log2_lt {a n : Nat} (h : a < 2 ^ n) (hn : 0 < n) : a.log2 < n := by
  by_cases h0 : a = 0
  · subst h0; simpa using hn
  · exact (Nat.log2_lt h0).mpr h
theorem log2_mul_lt {a b m n : Nat} (ha : a.log2 < m) (hb : b.log2 < n) : (a * b).log2 < m + n := by
  have h1 : a < 2 ^ m := by
    by_cases h0 : a = 0
    · subst h0; exact Nat.pow_pos (by omega)
    · exact (Nat.log2_lt h0).mp ha
  have h2 : b < 2 ^ n := by
    by_cases h0 : b = 0
    · subst h0; exact Nat.pow_pos (by omega)
    · exact (Nat.log2_lt h0).mp hb
  refine log2_lt ?_ (by omega)
  rw [Nat.pow_add]
  exact Nat.mul_lt_mul'' h1 h2
theorem dMul_ok (i j : Int) (h : i.natAbs.log2 < 4000) (h2 : j.natAbs.log2 < 4000) : dMul (.int i) (.int j) = some (.int (i * j)) := by
  have : MulOk i j := by unfold MulOk; omega
  simp [dMul, this]
def S__law_plus : Spec := fun ds R => ∃ p q : Rat, ds = [.int 0, frD p, frD q] ∧ sm p ∧ sm q ∧ R (frD (p + q))
theorem l__law_plus : ∀ ds R, S__law_plus ds R → ds.length = 3 := fun ds R ⟨_, _, h, _⟩ => by rw [h]; rfl
@[simp] theorem S__law_plus_ap (p q : Rat) (R : D → Prop) : S__law_plus [.int 0, frD p, frD q] R = (sm p ∧ sm q ∧ R (frD (p + q))) := by
  refine propext ⟨fun ⟨p', q', h, hR⟩ => ?_, fun h => ⟨p, q, rfl, h⟩⟩
  simp at h
  rw [frD_inj h.1, frD_inj h.2]; exact hR
def T__law_plus : TS' := (sSeq (sIf (xB (xOp dGt (xVar 0) (xC (.int 0))))
   (sRet (xOp dMod (xOp1 dIntOf (xOp dAdd (xVar 1) (xVar 2))) (xVar 0)))
   sNext)
  (sRet (xCall S__law_fraction (xCons (xOp dAdd (xOp dMul (xOp dIx (xVar 1) (xC (.int 0))) (xOp dIx (xVar 2) (xC (.int 1)))) (xOp dMul (xOp dIx (xVar 2) (xC (.int 0))) (xOp dIx (xVar 1) (xC (.int 1))))) (xCons (xOp dMul (xOp dIx (xVar 1) (xC (.int 1))) (xOp dIx (xVar 2) (xC (.int 1)))) xNil)))))
theorem m__law_plus : ∀ ds R, S__law_plus ds R → T__law_plus { nx := fun _ => R .non, rt := R } (startD 3 ds) := fun ds R h => by
  obtain ⟨p, q, rfl, hp, hq, hR⟩ := h
  have e : Rat.divInt (p.num * q.den + q.num * p.den) (p.den * q.den) = p + q := by
    rw [Rat.add_def', ← Rat.divInt_ofNat]; simp
  have h1 : (p.den : Int) ≠ 0 := by have := p.den_pos; omega
  have h2 : (q.den : Int) ≠ 0 := by have := q.den_pos; omega
  have h3 : ((p.den : Int) * q.den).natAbs.log2 < 9000 := by
    have := log2_mul_lt hp.2 hq.2
    rw [Int.natAbs_mul]; simp; omega
  simp [T__law_plus, startD, frD, dMul_ok _ _ hp.1 (show ((q.den : Int)).natAbs.log2 < 4000 from hq.2), dMul_ok _ _ hq.1 (show ((p.den : Int)).natAbs.log2 < 4000 from hp.2), dMul_ok _ _ (show ((p.den : Int)).natAbs.log2 < 4000 from hp.2) (show ((q.den : Int)).natAbs.log2 < 4000 from hq.2)]
  refine ⟨⟨p.den_nz, q.den_nz⟩, h3, ?_⟩
  rw [e]; exact hR
def S__law_times : Spec := fun ds R => ∃ p q : Rat, ds = [.int 0, frD p, frD q] ∧ sm p ∧ sm q ∧ R (frD (p * q))
theorem l__law_times : ∀ ds R, S__law_times ds R → ds.length = 3 := fun ds R ⟨_, _, h, _⟩ => by rw [h]; rfl
@[simp] theorem S__law_times_ap (p q : Rat) (R : D → Prop) : S__law_times [.int 0, frD p, frD q] R = (sm p ∧ sm q ∧ R (frD (p * q))) := by
  refine propext ⟨fun ⟨p', q', h, hR⟩ => ?_, fun h => ⟨p, q, rfl, h⟩⟩
  simp at h
  rw [frD_inj h.1, frD_inj h.2]; exact hR
def T__law_times : TS' := (sSeq (sIf (xB (xOp dGt (xVar 0) (xC (.int 0))))
   (sRet (xOp dMod (xOp1 dIntOf (xOp dMul (xVar 1) (xVar 2))) (xVar 0)))
   sNext)
  (sRet (xCall S__law_fraction (xCons (xOp dMul (xOp dIx (xVar 1) (xC (.int 0))) (xOp dIx (xVar 2) (xC (.int 0)))) (xCons (xOp dMul (xOp dIx (xVar 1) (xC (.int 1))) (xOp dIx (xVar 2) (xC (.int 1)))) xNil)))))
theorem m__law_times : ∀ ds R, S__law_times ds R → T__law_times { nx := fun _ => R .non, rt := R } (startD 3 ds) := fun ds R h => by
  obtain ⟨p, q, rfl, hp, hq, hR⟩ := h
  have e : Rat.divInt (p.num * q.num) (p.den * q.den) = p * q := by
    rw [Rat.mul_def', ← Rat.divInt_ofNat]; simp
  have h3 : ((p.den : Int) * q.den).natAbs.log2 < 9000 := by
    have := log2_mul_lt hp.2 hq.2
    rw [Int.natAbs_mul]; simp; omega
  simp [T__law_times, startD, frD, dMul_ok _ _ hp.1 hq.1, dMul_ok _ _ (show ((p.den : Int)).natAbs.log2 < 4000 from hp.2) (show ((q.den : Int)).natAbs.log2 < 4000 from hq.2)]
  refine ⟨⟨p.den_nz, q.den_nz⟩, h3, ?_⟩
  rw [e]; exact hR
def S__law_less : Spec := fun ds R => ∃ q : Rat, ds = [.int 0, frD q] ∧ R (frD (-q))
theorem l__law_less : ∀ ds R, S__law_less ds R → ds.length = 2 := fun ds R ⟨_, h, _⟩ => by rw [h]; rfl
@[simp] theorem S__law_less_ap (q : Rat) (R : D → Prop) : S__law_less [.int 0, frD q] R = R (frD (-q)) := by
  refine propext ⟨fun ⟨q', h, hR⟩ => ?_, fun h => ⟨q, rfl, h⟩⟩
  simp at h
  rw [frD_inj h]; exact hR
def T__law_less : TS' := (sRet (xIf (xB (xOp dEq (xVar 0) (xC (.int 0)))) (xTup (xCons (xOp dSub (xC (.int 0)) (xOp dIx (xVar 1) (xC (.int 0)))) (xCons (xOp dIx (xVar 1) (xC (.int 1))) xNil))) (xOp dMod (xOp1 dIntOf (xOp dSub (xC (.int 0)) (xVar 1))) (xVar 0))))
theorem m__law_less : ∀ ds R, S__law_less ds R → T__law_less { nx := fun _ => R .non, rt := R } (startD 2 ds) := fun ds R h => by
  obtain ⟨q, rfl, hR⟩ := h
  simp [T__law_less, startD, frD]
  simpa [frD] using hR
def S__law_over : Spec := fun ds R => ∃ q : Rat, ds = [.int 0, frD q] ∧ q ≠ 0 ∧ sm q ∧ R (frD q⁻¹)
theorem l__law_over : ∀ ds R, S__law_over ds R → ds.length = 2 := fun ds R ⟨_, h, _⟩ => by rw [h]; rfl
@[simp] theorem S__law_over_ap (q : Rat) (R : D → Prop) : S__law_over [.int 0, frD q] R = (q ≠ 0 ∧ sm q ∧ R (frD q⁻¹)) := by
  refine propext ⟨fun ⟨q', h, hR⟩ => ?_, fun h => ⟨q, rfl, h⟩⟩
  simp at h
  rw [frD_inj h]; exact hR
def T__law_over : TS' := (sSeq (sIf (xB (xOp dEq (xVar 0) (xC (.int 0))))
   (sRet (xCall S__law_fraction (xCons (xOp dIx (xVar 1) (xC (.int 1))) (xCons (xOp dIx (xVar 1) (xC (.int 0))) xNil))))
   sNext)
  (sRet (xOp dIx (xLc (xRange2 (xC (.int 1)) (xVar 0)) (gN 2) (xB (xOp dEq (xOp dMod (xOp1 dIntOf (xOp dMul (xVar 2) (xVar 1))) (xVar 0)) (xC (.int 1)))) (xVar 2) [2]) (xC (.int 0)))))
theorem m__law_over : ∀ ds R, S__law_over ds R → T__law_over { nx := fun _ => R .non, rt := R } (startD 3 ds) := fun ds R h => by
  obtain ⟨q, rfl, hq, hs, hR⟩ := h
  simp [T__law_over, startD, frD]
  refine ⟨?_, ?_, ?_⟩
  · simpa [Rat.num_eq_zero] using hq
  · have := hs.1; omega
  · rw [Rat.inv_def] at hR; exact hR
end PU
set_option Elab.async false
set_option linter.all false
set_option maxRecDepth 100000
set_option maxHeartbeats 4000000
/-! rows of fractions: plain mathematics -/
namespace PU

abbrev Row := List Rat
def at0 (r : Row) (i : Nat) : Rat := r.getD i 0
def rplus (a b : Row) : Row := List.zipWith (· + ·) a b
def scal (n : Rat) (r : Row) : Row := r.map (n * ·)
def sub1 (r o : Row) : Row := rplus r (scal (-(at0 r (hd o))) o)
def restR (r : Row) (M : List Row) : Row := M.foldl sub1 r
def stepR (found : List Row) (row : Row) : List Row :=
  let r := restR row found
  if hd r < r.length then
    let s := scal (at0 r (hd r))⁻¹ r
    (found.map fun o => restR o [s]) ++ [s]
  else found
def roomR (rows : List Row) : List Row := rows.foldl stepR []
theorem rplus_len {a b : Row} (h : a.length = b.length) : (rplus a b).length = a.length := by simp [rplus, h]
@[simp] theorem scal_len (n : Rat) (r : Row) : (scal n r).length = r.length := by simp [scal]
theorem at_rplus {a b : Row} (h : a.length = b.length) (i : Nat) : at0 (rplus a b) i = at0 a i + at0 b i := by
  unfold rplus
  simp only [at0, List.getD_eq_getElem?_getD, List.getElem?_zipWith]
  by_cases hi : i < a.length
  · have hb : i < b.length := by omega
    simp [hi, hb]
  · have hb : ¬ i < b.length := by omega
    simp [List.getElem?_eq_none (by omega : a.length ≤ i), List.getElem?_eq_none (by omega : b.length ≤ i)]
    grind
theorem at_scal (n : Rat) (r : Row) (i : Nat) : at0 (scal n r) i = n * at0 r i := by
  simp only [at0, scal, List.getD_eq_getElem?_getD, List.getElem?_map]
  cases r[i]? <;> simp
theorem sub1_len {r o : Row} (h : r.length = o.length) : (sub1 r o).length = r.length := by
  unfold sub1; rw [rplus_len (by simpa using h)]
theorem at_sub1 {r o : Row} (h : r.length = o.length) (i : Nat) : at0 (sub1 r o) i = at0 r i - at0 r (hd o) * at0 o i := by
  unfold sub1; rw [at_rplus (by simpa using h), at_scal]; grind
theorem row_ext {a b : Row} (h : a.length = b.length) (e : ∀ i, i < a.length → at0 a i = at0 b i) : a = b := by
  apply List.ext_getElem h
  intro i h1 h2
  have := e i h1
  simpa [at0, h1, h2] using this
/-! heads -/
theorem hd_spec {r : Row} (h : hd r < r.length) : at0 r (hd r) ≠ 0 := by
  have := List.findIdx_getElem (xs := r) (p := fun x => decide (x ≠ 0)) (w := h)
  simp only [decide_eq_true_eq] at this
  have e : at0 r (hd r) = r[hd r] := by unfold at0; rw [List.getD_eq_getElem?_getD, List.getElem?_eq_getElem h]; rfl
  rw [e]; exact this
theorem hd_before {r : Row} {i : Nat} (h : i < hd r) : at0 r i = 0 := by
  have hl : i < r.length := Nat.lt_of_lt_of_le h (hd_le r)
  have := List.not_of_lt_findIdx (xs := r) (p := fun x => decide (x ≠ 0)) h
  simp only [decide_eq_true_eq, Decidable.not_not, Bool.not_eq_true, decide_eq_false_iff_not, ne_eq] at this
  simpa [at0, hl] using this
theorem hd_eq {r : Row} {h : Nat} (hn : at0 r h ≠ 0) (hb : ∀ i, i < h → at0 r i = 0) : hd r = h ∧ h < r.length := by
  have hl : h < r.length := by
    rcases Nat.lt_or_ge h r.length with q | q
    · exact q
    · exact absurd (by simp [at0, q]) hn
  have h1 : ¬ hd r < h := fun z => by
    have hlt : hd r < r.length := by omega
    exact hd_spec hlt (hb _ z)
  have h2 : ¬ h < hd r := fun z => hn (hd_before z)
  exact ⟨by omega, hl⟩
theorem hd_none {r : Row} (h : ¬ hd r < r.length) (i : Nat) : at0 r i = 0 := by
  rcases Nat.lt_or_ge i r.length with q | q
  · exact hd_before (by have := hd_le r; omega)
  · simp [at0, q]
/-! rows in the one form -/
structure Good (n : Nat) (r : Row) : Prop where
  len : r.length = n
  lt : hd r < n
  one : at0 r (hd r) = 1
def Apart (a b : Row) : Prop := at0 a (hd b) = 0 ∧ at0 b (hd a) = 0
structure RFm (n : Nat) (M : List Row) : Prop where
  good : ∀ r ∈ M, Good n r
  apart : M.Pairwise Apart
theorem RFm.nil {n : Nat} : RFm n [] := ⟨fun _ h => (by cases h), .nil⟩
theorem rest_len {n : Nat} : ∀ {M : List Row} {r : Row}, r.length = n → (∀ o ∈ M, o.length = n) → (restR r M).length = n
  | [], r, h, _ => h
  | o :: M, r, h, hM => by
    unfold restR
    rw [List.foldl_cons]
    exact rest_len (by rw [sub1_len (by rw [h, hM o (by simp)])]; exact h) fun q hq => hM q (by simp [hq])
/-- at a place where all of M stand at 0, nothing is changed -/
theorem rest_at_zero {n : Nat} {j : Nat} : ∀ {M : List Row} {r : Row}, r.length = n → (∀ o ∈ M, o.length = n) → (∀ o ∈ M, at0 o j = 0) → at0 (restR r M) j = at0 r j
  | [], r, _, _, _ => rfl
  | o :: M, r, h, hM, hz => by
    unfold restR
    rw [List.foldl_cons]
    have hl : r.length = o.length := by rw [h, hM o (by simp)]
    have := rest_at_zero (M := M) (j := j) (n := n) (r := sub1 r o) (by rw [sub1_len hl]; exact h) (fun q hq => hM q (by simp [hq])) fun q hq => hz q (by simp [hq])
    unfold restR at this
    rw [this, at_sub1 hl, hz o (by simp)]; grind
theorem rest_at_head {n : Nat} : ∀ {M : List Row} {r : Row}, r.length = n → RFm n M → ∀ o ∈ M, at0 (restR r M) (hd o) = 0
  | p :: M, r, h, hR, o, ho => by
    unfold restR
    rw [List.foldl_cons]
    have hp := hR.good p (by simp)
    have hl : r.length = p.length := by rw [h, hp.len]
    have hl2 : (sub1 r p).length = n := by rw [sub1_len hl]; exact h
    have hap := List.pairwise_cons.mp hR.apart
    have hR2 : RFm n M := ⟨fun q hq => hR.good q (by simp [hq]), hap.2⟩
    rcases List.mem_cons.mp ho with rfl | ho
    · have := rest_at_zero (M := M) (j := hd o) (n := n) hl2 (fun q hq => (hR2.good q hq).len) fun q hq => (hap.1 q hq).2
      unfold restR at this
      rw [this, at_sub1 hl, hp.one]; grind
    · exact rest_at_head hl2 hR2 o ho
theorem rest_one (o s : Row) : restR o [s] = sub1 o s := rfl
theorem step_RFm {n : Nat} {M : List Row} {row : Row} (hR : RFm n M) (h : row.length = n) : RFm n (stepR M row) := by
  unfold stepR
  dsimp only
  have hl := rest_len h fun o ho => (hR.good o ho).len
  generalize hr : restR row M = r at hl
  have hz : ∀ o ∈ M, at0 r (hd o) = 0 := by rw [← hr]; exact rest_at_head h hR
  split
  · rename_i hlt
    have hne := hd_spec hlt
    have s_at : ∀ i, at0 (scal (at0 r (hd r))⁻¹ r) i = (at0 r (hd r))⁻¹ * at0 r i := fun i => at_scal _ _ _
    generalize hs : scal (at0 r (hd r))⁻¹ r = s at s_at
    have s_len : s.length = n := by rw [← hs]; simpa using hl
    have s_one : at0 s (hd r) = 1 := by rw [s_at]; exact Rat.inv_mul_cancel _ hne
    have s_before : ∀ i, i < hd r → at0 s i = 0 := fun i hi => by rw [s_at, hd_before hi]; grind
    have s_hd : hd s = hd r := (hd_eq (by rw [s_one]; decide) s_before).1
    have s_z : ∀ o ∈ M, at0 s (hd o) = 0 := fun o ho => by rw [s_at, hz o ho]; grind
    have o_at : ∀ o ∈ M, ∀ i, at0 (sub1 o s) i = at0 o i - at0 o (hd r) * at0 s i := fun o ho i => by rw [at_sub1 (by rw [(hR.good o ho).len, s_len]), s_hd]
    have o_hd : ∀ o ∈ M, hd (sub1 o s) = hd o ∧ at0 (sub1 o s) (hd o) = 1 := fun o ho => by
      have g := hR.good o ho
      have e1 : at0 (sub1 o s) (hd o) = 1 := by rw [o_at o ho, s_z o ho, g.one]; grind
      refine ⟨(hd_eq (by rw [e1]; decide) fun i hi => ?_).1, e1⟩
      rw [o_at o ho, hd_before hi]
      rcases Nat.lt_trichotomy (hd r) (hd o) with q | q | q
      · rw [hd_before q]; grind
      · exact absurd (hz o ho) (by rw [← q]; exact hne)
      · rw [s_before i (by omega)]; grind
    constructor
    · intro q hq
      rcases List.mem_append.mp hq with hq | hq
      · obtain ⟨o, ho, rfl⟩ := List.mem_map.mp hq
        rw [rest_one]
        obtain ⟨e1, e2⟩ := o_hd o ho
        exact ⟨by rw [sub1_len (by rw [(hR.good o ho).len, s_len])]; exact (hR.good o ho).len, by rw [e1]; exact (hR.good o ho).lt, by rw [e1]; exact e2⟩
      · rw [List.mem_singleton.mp hq]
        exact ⟨s_len, by rw [s_hd]; omega, by rw [s_hd]; exact s_one⟩
    · rw [List.pairwise_append]
      refine ⟨?_, by simp, fun a ha b hb => ?_⟩
      · rw [List.pairwise_map]
        refine List.Pairwise.imp_of_mem (fun {a b} ha hb hab => ?_) hR.apart
        simp only [rest_one]
        constructor
        · rw [(o_hd b hb).1, o_at a ha, hab.1, s_z b hb]; grind
        · rw [(o_hd a ha).1, o_at b hb, hab.2, s_z a ha]; grind
      · rw [List.mem_singleton.mp hb]
        obtain ⟨o, ho, rfl⟩ := List.mem_map.mp ha
        rw [rest_one]
        constructor
        · rw [s_hd, o_at o ho, s_one]; grind
        · rw [(o_hd o ho).1]; exact s_z o ho
  · exact hR
theorem fold_RFm {n : Nat} : ∀ {rows M : List Row}, RFm n M → (∀ r ∈ rows, r.length = n) → RFm n (rows.foldl stepR M)
  | [], M, h, _ => h
  | r :: rows, M, h, hr => by
    rw [List.foldl_cons]
    exact fold_RFm (step_RFm h (hr r (by simp))) fun q hq => hr q (by simp [hq])
theorem room_RFm {n : Nat} {rows : List Row} (h : ∀ r ∈ rows, r.length = n) : RFm n (roomR rows) := fold_RFm .nil h
end PU
set_option Elab.async false
set_option linter.all false
set_option maxRecDepth 100000
set_option maxHeartbeats 4000000
/-! heights of the fractions met on the way to the one form -/
namespace PU

def RestOk : Row → List Row → Prop
  | _, [] => True
  | r, o :: M => hd o < o.length ∧ o.length = r.length ∧ (∀ x ∈ r, sm x) ∧ (∀ x ∈ o, sm x) ∧ (∀ x ∈ o, sm (-(at0 r (hd o)) * x)) ∧ RestOk (sub1 r o) M
def StepOk (M : List Row) (row : Row) : Prop := (∀ o ∈ M, o.length = row.length) ∧ RestOk row M ∧ (hd (restR row M) < (restR row M).length → sm (at0 (restR row M) (hd (restR row M))) ∧ sm (at0 (restR row M) (hd (restR row M)))⁻¹ ∧ (∀ x ∈ restR row M, sm x) ∧
  ∀ o ∈ M, RestOk o [scal (at0 (restR row M) (hd (restR row M)))⁻¹ (restR row M)])
def RoomOk : List Row → List Row → Prop
  | [], _ => True
  | r :: rows, M => StepOk M r ∧ RoomOk rows (stepR M r)
/-- x times p is whole, of at most B -/
def Ht (B p : Nat) (x : Rat) : Prop := ∃ u : Int, x * (p : Rat) = (u : Rat) ∧ u.natAbs ≤ B
theorem ht_zero (B p : Nat) : Ht B p 0 := ⟨0, by grind, by simp⟩
theorem ht_mono {B B' p : Nat} {x : Rat} (h : Ht B p x) (hb : B ≤ B') : Ht B' p x := let ⟨u, a, b⟩ := h; ⟨u, a, Nat.le_trans b hb⟩
theorem cast_ne {p : Nat} (h : p ≠ 0) : (p : Rat) ≠ 0 := by
  intro z
  exact h (by exact_mod_cast z)
theorem ht_num {B p : Nat} {x : Rat} (hp : p ≠ 0) (h : Ht B p x) : x.num.natAbs ≤ B ∧ x.den ≤ p := by
  obtain ⟨u, hu, hB⟩ := h
  have hp' := cast_ne hp
  have hx : x = Rat.divInt u p := by
    have h2 : Rat.divInt u p * (p : Rat) = u := by
      have : Rat.divInt u (p : Int) = (u : Rat) / (p : Rat) := by
        rw [Rat.divInt_eq_div, Rat.intCast_natCast]
      rw [this]; grind
    grind
  have he : x.num * (p : Int) = u * x.den := by
    have h3 : Rat.divInt x.num x.den = Rat.divInt u p := by rw [Rat.num_divInt_den]; exact hx
    exact (Rat.divInt_eq_divInt_iff (by have := x.den_pos; omega) (by omega)).mp h3
  have hd : x.den ∣ x.num.natAbs * p := by
    have := congrArg Int.natAbs he
    rw [Int.natAbs_mul, Int.natAbs_mul] at this
    simp at this
    exact ⟨u.natAbs, by rw [this]; exact Nat.mul_comm _ _⟩
  have hdp : x.den ∣ p := (Nat.Coprime.symm x.reduced).dvd_of_dvd_mul_left hd
  obtain ⟨k, hk⟩ := hdp
  have hkp : k ≠ 0 := fun z => hp (by rw [hk, z]; simp)
  refine ⟨?_, Nat.le_of_dvd (Nat.pos_of_ne_zero hp) ⟨k, hk⟩⟩
  have h4 := congrArg Int.natAbs he
  rw [Int.natAbs_mul, Int.natAbs_mul] at h4
  simp at h4
  have h5 : x.num.natAbs * k = u.natAbs := by
    have : x.den * (x.num.natAbs * k) = x.den * u.natAbs := by
      rw [Nat.mul_comm x.den u.natAbs, ← h4]
      calc x.den * (x.num.natAbs * k) = x.num.natAbs * (x.den * k) := by rw [Nat.mul_left_comm]
        _ = x.num.natAbs * p := by rw [← hk]
    exact Nat.eq_of_mul_eq_mul_left x.den_pos this
  calc x.num.natAbs ≤ x.num.natAbs * k := Nat.le_mul_of_pos_right _ (Nat.pos_of_ne_zero hkp)
    _ = u.natAbs := h5
    _ ≤ B := hB
def Cap (B : Nat) : Prop := B < 2 ^ 4000
theorem Cap.mono {B C : Nat} (h : Cap C) (hb : B ≤ C) : Cap B := Nat.lt_of_le_of_lt hb h
theorem ht_sm {B p : Nat} {x : Rat} (hp : p ≠ 0) (hpB : Cap p) (hB : Cap B) (h : Ht B p x) : sm x := by
  obtain ⟨h1, h2⟩ := ht_num hp h
  exact ⟨log2_lt (Nat.lt_of_le_of_lt h1 hB) (by decide), log2_lt (Nat.lt_of_le_of_lt h2 hpB) (by decide)⟩
theorem ht_sub {B C p : Nat} {x y : Rat} (h1 : Ht B p x) (h2 : Ht C p y) : Ht (B + C) p (x - y) := by
  obtain ⟨u, a, b⟩ := h1
  obtain ⟨v, c, d⟩ := h2
  refine ⟨u - v, ?_, by omega⟩
  rw [Rat.intCast_sub, ← a, ← c]; grind
theorem ht_mul {B C p q : Nat} {x y : Rat} (h1 : Ht B p x) (h2 : Ht C q y) : Ht (B * C) (p * q) (x * y) := by
  obtain ⟨u, a, b⟩ := h1
  obtain ⟨v, c, d⟩ := h2
  refine ⟨u * v, ?_, by rw [Int.natAbs_mul]; exact Nat.mul_le_mul b d⟩
  rw [Rat.intCast_mul, ← a, ← c, Rat.natCast_mul]; grind
theorem ht_neg {B p : Nat} {x : Rat} (h : Ht B p x) : Ht B p (-x) := by
  obtain ⟨u, a, b⟩ := h
  refine ⟨-u, ?_, by omega⟩
  rw [Rat.intCast_neg, ← a]; grind
theorem ht_left {B p : Nat} (q : Nat) {x : Rat} (h : Ht B p x) : Ht (B * q) (p * q) x := by
  obtain ⟨u, a, b⟩ := h
  refine ⟨u * q, ?_, by rw [Int.natAbs_mul]; simpa using Nat.mul_le_mul b (Nat.le_refl q)⟩
  rw [Rat.intCast_mul, ← a, Rat.natCast_mul, Rat.intCast_natCast]; grind
theorem ht_right {B p : Nat} (q : Nat) {x : Rat} (h : Ht B p x) : Ht (q * B) (q * p) x := by
  have := ht_left q h
  rwa [Nat.mul_comm B q, Nat.mul_comm p q] at this
theorem mem_at {r : Row} {x : Rat} (h : x ∈ r) : ∃ i, i < r.length ∧ at0 r i = x := by
  obtain ⟨i, hi, e⟩ := List.getElem_of_mem h
  exact ⟨i, hi, by simp [at0, hi, e]⟩
/-- a row brought down by M, all over one denominator each -/
theorem rest_ht {n q p B0 B : Nat} (hq : q ≠ 0) (hp : p ≠ 0) (hpB : p ≤ B) (hqB : q ≤ B0) (hB0 : 1 ≤ B0) : ∀ {M : List Row} {r : Row} (k : Nat), RFm n M → r.length = n → (∀ i, Ht ((k + 1) * B0 * B) (q * p) (at0 r i)) → (∀ o ∈ M, Ht B0 q (at0 r (hd o))) → (∀ o ∈ M, ∀ i, Ht B p (at0 o i)) →
    Cap ((k + M.length + 1) * B0 * B) → RestOk r M ∧ ∀ i, Ht ((k + M.length + 1) * B0 * B) (q * p) (at0 (restR r M) i)
  | [], r, k, hR, hl, h1, h2, h3, hc => ⟨trivial, by simpa [restR] using h1⟩
  | o :: M, r, k, hR, hl, h1, h2, h3, hc => by
    have hB : 1 ≤ B := Nat.le_trans (Nat.pos_of_ne_zero hp) hpB
    have go := hR.good o (by simp)
    have hlo : r.length = o.length := by rw [hl, go.len]
    have hap := List.pairwise_cons.mp hR.apart
    have hR2 : RFm n M := ⟨fun q hq => hR.good q (by simp [hq]), hap.2⟩
    have hprod : ∀ i, Ht (B0 * B) (q * p) (at0 r (hd o) * at0 o i) := fun i => ht_mul (h2 o (by simp)) (h3 o (by simp) i)
    have hB0B : B0 * B ≤ (k + (o :: M).length + 1) * B0 * B := by
      rw [Nat.mul_assoc]; exact Nat.le_mul_of_pos_left _ (by omega)
    have hk1 : (k + 1) * B0 * B ≤ (k + (o :: M).length + 1) * B0 * B := Nat.mul_le_mul_right _ (Nat.mul_le_mul_right _ (by simp))
    have hqp : q * p ≠ 0 := Nat.mul_ne_zero hq hp
    have hcqp : Cap (q * p) := hc.mono (Nat.le_trans (Nat.mul_le_mul hqB hpB) hB0B)
    have hBc : Cap B := hc.mono (Nat.le_trans (Nat.le_mul_of_pos_left B hB0) hB0B)
    have hnew : ∀ i, Ht ((k + 1 + 1) * B0 * B) (q * p) (at0 (sub1 r o) i) := fun i => by
      rw [at_sub1 hlo]
      refine ht_mono (ht_sub (h1 i) (hprod i)) ?_
      rw [Nat.mul_assoc, Nat.mul_assoc, Nat.add_mul (k + 1) 1, Nat.one_mul]; exact Nat.le_refl _
    have hheads : ∀ o' ∈ M, Ht B0 q (at0 (sub1 r o) (hd o')) := fun o' ho' => by
      rw [at_sub1 hlo, (hap.1 o' ho').1, show at0 r (hd o') - at0 r (hd o) * 0 = at0 r (hd o') by grind]
      exact h2 o' (by simp [ho'])
    have hlen : k + (o :: M).length + 1 = k + 1 + M.length + 1 := by simp; omega
    rw [hlen] at hc hB0B hk1 ⊢
    obtain ⟨i1, i2⟩ := rest_ht hq hp hpB hqB hB0 (M := M) (r := sub1 r o) (k + 1) hR2 (by rw [sub1_len hlo]; exact hl) hnew hheads (fun q hq => h3 q (by simp [hq])) hc
    refine ⟨⟨by rw [go.len]; exact go.lt, hlo.symm, fun x hx => ?_, fun x hx => ?_, fun x hx => ?_, i1⟩, i2⟩
    · obtain ⟨i, _, rfl⟩ := mem_at hx
      exact ht_sm hqp hcqp (hc.mono hk1) (h1 i)
    · obtain ⟨i, _, rfl⟩ := mem_at hx
      exact ht_sm hp (hBc.mono hpB) hBc (h3 o (by simp) i)
    · obtain ⟨i, _, rfl⟩ := mem_at hx
      have e : -(at0 r (hd o)) * at0 o i = -(at0 r (hd o) * at0 o i) := by grind
      rw [e]
      exact ht_sm hqp hcqp (hc.mono hB0B) (ht_neg (hprod i))
def gr (B0 : Nat) : Nat → Nat
  | 0 => 1
  | m + 1 => 2 * (m + 1) * B0 * (gr B0 m * gr B0 m)
theorem gr_pos {B0 : Nat} (h : 1 ≤ B0) : ∀ m, 1 ≤ gr B0 m
  | 0 => Nat.le_refl _
  | m + 1 => by
    have := gr_pos h m
    unfold gr
    exact Nat.mul_pos (Nat.mul_pos (by omega) h) (Nat.mul_pos this this)
theorem gr_le {B0 : Nat} (h : 1 ≤ B0) (m : Nat) : gr B0 m ≤ gr B0 (m + 1) := by
  have := gr_pos h m
  conv => rhs; unfold gr
  calc gr B0 m ≤ gr B0 m * gr B0 m := Nat.le_mul_of_pos_left _ this
    _ ≤ _ := Nat.le_mul_of_pos_left _ (Nat.mul_pos (by omega) h)
theorem gr_mono {B0 : Nat} (h : 1 ≤ B0) {m k : Nat} (hk : m ≤ k) : gr B0 m ≤ gr B0 k := by
  induction hk with
  | refl => exact Nat.le_refl _
  | step _ ih => exact Nat.le_trans ih (gr_le h _)
/-- all of M over one denominator -/
def HtM (B : Nat) (M : List Row) : Prop := ∃ p : Nat, p ≠ 0 ∧ p ≤ B ∧ ∀ o ∈ M, ∀ i, Ht B p (at0 o i)
theorem abs_of (u : Int) : ∃ s : Int, (s = 1 ∨ s = -1) ∧ (u.natAbs : Int) = s * u := by
  rcases (by omega : 0 ≤ u ∨ u < 0) with h | h
  · exact ⟨1, .inl rfl, by omega⟩
  · exact ⟨-1, .inr rfl, by omega⟩
theorem step_ht {n B0 : Nat} {M : List Row} {row : Row} (hB0 : 1 ≤ B0) (hR : RFm n M) (hl : row.length = n) (hrow : HtM B0 [row]) (hM : HtM (gr B0 M.length) M) (hc : Cap (gr B0 (M.length + 1))) :
    StepOk M row ∧ HtM (gr B0 (stepR M row).length) (stepR M row) ∧ (stepR M row).length ≤ M.length + 1 := by
  obtain ⟨q, hq, hqB, h1⟩ := hrow
  obtain ⟨p, hp, hpB, h2⟩ := hM
  have hB := gr_pos hB0 M.length
  generalize hBe : gr B0 M.length = B at *
  have hgr : gr B0 (M.length + 1) = 2 * (M.length + 1) * B0 * (B * B) := by rw [← hBe]; rfl
  rw [hgr] at hc
  have hb1 : (M.length + 1) * B0 * B ≤ 2 * (M.length + 1) * B0 * (B * B) := by
    calc (M.length + 1) * B0 * B ≤ (M.length + 1) * B0 * (B * B) := Nat.mul_le_mul_left _ (Nat.le_mul_of_pos_left _ hB)
      _ ≤ 2 * ((M.length + 1) * B0 * (B * B)) := Nat.le_mul_of_pos_left _ (by omega)
      _ = _ := by rw [Nat.mul_assoc 2, Nat.mul_assoc 2]
  have hrow1 : ∀ i, Ht ((0 + 1) * B0 * B) (q * p) (at0 row i) := fun i => by
    rw [Nat.zero_add, Nat.one_mul]
    exact ht_mono (ht_left p (h1 row (by simp) i)) (Nat.mul_le_mul_left _ hpB)
  obtain ⟨ok1, hr⟩ := rest_ht hq hp hpB hqB hB0 (M := M) (r := row) 0 hR hl hrow1 (fun o ho => h1 row (by simp) _) h2 (hc.mono (by rw [Nat.zero_add]; exact hb1))
  rw [Nat.zero_add] at hr
  have hlen := rest_len hl fun o ho => (hR.good o ho).len
  have hz : ∀ o ∈ M, at0 (restR row M) (hd o) = 0 := rest_at_head hl hR
  have hqp : q * p ≠ 0 := Nat.mul_ne_zero hq hp
  have hqpB : q * p ≤ (M.length + 1) * B0 * B := by
    rw [Nat.mul_assoc]
    exact Nat.le_trans (Nat.mul_le_mul hqB hpB) (Nat.le_mul_of_pos_left _ (by omega))
  have hcB1 : Cap ((M.length + 1) * B0 * B) := hc.mono hb1
  have lens : ∀ o ∈ M, o.length = row.length := fun o ho => by rw [hl, (hR.good o ho).len]
  unfold StepOk stepR
  dsimp only
  generalize restR row M = r at hr hlen hz ok1
  generalize hB1 : (M.length + 1) * B0 * B = B1 at *
  have h2BB1 : 2 * (M.length + 1) * B0 * (B * B) = 2 * (B * B1) := by
    rw [← hB1, Nat.mul_assoc 2, Nat.mul_assoc 2]
    congr 1
    rw [← Nat.mul_assoc, Nat.mul_comm B]
  rw [h2BB1] at hc hb1
  by_cases hlt : hd r < r.length
  · rw [if_pos hlt]
    have hne := hd_spec hlt
    obtain ⟨w, hw, hwB⟩ := hr (hd r)
    have hw0 : w ≠ 0 := fun z => by
      rw [z] at hw
      have := cast_ne hqp
      have h0 : at0 r (hd r) = 0 := by
        have : at0 r (hd r) * ((q * p : Nat) : Rat) = 0 := by rw [hw]; rfl
        grind
      exact hne h0
    obtain ⟨sg, hsg, hab⟩ := abs_of w
    have hW : w.natAbs ≠ 0 := by omega
    have habq : (w.natAbs : Rat) = (sg : Rat) * (w : Rat) := by rw [← Rat.intCast_natCast, hab, Rat.intCast_mul]
    have inv_ht : Ht B1 w.natAbs (at0 r (hd r))⁻¹ := by
      refine ⟨sg * ((q * p : Nat) : Int), ?_, ?_⟩
      · rw [habq, Rat.intCast_mul, Rat.intCast_natCast, ← hw]
        have := Rat.inv_mul_cancel _ hne
        grind
      · rw [Int.natAbs_mul]
        have e : ((q * p : Nat) : Int).natAbs = q * p := Int.natAbs_natCast _
        rw [e]
        rcases hsg with rfl | rfl <;> simpa using hqpB
    have s_at : ∀ i, at0 (scal (at0 r (hd r))⁻¹ r) i = (at0 r (hd r))⁻¹ * at0 r i := fun i => at_scal _ _ _
    have s_ht : ∀ i, Ht B1 w.natAbs (at0 (scal (at0 r (hd r))⁻¹ r) i) := fun i => by
      obtain ⟨u, hu, huB⟩ := hr i
      refine ⟨sg * u, ?_, ?_⟩
      · rw [s_at, habq, Rat.intCast_mul, ← hw, ← hu]
        have := Rat.inv_mul_cancel _ hne
        grind
      · rw [Int.natAbs_mul]
        rcases hsg with rfl | rfl <;> simpa using huB
    have s_before : ∀ i, i < hd r → at0 (scal (at0 r (hd r))⁻¹ r) i = 0 := fun i hi => by rw [s_at, hd_before hi]; grind
    have s_one : at0 (scal (at0 r (hd r))⁻¹ r) (hd r) = 1 := by rw [s_at]; exact Rat.inv_mul_cancel _ hne
    have s_hd : hd (scal (at0 r (hd r))⁻¹ r) = hd r := (hd_eq (by rw [s_one]; decide) s_before).1
    have s_len : (scal (at0 r (hd r))⁻¹ r).length = n := by simpa using hlen
    generalize scal (at0 r (hd r))⁻¹ r = s at s_at s_ht s_before s_one s_hd s_len
    have hpW : p * w.natAbs ≠ 0 := Nat.mul_ne_zero hp hW
    have hBB1 : B * B1 ≤ 2 * (B * B1) := Nat.le_mul_of_pos_left _ (by omega)
    have hpWB : p * w.natAbs ≤ B * B1 := Nat.mul_le_mul hpB hwB
    have hcB : Cap B := hc.mono (Nat.le_trans (Nat.le_mul_of_pos_right B (by
      have : 0 < w.natAbs := by omega
      omega)) hBB1)
    have o_prod : ∀ o ∈ M, ∀ i, Ht (B * B1) (p * w.natAbs) (at0 o (hd r) * at0 s i) := fun o ho i => ht_mul (h2 o ho _) (s_ht i)
    refine ⟨⟨lens, ok1, fun _ => ⟨ht_sm hqp (hcB1.mono hqpB) hcB1 ⟨w, hw, hwB⟩, ht_sm hW (hcB1.mono hwB) hcB1 inv_ht, fun x hx => ?_, fun o ho => ?_⟩⟩, ?_, by simp⟩
    · obtain ⟨i, _, rfl⟩ := mem_at hx
      exact ht_sm hqp (hcB1.mono hqpB) hcB1 (hr i)
    · refine ⟨by rw [s_hd, s_len]; omega, by rw [s_len, (hR.good o ho).len], fun x hx => ?_, fun x hx => ?_, fun x hx => ?_, trivial⟩
      · obtain ⟨i, _, rfl⟩ := mem_at hx
        exact ht_sm hp (hcB.mono hpB) hcB (h2 o ho i)
      · obtain ⟨i, _, rfl⟩ := mem_at hx
        exact ht_sm hW (hcB1.mono hwB) hcB1 (s_ht i)
      · obtain ⟨i, _, rfl⟩ := mem_at hx
        rw [s_hd, show -(at0 o (hd r)) * at0 s i = -(at0 o (hd r) * at0 s i) by grind]
        exact ht_sm hpW (hc.mono (Nat.le_trans hpWB hBB1)) (hc.mono hBB1) (ht_neg (o_prod o ho i))
    · have hll : ((M.map fun o => restR o [s]) ++ [s]).length = M.length + 1 := by simp
      rw [hll, hgr, h2BB1]
      refine ⟨p * w.natAbs, hpW, Nat.le_trans hpWB hBB1, fun o ho i => ?_⟩
      rcases List.mem_append.mp ho with ho | ho
      · obtain ⟨o, ho2, rfl⟩ := List.mem_map.mp ho
        clear ho
        rw [rest_one, at_sub1 (by rw [(hR.good o ho2).len, s_len]), s_hd]
        refine ht_mono (ht_sub (ht_left w.natAbs (h2 o ho2 i)) (o_prod o ho2 i)) ?_
        have := Nat.mul_le_mul_left B hwB
        omega
      · rw [List.mem_singleton.mp ho]
        refine ht_mono (ht_right p (s_ht i)) ?_
        have := Nat.mul_le_mul_right B1 hpB
        omega
  · rw [if_neg hlt]
    rw [hBe]
    exact ⟨⟨lens, ok1, fun z => absurd z hlt⟩, ⟨p, hp, hpB, h2⟩, by omega⟩
theorem room_ok {n B0 K : Nat} (hB0 : 1 ≤ B0) (hc : Cap (gr B0 K)) : ∀ {rows M : List Row}, RFm n M → (∀ r ∈ rows, r.length = n ∧ HtM B0 [r]) → HtM (gr B0 M.length) M → M.length + rows.length ≤ K → RoomOk rows M ∧ HtM (gr B0 (rows.foldl stepR M).length) (rows.foldl stepR M) ∧ (rows.foldl stepR M).length ≤ K
  | [], M, _, _, h, hk => ⟨trivial, h, by simpa using hk⟩
  | r :: rows, M, hR, hr, hM, hk => by
    have h0 := hr r (by simp)
    simp only [List.length_cons] at hk
    obtain ⟨s1, s2, s3⟩ := step_ht hB0 hR h0.1 h0.2 hM (hc.mono (gr_mono hB0 (by omega)))
    obtain ⟨t1, t2, t3⟩ := room_ok hB0 hc (rows := rows) (step_RFm hR h0.1) (fun q hq => hr q (by simp [hq])) s2 (by omega)
    exact ⟨⟨s1, t1⟩, t2, t3⟩
theorem room_ok0 {n B0 : Nat} {rows : List Row} (hB0 : 1 ≤ B0) (hr : ∀ r ∈ rows, r.length = n ∧ HtM B0 [r]) (hc : Cap (gr B0 rows.length)) : RoomOk rows [] ∧ HtM (gr B0 rows.length) (roomR rows) := by
  obtain ⟨a, ⟨p, p1, p2, p3⟩, c⟩ := room_ok (n := n) hB0 hc (rows := rows) (M := []) .nil hr ⟨1, by omega, by simp [gr], fun o ho => by cases ho⟩ (by simp)
  have := gr_mono hB0 c
  exact ⟨a, p, p1, Nat.le_trans p2 this, fun o ho i => ht_mono (p3 o ho i) this⟩
end PU
set_option Elab.async false
set_option linter.all false
set_option maxRecDepth 100000
set_option maxHeartbeats 4000000
/-! the law's rows and rooms -/
namespace PU
open PySem PySem.Spec PyProof.Rows L2
@[simp] theorem frD_iff (p q : Rat) : (frD p = frD q) ↔ p = q := ⟨frD_inj, fun h => by rw [h]⟩
@[simp] theorem rowD_iff (p q : Row) : (rowD p = rowD q) ↔ p = q := ⟨rowD_inj, fun h => by rw [h]⟩
@[simp] theorem roomD_iff (p q : List Row) : (roomD p = roomD q) ↔ p = q := ⟨roomD_inj, fun h => by rw [h]⟩
@[simp] theorem natCast_iff (a b : Nat) : (((a : Nat) : Int) = ((b : Nat) : Int)) ↔ a = b := by omega
def zerosR (n : Nat) : Row := List.replicate n 0
def unitR (n i : Nat) : Row := zerosR i ++ [1] ++ zerosR (n - i - 1)
def unitsR (n : Nat) : List Row := (List.range n).map (unitR n)
theorem dAdd_rows (a b : Row) (h : a.length + b.length ≤ 1000) : dAdd (rowD a) (rowD b) = some (rowD (a ++ b)) := by
  unfold rowD
  rw [dAdd_tt _ _ (k1000 (by simpa using h)), List.map_append]
theorem dAdd_rooms (a b : List Row) (h : a.length + b.length ≤ 1000) : dAdd (roomD a) (roomD b) = some (roomD (a ++ b)) := by
  unfold roomD
  rw [dAdd_tt _ _ (k1000 (by simpa using h)), List.map_append]
theorem rowD_at (r : Row) (i : Nat) (h : i < r.length) : dIx (rowD r) (.int (i : Nat)) = some (frD (at0 r i)) := by
  unfold rowD
  rw [dIx_t, atI_at _ _ (by simpa using h)]
  simp [at0, h]
theorem roomD_at (M : List Row) (i : Nat) (h : i < M.length) : dIx (roomD M) (.int (i : Nat)) = some (rowD M[i]) := by
  unfold roomD
  rw [dIx_t, atI_at _ _ (by simpa using h)]
  simp
@[simp] theorem dLen_row (r : Row) : dLen (rowD r) = some (.int r.length) := by simp [rowD]
@[simp] theorem dLen_room (r : List Row) : dLen (roomD r) = some (.int r.length) := by simp [roomD]
@[simp] theorem isSeq_row (r : Row) (R : List D → Prop) : isSeq (rowD r) R = R (r.map frD) := rfl
@[simp] theorem isSeq_room (r : List Row) (R : List D → Prop) : isSeq (roomD r) R = R (r.map rowD) := rfl
theorem tup_row {r : Row} : D.tup (r.map frD) = rowD r := rfl
theorem tup_room {M : List Row} : D.tup (M.map rowD) = roomD M := rfl
theorem flatten_rep {α : Type} (n : Nat) (x : α) : (List.replicate n [x]).flatten = List.replicate n x := by
  induction n with
  | zero => rfl
  | succ n ih => simp [List.replicate_succ, ih]

def S__law_zeros : Spec := fun ds R => ∃ (n : Nat), ds = [.int 0, .int (n : Nat)] ∧ n ≤ 500 ∧ R (rowD (zerosR n))
theorem l__law_zeros : ∀ ds R, S__law_zeros ds R → ds.length = 2 := fun ds R ⟨_, h, _⟩ => by rw [h]; rfl
@[simp] theorem S__law_zeros_ap (n : Nat) (R : D → Prop) : S__law_zeros [.int 0, .int (n : Nat)] R = (n ≤ 500 ∧ R (rowD (zerosR n))) := propext ⟨fun ⟨n', h, hR⟩ => by simp at h; subst h; exact hR, fun h => ⟨n, rfl, h⟩⟩
def T__law_zeros : TS' := (sRet (xOp dRep (xTup (xCons (xCall S__law_zero (xCons (xVar 0) xNil)) xNil)) (xVar 1)))

theorem m__law_zeros : ∀ ds R, S__law_zeros ds R → T__law_zeros { nx := fun _ => R .non, rt := R } (startD 2 ds) := fun ds R h => by
  obtain ⟨n, rfl, hn, hR⟩ := h
  have e : dRep (.tup [frD 0]) (.int (n : Nat)) = some (rowD (zerosR n)) := by
    simp [dRep, rowD, zerosR, flatten_rep]; omega
  simp [T__law_zeros, startD, e, hR]

def S__law_unit : Spec := fun ds R => ∃ (n : Nat) (i : Nat), ds = [.int 0, .int (n : Nat), .int (i : Nat)] ∧ i < n ∧ n ≤ 300 ∧ R (rowD (unitR n i))
theorem l__law_unit : ∀ ds R, S__law_unit ds R → ds.length = 3 := fun ds R ⟨_, _, h, _⟩ => by rw [h]; rfl
@[simp] theorem S__law_unit_ap (n : Nat) (i : Nat) (R : D → Prop) : S__law_unit [.int 0, .int (n : Nat), .int (i : Nat)] R = (i < n ∧ n ≤ 300 ∧ R (rowD (unitR n i))) := propext ⟨fun ⟨n', i', h, hR⟩ => by simp at h; obtain ⟨rfl, rfl⟩ := h; exact hR, fun h => ⟨n, i, rfl, h⟩⟩
def T__law_unit : TS' := (sRet (xOp dAdd (xOp dAdd (xCall S__law_zeros (xCons (xVar 0) (xCons (xVar 2) xNil))) (xTup (xCons (xCall S__law_one (xCons (xVar 0) xNil)) xNil))) (xCall S__law_zeros (xCons (xVar 0) (xCons (xOp dSub (xOp dSub (xVar 1) (xVar 2)) (xC (.int 1))) xNil)))))

theorem m__law_unit : ∀ ds R, S__law_unit ds R → T__law_unit { nx := fun _ => R .non, rt := R } (startD 3 ds) := fun ds R h => by
  obtain ⟨n, i, rfl, hi, hn, hR⟩ := h
  have e1 : ((n : Int) - (i : Int) - 1) = ((n - i - 1 : Nat) : Int) := by omega
  have e2 : D.tup [frD 1] = rowD [1] := rfl
  simp [T__law_unit, startD, e1, e2]
  refine ⟨by omega, ?_⟩
  rw [dAdd_rows _ _ (by simp [zerosR]; omega)]
  simp
  refine ⟨by omega, ?_⟩
  rw [dAdd_rows _ _ (by simp [zerosR]; omega)]
  simpa [unitR] using hR

def S__law_units : Spec := fun ds R => ∃ (n : Nat), ds = [.int 0, .int (n : Nat)] ∧ n ≤ 300 ∧ R (roomD (unitsR n))
theorem l__law_units : ∀ ds R, S__law_units ds R → ds.length = 2 := fun ds R ⟨_, h, _⟩ => by rw [h]; rfl
@[simp] theorem S__law_units_ap (n : Nat) (R : D → Prop) : S__law_units [.int 0, .int (n : Nat)] R = (n ≤ 300 ∧ R (roomD (unitsR n))) := propext ⟨fun ⟨n', h, hR⟩ => by simp at h; subst h; exact hR, fun h => ⟨n, rfl, h⟩⟩
def T__law_units : TS' := (sRet (xOp1 dTupOf (xLc (xRange1 (xVar 1)) (gN 2) xYes (xCall S__law_unit (xCons (xVar 0) (xCons (xVar 1) (xCons (xVar 2) xNil)))) [2])))

theorem m__law_units : ∀ ds R, S__law_units ds R → T__law_units { nx := fun _ => R .non, rt := R } (startD 3 ds) := fun ds R h => by
  obtain ⟨n, rfl, hn, hR⟩ := h
  simp [T__law_units, startD]
  refine ⟨by omega, ?_⟩
  refine lcLoop_map (f := fun x => match x with | .int i => rowD (unitR n i.toNat) | _ => .non) (fun x hx k h1 => ?_) ?_
  · obtain ⟨i, hi, rfl⟩ := rng_mem hx
    simp [wipe']
    exact ⟨hi, hn, by simpa using h1⟩
  · simp [rngD, Function.comp_def]
    simpa [unitsR, roomD, Function.comp_def] using hR

def S__law_row_plus : Spec := fun ds R => ∃ (a : Row) (b : Row), ds = [.int 0, rowD a, rowD b] ∧ a.length = b.length ∧ a.length ≤ 1000 ∧ (∀ i, i < a.length → sm (at0 a i) ∧ sm (at0 b i)) ∧ R (rowD (rplus a b))
theorem l__law_row_plus : ∀ ds R, S__law_row_plus ds R → ds.length = 3 := fun ds R ⟨_, _, h, _⟩ => by rw [h]; rfl
@[simp] theorem S__law_row_plus_ap (a : Row) (b : Row) (R : D → Prop) : S__law_row_plus [.int 0, rowD a, rowD b] R = (a.length = b.length ∧ a.length ≤ 1000 ∧ (∀ i, i < a.length → sm (at0 a i) ∧ sm (at0 b i)) ∧ R (rowD (rplus a b))) := propext ⟨fun ⟨a', b', h, hR⟩ => by simp at h; obtain ⟨rfl, rfl⟩ := h; exact hR, fun h => ⟨a, b, rfl, h⟩⟩
def T__law_row_plus : TS' := (sRet (xOp1 dTupOf (xLc (xRange1 (xOp1 dLen (xVar 1))) (gN 3) xYes (xCall S__law_plus (xCons (xVar 0) (xCons (xOp dIx (xVar 1) (xVar 3)) (xCons (xOp dIx (xVar 2) (xVar 3)) xNil)))) [3])))

theorem m__law_row_plus : ∀ ds R, S__law_row_plus ds R → T__law_row_plus { nx := fun _ => R .non, rt := R } (startD 4 ds) := fun ds R h => by
  obtain ⟨a, b, rfl, hl, hn, hs, hR⟩ := h
  simp [T__law_row_plus, startD]
  refine ⟨by omega, ?_⟩
  refine lcLoop_map (f := fun x => match x with | .int i => frD (at0 a i.toNat + at0 b i.toNat) | _ => .non) (fun x hx k h1 => ?_) ?_
  · obtain ⟨i, hi, rfl⟩ := rng_mem hx
    simp [wipe', rowD_at a i hi, rowD_at b i (by omega)]
    exact ⟨(hs i hi).1, (hs i hi).2, by simpa using h1⟩
  · have e : (rngD 0 a.length).map (fun x => match x with | .int i => frD (at0 a i.toNat + at0 b i.toNat) | _ => .non) = (rplus a b).map frD := by
      apply List.ext_getElem (by simp [rngD_len, rplus, hl])
      intro i h1 h2
      simp [rngD_len] at h1
      simp [rngD, rplus, at0, h1, show i < b.length by omega]
    simp [e]
    exact hR

def S__law_scaled : Spec := fun ds R => ∃ (q : Rat) (r : Row), ds = [.int 0, frD q, rowD r] ∧ (∀ x ∈ r, sm q ∧ sm x) ∧ R (rowD (scal q r))
theorem l__law_scaled : ∀ ds R, S__law_scaled ds R → ds.length = 3 := fun ds R ⟨_, _, h, _⟩ => by rw [h]; rfl
@[simp] theorem S__law_scaled_ap (q : Rat) (r : Row) (R : D → Prop) : S__law_scaled [.int 0, frD q, rowD r] R = ((∀ x ∈ r, sm q ∧ sm x) ∧ R (rowD (scal q r))) := propext ⟨fun ⟨q', r', h, hR⟩ => by simp at h; obtain ⟨rfl, rfl⟩ := h; exact hR, fun h => ⟨q, r, rfl, h⟩⟩
def T__law_scaled : TS' := (sRet (xOp1 dTupOf (xLc (xSeq (xVar 2)) (gN 3) xYes (xCall S__law_times (xCons (xVar 0) (xCons (xVar 1) (xCons (xVar 3) xNil)))) [3])))

theorem m__law_scaled : ∀ ds R, S__law_scaled ds R → T__law_scaled { nx := fun _ => R .non, rt := R } (startD 4 ds) := fun ds R h => by
  obtain ⟨q, r, rfl, hs, hR⟩ := h
  simp [T__law_scaled, startD]
  refine lcLoop_map (f := fun x => frD (q * toQ x)) (fun x hx k h1 => ?_) ?_
  · obtain ⟨y, hy, rfl⟩ := List.mem_map.mp hx
    simp [wipe']
    exact ⟨(hs y hy).1, (hs y hy).2, by simpa using h1⟩
  · simp [Function.comp_def]
    simpa [rowD, scal, Function.comp_def] using hR

def S__law_head : Spec := fun ds R => ∃ (r : Row), ds = [.int 0, rowD r] ∧ r.length ≤ 1000 ∧ R (.int (headI r))
theorem l__law_head : ∀ ds R, S__law_head ds R → ds.length = 2 := fun ds R ⟨_, h, _⟩ => by rw [h]; rfl
@[simp] theorem S__law_head_ap (r : Row) (R : D → Prop) : S__law_head [.int 0, rowD r] R = (r.length ≤ 1000 ∧ R (.int (headI r))) := propext ⟨fun ⟨r', h, hR⟩ => by simp at h; subst h; exact hR, fun h => ⟨r, rfl, h⟩⟩
def T__law_head : TS' := (sSeq (sFor (xRange1 (xOp1 dLen (xVar 1))) (gN 2)
   (sIf (xB (xOp dNe (xOp dIx (xVar 1) (xVar 2)) (xCall S__law_zero (xCons (xVar 0) xNil))))
   (sRet (xVar 2))
   sNext))
  (sRet (xOp dSub (xC (.int 0)) (xC (.int 1)))))


theorem lhead_loop {D : Ends'} {b : TS'} (r : Row) (x : Option PU.D) (hb : ∀ (i : Nat) (D' : Ends'), i < r.length → D'.rt = D.rt → (at0 r i = 0 → D'.nx [some (.int 0), x, some (.int i)]) → (at0 r i ≠ 0 → D.rt (.int i)) → b D' [some (.int 0), x, some (.int i)]) : ∀ (k i : Nat) (y : Option PU.D), i + k = r.length → (∀ j, j < i → at0 r j = 0) →
    (hd r < r.length → D.rt (.int (hd r : Nat))) → (¬ hd r < r.length → ∀ y, D.nx [some (.int 0), x, y]) → forL (gN 2) b ((List.range' i k).map fun j => .int (j : Nat)) D [some (.int 0), x, y]
  | 0, i, y, hk, hz, h1, h2 => by
    rw [List.range'_zero, List.map_nil, forL_nil]
    refine h2 (fun h => hd_spec h (hz _ (by omega))) y
  | k + 1, i, y, hk, hz, h1, h2 => by
    rw [List.range'_succ, List.map_cons, forL_cons]
    simp only [gN_ap, List.set_cons_succ, List.set_cons_zero]
    refine hb i _ (by omega) rfl (fun h => ?_) fun h => ?_
    · exact lhead_loop r x hb k (i + 1) _ (by omega) (fun j hj => by
        rcases Nat.lt_or_ge j i with q | q
        · exact hz j q
        · rw [show j = i by omega]; exact h) h1 h2
    · obtain ⟨e1, e2⟩ := hd_eq h hz
      rw [← e1]; exact h1 (by omega)

theorem m__law_head : ∀ ds R, S__law_head ds R → T__law_head { nx := fun _ => R .non, rt := R } (startD 3 ds) := fun ds R h => by
  obtain ⟨r, rfl, hl, hR⟩ := h
  simp [T__law_head, startD]
  refine ⟨by omega, ?_⟩
  have e : rngD 0 r.length = (List.range' 0 r.length).map fun j => D.int (j : Nat) := by simp [rngD, List.range_eq_range']
  rw [e]
  refine lhead_loop r _ (fun i D' hi e h1 h2 => ?_) r.length 0 _ (by omega) (fun j hj => by omega) (fun h => ?_) fun h y => ?_
  · simp [rowD_at r i hi, e]
    by_cases hz : at0 r i = 0
    · rw [if_pos hz]; exact h1 hz
    · rw [if_neg hz]; exact h2 hz
  · rw [headI_of h] at hR; exact hR
  · have : headI r = -1 := by simp [headI, h]
    rw [this] at hR
    simpa using hR

end PU
set_option Elab.async false
set_option linter.all false
set_option maxRecDepth 100000
set_option maxHeartbeats 4000000
/-! the law's rest and room -/
namespace PU
open PySem PySem.Spec PyProof.Rows L2
theorem sm_neg {q : Rat} (h : sm q) : sm (-q) := by
  unfold sm at h ⊢
  rw [Rat.neg_num, Rat.neg_den, Int.natAbs_neg]; exact h
theorem sub1_zero {r o : Row} (h : r.length = o.length) (hz : at0 r (hd o) = 0) : sub1 r o = r := by
  refine row_ext (sub1_len h) fun i _ => ?_
  rw [at_sub1 h, hz]; grind
theorem at_mem {r : Row} {i : Nat} (h : i < r.length) : at0 r i ∈ r := by
  have : at0 r i = r[i] := by simp [at0, h]
  rw [this]; exact List.getElem_mem h
theorem scal_mem {q : Rat} {r : Row} {i : Nat} (h : i < r.length) : at0 (scal q r) i = q * at0 r i := at_scal q r i

def S__law_rest : Spec := fun ds R => ∃ (r : Row) (M : List Row), ds = [.int 0, rowD r, roomD M] ∧ RestOk r M ∧ r.length ≤ 1000 ∧ R (rowD (restR r M))
theorem l__law_rest : ∀ ds R, S__law_rest ds R → ds.length = 3 := fun ds R ⟨_, _, h, _⟩ => by rw [h]; rfl
@[simp] theorem S__law_rest_ap (r : Row) (M : List Row) (R : D → Prop) : S__law_rest [.int 0, rowD r, roomD M] R = (RestOk r M ∧ r.length ≤ 1000 ∧ R (rowD (restR r M))) := propext ⟨fun ⟨r', M', h, hR⟩ => by simp at h; obtain ⟨rfl, rfl⟩ := h; exact hR, fun h => ⟨r, M, rfl, h⟩⟩
def T__law_rest : TS' := (sSeq (sFor (xSeq (xVar 2)) (gN 3)
   (sSeq (sAsg (xOp dIx (xVar 1) (xCall S__law_head (xCons (xVar 0) (xCons (xVar 3) xNil)))) (gN 4))
  (sIf (xB (xOp dNe (xVar 4) (xCall S__law_zero (xCons (xVar 0) xNil))))
   (sAsg (xCall S__law_row_plus (xCons (xVar 0) (xCons (xVar 1) (xCons (xCall S__law_scaled (xCons (xVar 0) (xCons (xCall S__law_less (xCons (xVar 0) (xCons (xVar 4) xNil))) (xCons (xVar 3) xNil)))) xNil)))) (gN 1))
   sNext)))
  (sRet (xVar 1)))


theorem rest_loop {D : Ends'} {b : TS'} (x : Option PU.D) (hb : ∀ (r o : Row) (z : Option PU.D) (D' : Ends'), hd o < o.length → o.length = r.length → r.length ≤ 1000 → (∀ x ∈ r, sm x) → (∀ x ∈ o, sm x) → (∀ x ∈ o, sm (-(at0 r (hd o)) * x)) → (∀ z, D'.nx [some (.int 0), some (rowD (sub1 r o)), x, some (rowD o), z]) → b D' [some (.int 0), some (rowD r), x, some (rowD o), z]) :
    ∀ (M : List Row) (r : Row) (y z : Option PU.D), RestOk r M → r.length ≤ 1000 → (∀ y z, D.nx [some (.int 0), some (rowD (restR r M)), x, y, z]) → forL (gN 3) b (M.map rowD) D [some (.int 0), some (rowD r), x, y, z]
  | [], r, y, z, _, _, h => h y z
  | o :: M, r, y, z, ⟨h1, h2, h3, h4, h5, h6⟩, hl, h => by
    rw [List.map_cons, forL_cons]
    simp only [gN_ap, List.set_cons_succ, List.set_cons_zero]
    refine hb r o z _ h1 h2 hl h3 h4 h5 fun z => ?_
    exact rest_loop x hb M (sub1 r o) _ z h6 (by rw [sub1_len h2.symm]; exact hl) h

theorem m__law_rest : ∀ ds R, S__law_rest ds R → T__law_rest { nx := fun _ => R .non, rt := R } (startD 5 ds) := fun ds R h => by
  obtain ⟨r, M, rfl, hok, hl, hR⟩ := h
  simp [T__law_rest, startD]
  refine rest_loop _ (fun r o z D' h1 h2 hl h3 h4 h5 h => ?_) M r _ _ hok hl fun y z => hR
  simp [headI_of h1, rowD_at r (hd o) (by omega)]
  refine ⟨by omega, ?_⟩
  by_cases hz : at0 r (hd o) = 0
  · rw [if_pos hz]
    have := h (some (frD (at0 r (hd o))))
    rwa [sub1_zero h2.symm hz] at this
  · rw [if_neg hz]
    refine ⟨fun x hx => ⟨sm_neg (h3 _ (at_mem (by omega))), h4 x hx⟩, h2.symm, hl, fun i hi => ⟨h3 _ (at_mem hi), ?_⟩, ?_⟩
    · rw [at_scal]; exact h5 _ (at_mem (by omega))
    · exact h _


def lstD (M : List Row) : D := .lst (M.map rowD)
theorem step_len (M : List Row) (r : Row) : (stepR M r).length ≤ M.length + 1 := by
  unfold stepR
  dsimp only
  split <;> simp
theorem fold_len : ∀ (rows M : List Row), (rows.foldl stepR M).length ≤ M.length + rows.length
  | [], M => by simp
  | r :: rows, M => by
    rw [List.foldl_cons]
    have h1 := fold_len rows (stepR M r)
    have h2 := step_len M r
    simp; omega
def S__law_room : Spec := fun ds R => ∃ (rows : List Row) (n : Nat) (v : D), ds = [.int 0, v] ∧ (v = roomD rows ∨ v = lstD rows) ∧ (∀ r ∈ rows, r.length = n) ∧ n ≤ 400 ∧ rows.length ≤ 400 ∧ RoomOk rows [] ∧ ∀ M' : List Row, M'.Perm (roomR rows) → (M'.map hd).Pairwise (· ≤ ·) → R (roomD M')
theorem l__law_room : ∀ ds R, S__law_room ds R → ds.length = 2 := fun ds R ⟨_, _, _, h, _⟩ => by rw [h]; rfl

def T__law_room : TS' := (sSeq (sAsg (xTup xNil) (gN 2))
  (sSeq (sFor (xSeq (xVar 1)) (gN 3)
   (sSeq (sAsg (xCall S__law_rest (xCons (xVar 0) (xCons (xVar 3) (xCons (xVar 2) xNil)))) (gN 3))
  (sSeq (sAsg (xCall S__law_head (xCons (xVar 0) (xCons (xVar 3) xNil))) (gN 4))
  (sIf (xB (xOp dGe (xVar 4) (xC (.int 0))))
   (sSeq (sAsg (xCall S__law_scaled (xCons (xVar 0) (xCons (xCall S__law_over (xCons (xVar 0) (xCons (xOp dIx (xVar 3) (xVar 4)) xNil))) (xCons (xVar 3) xNil)))) (gN 3))
  (sAsg (xOp dAdd (xOp1 dTupOf (xLc (xSeq (xVar 2)) (gN 5) xYes (xCall S__law_rest (xCons (xVar 0) (xCons (xVar 5) (xCons (xTup (xCons (xVar 3) xNil)) xNil)))) [5])) (xTup (xCons (xVar 3) xNil))) (gN 2)))
   sNext))))
  (sSeq (sAsg (xSortP (xLc (xRange1 (xOp1 dLen (xVar 2))) (gN 7) xYes (xTup (xCons (xCall S__law_head (xCons (xVar 0) (xCons (xOp dIx (xVar 2) (xVar 7)) xNil))) (xCons (xVar 7) xNil))) [7])) (gN 6))
  (sRet (xOp1 dTupOf (xLc (xSeq (xVar 6)) (gT (gCons' (gN 4) (gCons' (gN 7) gNil'))) xYes (xOp dIx (xVar 2) (xVar 7)) [4, 7]))))))


theorem room_loop {n : Nat} {D : Ends'} {b : TS'} (x : Option PU.D) (hb : ∀ (M : List Row) (r : Row) (a0 a1 a2 a3 : Option PU.D) (D' : Ends'), RFm n M → r.length = n → StepOk M r → M.length ≤ 399 → (∀ a2 y, D'.nx [some (.int 0), x, some (roomD (stepR M r)), some y, a2, a1, a0, a3]) → b D' [some (.int 0), x, some (roomD M), some (rowD r), a2, a1, a0, a3]) (a0 a1 a3 : Option PU.D) :
    ∀ (rows M : List Row) (y a2 : Option PU.D), RFm n M → (∀ r ∈ rows, r.length = n) → RoomOk rows M → M.length + rows.length ≤ 400 → (∀ y a2, D.nx [some (.int 0), x, some (roomD (rows.foldl stepR M)), y, a2, a1, a0, a3]) → forL (gN 3) b (rows.map rowD) D [some (.int 0), x, some (roomD M), y, a2, a1, a0, a3]
  | [], M, y, a2, _, _, _, _, h => h y a2
  | r :: rows, M, y, a2, hR, hl, ⟨ok1, ok2⟩, hk, h => by
    rw [List.map_cons, forL_cons]
    simp only [gN_ap, List.set_cons_succ, List.set_cons_zero]
    simp only [List.length_cons] at hk
    refine hb M r a0 a1 a2 a3 _ hR (hl r (by simp)) ok1 (by omega) fun a2 y => ?_
    have := step_len M r
    exact room_loop x hb a0 a1 a3 rows (stepR M r) _ a2 (step_RFm hR (hl r (by simp))) (fun q hq => hl q (by simp [hq])) ok2 (by omega) h
theorem room_places (F : List Row) (hF : ∀ r ∈ F, hd r < r.length) (qs : List (Int × Int)) (hp : qs.Perm ((List.range F.length).map fun i => (headI (F.getD i []), ((i : Nat) : Int)))) (hs : qs.Pairwise (fun p q => SrtO.lexB q p = false)) :
    ∃ M' : List Row, M'.Perm F ∧ (M'.map hd).Pairwise (· ≤ ·) ∧ qs.map (fun q => F.getD q.2.toNat []) = M' ∧ ∀ q ∈ qs, ∃ i, i < F.length ∧ q.2 = (i : Nat) := by
  have hmem : ∀ q ∈ qs, ∃ i, i < F.length ∧ q = (headI (F.getD i []), ((i : Nat) : Int)) := fun q hq => by
    have := hp.mem_iff.mp hq
    simp only [List.mem_map, List.mem_range] at this
    obtain ⟨i, h1, h2⟩ := this
    exact ⟨i, h1, h2.symm⟩
  refine ⟨_, ?_, ?_, rfl, fun q hq => ?_⟩
  · have h1 := hp.map (fun q => F.getD q.2.toNat [])
    refine h1.trans ?_
    have : (((List.range F.length).map fun i => (headI (F.getD i []), ((i : Nat) : Int))).map fun q => F.getD q.2.toNat []) = F := by
      apply List.ext_getElem (by simp)
      intro i h1 h2
      simp [h2]
    rw [this]
  · rw [List.map_map, List.pairwise_map]
    refine List.Pairwise.imp_of_mem (fun {p q} hp hq h => ?_) hs
    obtain ⟨i, hi, rfl⟩ := hmem p hp
    obtain ⟨j, hj, rfl⟩ := hmem q hq
    have e1 : F.getD i [] = F[i] := by simp [hi]
    have e2 : F.getD j [] = F[j] := by simp [hj]
    have g1 := headI_of (hF F[i] (List.getElem_mem hi))
    have g2 := headI_of (hF F[j] (List.getElem_mem hj))
    rw [e1, e2, g1, g2] at h
    simp only [Function.comp_def, Int.toNat_natCast, e1, e2]
    have : ¬ SrtO.lexB ((hd F[j] : Int), (j : Int)) ((hd F[i] : Int), (i : Int)) = true := by rw [h]; decide
    rw [SrtO.lexB_iff] at this
    simp only [not_or] at this
    omega
  · obtain ⟨i, h1, rfl⟩ := hmem q hq
    exact ⟨i, h1, rfl⟩

theorem m__law_room : ∀ ds R, S__law_room ds R → T__law_room { nx := fun _ => R .non, rt := R } (startD 8 ds) := fun ds R h => by
  obtain ⟨rows, n, v, rfl, hv, hn, hn4, hr4, hok, hR⟩ := h
  have hsq : ∀ P : List D → Prop, P (rows.map rowD) → isSeq v P := fun P h => by rcases hv with rfl | rfl <;> exact h
  simp [T__law_room, startD]
  refine hsq _ ?_
  refine room_loop (n := n) (some v) (fun M r a0 a1 a2 a3 D' hM hr hst hM4 h => ?_) none none none rows [] none none .nil hn hok (by simpa using hr4) fun y a2 => ?_
  · obtain ⟨hlens, s1, s2⟩ := hst
    have hrl := rest_len hr fun o ho => (hM.good o ho).len
    simp [s1, show r.length ≤ 1000 by omega, show (restR r M).length ≤ 1000 by omega]
    by_cases hlt : hd (restR r M) < (restR r M).length
    · obtain ⟨t1, t2, t3, t4⟩ := s2 hlt
      have hne := hd_spec hlt
      simp [headI_of hlt, rowD_at (restR r M) _ hlt, hne, t1]
      refine ⟨fun x hx => ⟨t2, t3 x hx⟩, ?_⟩
      refine lcLoop_map (f := fun x => rowD (restR (toR x) [scal (at0 (restR r M) (hd (restR r M)))⁻¹ (restR r M)])) (fun x hx k h1 => ?_) ?_
      · obtain ⟨o, ho, rfl⟩ := List.mem_map.mp hx
        have e : D.tup [rowD (scal (at0 (restR r M) (hd (restR r M)))⁻¹ (restR r M))] = roomD [scal (at0 (restR r M) (hd (restR r M)))⁻¹ (restR r M)] := rfl
        simp [wipe', e]
        exact ⟨t4 o ho, by rw [(hM.good o ho).len]; omega, by simpa using h1⟩
      · have e : D.tup [rowD (scal (at0 (restR r M) (hd (restR r M)))⁻¹ (restR r M))] = roomD [scal (at0 (restR r M) (hd (restR r M)))⁻¹ (restR r M)] := rfl
        have e2 : D.tup ((M.map rowD).map fun x => rowD (restR (toR x) [scal (at0 (restR r M) (hd (restR r M)))⁻¹ (restR r M)])) = roomD (M.map fun o => restR o [scal (at0 (restR r M) (hd (restR r M)))⁻¹ (restR r M)]) := by simp [roomD, Function.comp_def]
        simp only [List.nil_append, dTupOf_l, ok_some, e2]
        simp [e]
        rw [dAdd_rooms _ _ (by simp; omega)]
        have := h (some (.int (hd (restR r M) : Nat))) (rowD (scal (at0 (restR r M) (hd (restR r M)))⁻¹ (restR r M)))
        unfold stepR at this
        dsimp only at this
        rw [if_pos hlt] at this
        simpa using this
    · have hneg : ¬ (0 : Int) ≤ headI (restR r M) := by
        have := (headI_neg (restR r M)).mpr hlt
        omega
      have := h (some (.int (headI (restR r M)))) (rowD (restR r M))
      unfold stepR at this
      dsimp only at this
      rw [if_neg hlt] at this
      simpa [hneg] using this
  · have hF : RFm n (roomR rows) := room_RFm hn
    have hFl : (roomR rows).length ≤ 400 := by have := fold_len rows []; unfold roomR; simp at this; omega
    rw [show rows.foldl stepR [] = roomR rows from rfl]
    generalize roomR rows = F at hF hFl hR
    simp [xSortP]
    refine ⟨by omega, ?_⟩
    refine lcLoop_map (f := fun x => match x with | .int i => dP (headI (F.getD i.toNat []), i) | _ => .non) (fun x hx k h1 => ?_) ?_
    · obtain ⟨i, hi, rfl⟩ := rng_mem hx
      simp [wipe', roomD_at F i hi]
      have g := hF.good F[i] (List.getElem_mem hi)
      refine ⟨by rw [g.len]; omega, ?_⟩
      simpa [dP, hi] using h1
    · have e : ((rngD 0 F.length).map fun x => match x with | .int i => dP (headI (F.getD i.toNat []), i) | _ => .non) = ((List.range F.length).map fun i => (headI (F.getD i []), ((i : Nat) : Int))).map dP := by
        simp [rngD, Function.comp_def]
      simp only [List.nil_append, e]
      refine ⟨_, rfl, fun qs hp hs => ?_⟩
      obtain ⟨M', p1, p2, p3, p4⟩ := room_places F (fun r hr => by have g := hF.good r hr; rw [g.len]; exact g.lt) qs hp hs
      refine lcLoop_map (f := fun x => match x with | .tup [.int _, .int j] => rowD (F.getD j.toNat []) | _ => .non) (fun x hx k h1 => ?_) ?_
      · obtain ⟨q, hq, rfl⟩ := List.mem_map.mp hx
        obtain ⟨i, hi, e⟩ := p4 q hq
        obtain ⟨q1, q2⟩ := q
        simp only at e
        subst e
        simp [wipe', dP, roomD_at F i hi]
        simpa [dP, hi] using h1
      · have e2 : ((qs.map dP).map fun x => match x with | .tup [.int _, .int j] => rowD (F.getD j.toNat []) | _ => .non) = M'.map rowD := by
          rw [← p3]
          simp [Function.comp_def, dP]
        simp only [List.nil_append, e2]
        exact hR M' p1 p2

end PU
set_option Elab.async false
set_option linter.all false
set_option maxRecDepth 100000
set_option maxHeartbeats 4000000
/-! the law's own look at rooms and flats -/
namespace PU
open PySem PySem.Spec PyProof.Rows L2
def S__law_is_whole : Spec := fun ds R => match ds with
  | [v] => v.isIns = false ∧ R (.bl (isIntB v))
  | _ => False
theorem l__law_is_whole : ∀ ds R, S__law_is_whole ds R → ds.length = 1 := fun ds R h => match ds, h with | [_], _ => rfl
@[simp] theorem S__law_is_whole_ap (v : D) (R : D → Prop) : S__law_is_whole [v] R = (v.isIns = false ∧ R (.bl (isIntB v))) := rfl

def T__law_is_whole : TS' := (sRet (xAndV (xIsi "int" (xVar 0)) (xNotV (xIsi "bool" (xVar 0)))))

theorem m__law_is_whole : ∀ ds R, S__law_is_whole ds R → T__law_is_whole { nx := fun _ => R .non, rt := R } (startD 1 ds) := fun ds R h => by
  match ds, h with
  | [v], ⟨h, hR⟩ => cases v <;> simp_all [T__law_is_whole, startD, isIntB, D.tyN, tyIs]
def S__law_is_number : Spec := fun ds R => match ds with
  | [.int f, v] => f = 0 ∧ v.good = true ∧ R (.bl (isFrB v))
  | _ => False
theorem l__law_is_number : ∀ ds R, S__law_is_number ds R → ds.length = 2 := fun ds R h => match ds, h with | [.int _, _], _ => rfl
@[simp] theorem S__law_is_number_ap (f : Int) (v : D) (R : D → Prop) : S__law_is_number [.int f, v] R = (f = 0 ∧ v.good = true ∧ R (.bl (isFrB v))) := rfl

def T__law_is_number : TS' := (sSeq (sIf (xB (xOp dGt (xVar 0) (xC (.int 0))))
   (sRet (xAndV (xCall S__law_is_whole (xCons (xVar 1) xNil)) (xChain dLe dLt (xC (.int 0)) (xVar 1) (xVar 0))))
   sNext)
  (sSeq (sIf (xOr (xNot (xB (xIsi "tuple" (xVar 1)))) (xOr (xB (xOp dNe (xOp1 dLen (xVar 1)) (xC (.int 2)))) (xOr (xNot (xB (xCall S__law_is_whole (xCons (xOp dIx (xVar 1) (xC (.int 0))) xNil)))) (xNot (xB (xCall S__law_is_whole (xCons (xOp dIx (xVar 1) (xC (.int 1))) xNil)))))))
   (sRet (xC (.bl false)))
   sNext)
  (sRet (xAndV (xOp dGe (xOp dIx (xVar 1) (xC (.int 1))) (xC (.int 1))) (xOp dEq (xCall S__law_divisor (xCons (xOp dIx (xVar 1) (xC (.int 0))) (xCons (xOp dIx (xVar 1) (xC (.int 1))) xNil))) (xC (.int 1)))))))

theorem m__law_is_number : ∀ ds R, S__law_is_number ds R → T__law_is_number { nx := fun _ => R .non, rt := R } (startD 2 ds) := fun ds R h => by
  match ds, h with
  | [.int f, v], ⟨hf, hg, hR⟩ =>
    subst hf
    have hi := good_isIns hg
    by_cases ht : isTupB 2 v = true
    · cases v with
      | tup xs =>
        simp [isTupB] at ht
        match xs, ht with
        | [a, b], _ =>
          simp at hg
          have ha := good_isIns hg.1
          have hb := good_isIns hg.2
          simp [T__law_is_number, startD, D.isIns, D.tyN, tyIs, ha, hb]
          cases a <;> simp_all [isIntB, isFrB]
          cases b <;> simp_all [isIntB, isFrB]
          split <;> simp_all
      | _ => simp [isTupB] at ht
    · have hf : isFrB v = false := by
        cases q : isFrB v with
        | false => rfl
        | true =>
          obtain ⟨q, rfl⟩ := isFr_iff q
          simp [isTupB, frD] at ht
      rw [hf] at hR
      cases v with
      | tup xs =>
        have : ¬ (xs.length : Int) = 2 := by simpa [isTupB] using ht
        simp [T__law_is_number, startD, hi, D.tyN, tyIs, this, hR]
      | ins _ _ _ => simp at hg
      | _ => simpa [T__law_is_number, startD, D.isIns, D.tyN, tyIs] using hR
def S__law_has_form : Spec := fun ds R => match ds with
  | [.int f, .int size, v] => f = 0 ∧ v.good = true ∧ R (.bl (formB size v))
  | _ => False
theorem l__law_has_form : ∀ ds R, S__law_has_form ds R → ds.length = 3 := fun ds R h => match ds, h with | [.int _, .int _, _], _ => rfl
@[simp] theorem S__law_has_form_ap (f size : Int) (v : D) (R : D → Prop) : S__law_has_form [.int f, .int size, v] R = (f = 0 ∧ v.good = true ∧ R (.bl (formB size v))) := rfl
theorem fpos {α : Type} {p : α → Bool} {xs : List α} : (0 < (xs.filter p).length) ↔ ¬ (xs.all fun x => !p x) = true := by
  rw [← isEmpty_filter]
  cases h : xs.filter p <;> simp

def T__law_has_form : TS' := (sSeq (sIf (xNot (xB (xIsi "tuple" (xVar 2))))
   (sRet (xC (.bl false)))
   sNext)
  (sSeq (sFor (xSeq (xVar 2)) (gN 3)
   (sIf (xOr (xNot (xB (xIsi "tuple" (xVar 3)))) (xOr (xB (xOp dNe (xOp1 dLen (xVar 3)) (xVar 1))) (xB (xOp dGt (xOp1 dLen (xLc (xSeq (xVar 3)) (gN 4) (xNot (xB (xCall S__law_is_number (xCons (xVar 0) (xCons (xVar 4) xNil))))) (xVar 4) [4])) (xC (.int 0))))))
   (sRet (xC (.bl false)))
   sNext))
  (sRet (xC (.bl true)))))

theorem m__law_has_form : ∀ ds R, S__law_has_form ds R → T__law_has_form { nx := fun _ => R .non, rt := R } (startD 5 ds) := fun ds R h => by
  match ds, h with
  | [.int f, .int size, v], ⟨hf, hg, hR⟩ =>
    subst hf
    have hi := good_isIns hg
    cases v with
    | tup xs =>
      simp at hg
      simp [T__law_has_form, startD, D.isIns, D.tyN, tyIs]
      refine forL_all (p := isRowB size) (P := fun ρ => ∃ y z, ρ = [some (.int 0), some (.int size), some (.tup xs), y, z]) (fun x hx ρ hP D' hD h1 h2 => ?_) (fun h => ?_) (fun h ρ' hP => ?_) ⟨_, _, rfl⟩
      · obtain ⟨y, z, rfl⟩ := hP
        have hgx := good_mem hg hx
        have hix := good_isIns hgx
        cases x with
        | tup ys =>
          simp at hgx
          simp [D.isIns, D.tyN, tyIs, hD]
          by_cases hl : (ys.length : Int) = size
          · rw [if_pos hl]
            refine lcLoop_plain (p := fun x => !isFrB x) (f := fun x => x) (fun x hx k k2 h3 h4 => ?_) ?_
            · simp [wipe', good_mem hgx hx]
              cases q : isFrB x <;> simp_all
            · simp only [List.nil_append, List.map_id']
              by_cases ha : (ys.all fun x => isFrB x) = true
              · rw [if_neg (fun z => fpos.mp z (by simpa using ha))]
                exact h1 (by simp [isRowB, hl]; simpa using ha) _ ⟨_, _, rfl⟩
              · rw [if_pos (fpos.mpr (by simpa using ha))]
                simp only [Bool.not_eq_true] at ha
                exact h2 (by
                  simp only [isRowB, hl, decide_true, Bool.true_and]
                  exact ha)
          · rw [if_neg hl]
            exact h2 (by simp [isRowB, hl])
        | ins _ _ _ => simp at hgx
        | _ => simpa [D.isIns, D.tyN, tyIs, hD] using h2 rfl
      · have : formB size (.tup xs) = false := h
        rw [this] at hR; exact hR
      · have : formB size (.tup xs) = true := h
        rw [this] at hR; exact hR
    | ins _ _ _ => simp at hg
    | _ => simpa [T__law_has_form, startD, D.isIns, D.tyN, tyIs, formB] using hR
/-! rows side by side -/
theorem eqvAll_fr : ∀ (xs ys : List Rat), PyData.eqvAll (D.pyL (xs.map frD)) (D.pyL (ys.map frD)) = decide (xs = ys)
  | [], [] => rfl
  | [], _ :: _ => rfl
  | _ :: _, [] => rfl
  | x :: xs, y :: ys => by
    have h1 := deq_fr x y
    have h2 := eqvAll_fr xs ys
    simp only [deq] at h1
    simp only [List.map_cons, D.pyL, PyData.eqvAll, h1, h2]
    by_cases e1 : x = y <;> by_cases e2 : xs = ys <;> simp [e1, e2]
theorem dNe_frs (xs ys : List Rat) : dNe (.lst (xs.map frD)) (.lst (ys.map frD)) = some (.bl (!decide (xs = ys))) := by
  have h1 := depL_fr xs
  have h2 := depL_fr ys
  have : deq (.lst (xs.map frD)) (.lst (ys.map frD)) = decide (xs = ys) := by simp only [deq, D.py, PyData.eqv, eqvAll_fr]
  simp [dNe, this]; omega

def S__law_is_room : Spec := fun ds R => ∃ (M : List Row) (n : Nat), ds = [.int 0, .int (n : Nat), roomD M] ∧ (∀ r ∈ M, r.length = n) ∧ n ≤ 1000 ∧ M.length ≤ 1000 ∧ R (.bl (decide (∀ r ∈ M, hd r < n) && rrB M))
theorem l__law_is_room : ∀ ds R, S__law_is_room ds R → ds.length = 3 := fun ds R ⟨_, _, h, _⟩ => by rw [h]; rfl
@[simp] theorem S__law_is_room_ap (M : List Row) (n : Nat) (R : D → Prop) : S__law_is_room [.int 0, .int (n : Nat), roomD M] R = ((∀ r ∈ M, r.length = n) ∧ n ≤ 1000 ∧ M.length ≤ 1000 ∧ R (.bl (decide (∀ r ∈ M, hd r < n) && rrB M))) := propext ⟨fun ⟨M', n', h, hR⟩ => by simp at h; obtain ⟨e1, e2⟩ := h; subst e1; subst e2; exact hR, fun h => ⟨M, n, rfl, h⟩⟩
def T__law_is_room : TS' := (sSeq (sAsg (xLc (xSeq (xVar 2)) (gN 4) xYes (xCall S__law_head (xCons (xVar 0) (xCons (xVar 4) xNil))) [4]) (gN 3))
  (sSeq (sIf (xB (xOp dGt (xOp1 dLen (xLc (xRange1 (xOp1 dLen (xVar 3))) (gN 5) (xOr (xB (xOp dLt (xOp dIx (xVar 3) (xVar 5)) (xC (.int 0)))) (xAnd (xB (xOp dGt (xVar 5) (xC (.int 0)))) (xB (xOp dLe (xOp dIx (xVar 3) (xVar 5)) (xOp dIx (xVar 3) (xOp dSub (xVar 5) (xC (.int 1)))))))) (xVar 5) [5])) (xC (.int 0))))
   (sRet (xC (.bl false)))
   sNext)
  (sSeq (sFor (xRange1 (xOp1 dLen (xVar 2))) (gN 5)
   (sSeq (sAsg (xLc (xSeq (xVar 2)) (gN 4) xYes (xOp dIx (xVar 4) (xOp dIx (xVar 3) (xVar 5))) [4]) (gN 6))
  (sIf (xB (xOp dNe (xVar 6) (xLc (xRange1 (xOp1 dLen (xVar 2))) (gN 7) xYes (xIf (xB (xOp dEq (xVar 7) (xVar 5))) (xCall S__law_one (xCons (xVar 0) xNil)) (xCall S__law_zero (xCons (xVar 0) xNil))) [7])))
   (sRet (xC (.bl false)))
   sNext)))
  (sRet (xC (.bl true))))))


theorem AI_lt {M : List Row} (h : AI M) : ∀ (d i : Nat) (hi : i + 1 + d < M.length), hd (M[i]'(by omega)) < hd M[i + 1 + d]
  | 0, i, hi => h i hi
  | d + 1, i, hi => Nat.lt_trans (AI_lt h d i (by omega)) (h (i + 1 + d) (by omega))

theorem m__law_is_room : ∀ ds R, S__law_is_room ds R → T__law_is_room { nx := fun _ => R .non, rt := R } (startD 8 ds) := fun ds R h => by
  obtain ⟨M, n, rfl, hM, hn, hl, hR⟩ := h
  simp [T__law_is_room, startD]
  refine lcLoop_map (f := fun x => .int (headI (toR x))) (fun x hx k h1 => ?_) ?_
  · obtain ⟨r, hr, rfl⟩ := List.mem_map.mp hx
    simp [wipe']
    exact ⟨by rw [hM r hr]; omega, by simpa using h1⟩
  · have e0 : (M.map rowD).map (fun x => D.int (headI (toR x))) = M.map fun r => .int (headI r) := by simp [Function.comp_def]
    simp only [List.nil_append, e0]
    have hat : ∀ j, j < M.length → atI (M.map fun r => D.int (headI r)) (j : Int) = some (.int (headI (M.getD j []))) := fun j hj => by
      rw [atI_at _ _ (by simpa using hj)]
      simp [hj]
    simp
    refine ⟨by omega, ?_⟩
    refine lcLoop_plain (p := fun x => match x with | .int i => decide (headI (M.getD i.toNat []) < 0 ∨ (0 < i ∧ headI (M.getD i.toNat []) ≤ headI (M.getD (i.toNat - 1) []))) | _ => false) (f := fun x => x) (fun x hx k k2 h1 h2 => ?_) ?_
    · obtain ⟨i, hi, rfl⟩ := rng_mem hx
      have e1 := hat i hi
      simp only [Int.toNat_natCast] at h1 h2
      simp [wipe', e1]
      by_cases hneg : headI (M.getD i []) < 0
      · have hneg' : headI (M[i]?.getD []) < 0 := by simpa using hneg
        rw [if_pos hneg']
        exact h1 (decide_eq_true (.inl hneg))
      · have hneg' : ¬ headI (M[i]?.getD []) < 0 := by simpa using hneg
        rw [if_neg hneg']
        by_cases hi0 : 0 < i
        · have e2 := hat (i - 1) (by omega)
          rw [show ((i - 1 : Nat) : Int) = (i : Int) - 1 by omega] at e2
          rw [if_pos hi0]
          simp [e2]
          by_cases hle : headI (M.getD i []) ≤ headI (M.getD (i - 1) [])
          · have hle' : headI (M[i]?.getD []) ≤ headI (M[i - 1]?.getD []) := by simpa using hle
            rw [if_pos hle']
            exact h1 (decide_eq_true (.inr ⟨by omega, hle⟩))
          · have hle' : ¬ headI (M[i]?.getD []) ≤ headI (M[i - 1]?.getD []) := by simpa using hle
            rw [if_neg hle']
            exact h2 (decide_eq_false fun z => z.elim hneg fun z => hle z.2)
        · rw [if_neg hi0]
          exact h2 (decide_eq_false fun z => z.elim hneg fun z => hi0 (by omega))
    · have hAI : ((rngD 0 M.length).all fun x => !(match x with | .int i => decide (headI (M.getD i.toNat []) < 0 ∨ (0 < i ∧ headI (M.getD i.toNat []) ≤ headI (M.getD (i.toNat - 1) []))) | _ => false)) = true ↔ (∀ r ∈ M, hd r < n) ∧ AI M := by
        rw [List.all_eq_true]
        constructor
        · intro h
          have key : ∀ i, (hi : i < M.length) → ¬ (headI M[i] < 0 ∨ (0 < (i : Int) ∧ headI M[i] ≤ headI (M.getD (i - 1) []))) := fun i hi => by
            have := h (.int (i : Nat)) (mem_rng hi)
            simp [hi] at this ⊢
            exact ⟨this.1, fun h => this.2.resolve_left (by omega)⟩
          have h1 : ∀ r ∈ M, hd r < n := fun r hr => by
            obtain ⟨i, hi, rfl⟩ := List.getElem_of_mem hr
            have h3 := key i hi
            have h4 := headI_neg M[i]
            rw [hM M[i] hr] at h4
            have : ¬ headI M[i] < 0 := fun z => h3 (.inl z)
            rw [h4] at this
            omega
          refine ⟨h1, fun i hi => ?_⟩
          have h3 := key (i + 1) hi
          have m1 : M[i] ∈ M := List.getElem_mem _
          have m2 : M[i + 1] ∈ M := List.getElem_mem _
          have g1 := headI_of (r := M[i]) (by rw [hM _ m1]; exact h1 _ m1)
          have g2 := headI_of (r := M[i + 1]) (by rw [hM _ m2]; exact h1 _ m2)
          have e : M.getD (i + 1 - 1) [] = M[i] := by simp [show i < M.length by omega]
          rw [e, g1, g2] at h3
          omega
        · rintro ⟨h1, h2⟩ x hx
          obtain ⟨i, hi, rfl⟩ := rng_mem hx
          have m1 : M[i] ∈ M := List.getElem_mem _
          have g1 := headI_of (r := M[i]) (by rw [hM _ m1]; exact h1 _ m1)
          have e : M.getD i [] = M[i] := by simp [hi]
          simp only [Int.toNat_natCast, e, Bool.not_eq_true', decide_eq_false_iff_not]
          rintro (z | ⟨z1, z2⟩)
          · omega
          · have m0 : M[i - 1]'(by omega) ∈ M := List.getElem_mem _
            have g0 := headI_of (r := M[i - 1]'(by omega)) (by rw [hM _ m0]; exact h1 _ m0)
            have e' : M.getD (i - 1) [] = M[i - 1]'(by omega) := by simp [show i - 1 < M.length by omega]
            rw [e', g0, g1] at z2
            have := h2 (i - 1) (by omega)
            simp only [show i - 1 + 1 = i by omega] at this
            omega
      simp only [List.nil_append, List.map_id']
      by_cases hA : (∀ r ∈ M, hd r < n) ∧ AI M
      · rw [if_neg (fun z => fpos.mp z (hAI.mpr hA))]
        obtain ⟨hA1, hA2⟩ := hA
        have hrr : (decide (∀ r ∈ M, hd r < n) && rrB M) = decide (∀ j, j < M.length → CO M j) := by simp [rrB, hA2, UN]; exact fun _ => hA1
        rw [hrr] at hR
        refine ⟨by omega, ?_⟩
        refine forL_all (p := fun x => match x with | .int i => decide (CO M i.toNat) | _ => false) (P := fun ρ => ∃ a b, ρ = [some (.int 0), some (.int (n : Nat)), some (roomD M), some (.lst (M.map fun r => .int (headI r))), none, a, b, none]) (fun x hx ρ hP D' hD h1 h2 => ?_) (fun h => ?_) (fun h ρ' hP => ?_) ⟨_, _, rfl⟩
        · obtain ⟨a, b, rfl⟩ := hP
          obtain ⟨j, hj, rfl⟩ := rng_mem hx
          have e1 := hat j hj
          have mj : M[j] ∈ M := List.getElem_mem _
          have ej : M.getD j [] = M[j] := by simp [hj]
          rw [ej, headI_of (by rw [hM _ mj]; exact hA1 _ mj)] at e1
          simp only [Int.toNat_natCast] at h1 h2
          have hrange : ∀ (P : Prop), P → ((-1000000 ≤ (M.length : Int) ∧ (M.length : Int) ≤ 1000000) ∧ P) := fun P h => ⟨by omega, h⟩
          simp
          refine lcLoop_map (f := fun x => frD (at0 (toR x) (hd M[j]))) (fun x hx k h3 => ?_) ?_
          · obtain ⟨r, hr, rfl⟩ := List.mem_map.mp hx
            simp [wipe', e1, rowD_at r (hd M[j]) (by rw [hM r hr]; exact hA1 _ mj)]
            simpa using h3
          · simp
            refine ⟨by omega, ?_⟩
            refine lcLoop_map (f := fun x => match x with | .int i => frD (if i = (j : Int) then 1 else 0) | _ => .non) (fun x hx k h3 => ?_) ?_
            · obtain ⟨i, hi, rfl⟩ := rng_mem hx
              simp [wipe']
              by_cases hij : i = j
              · subst hij; simpa using h3
              · simpa [hij] using h3
            · have ea : (M.map rowD).map (fun x => frD (at0 (toR x) (hd M[j]))) = (M.map fun r => at0 r (hd M[j])).map frD := by simp [Function.comp_def]
              have eb : ((rngD 0 M.length).map fun x => match x with | .int i => frD (if i = (j : Int) then 1 else 0) | _ => .non) = ((List.range M.length).map fun i => if i = j then (1 : Rat) else 0).map frD := by
                simp [rngD, Function.comp_def]
              have ea'' : M.map ((fun x => frD (at0 (toR x) (hd M[j]))) ∘ rowD) = (M.map fun r => at0 r (hd M[j])).map frD := by simp [Function.comp_def]
              have ea' : (M.map fun r => frD (at0 r (hd M[j]))) = (M.map fun r => at0 r (hd M[j])).map frD := by simp [Function.comp_def]
              have key : ((M.map fun r => at0 r (hd M[j])) = (List.range M.length).map fun i => if i = j then (1 : Rat) else 0) ↔ CO M j := by
                constructor
                · intro h i hi
                  have := congrArg (fun l => l[i]?) h
                  simp [hi] at this
                  simpa [hi, hj, at0] using this
                · intro h
                  apply List.ext_getElem (by simp)
                  intro i h3 h4
                  simp at h3
                  have := h i h3
                  simpa [h3, hj, at0] using this
              simp only [List.nil_append, ea, eb, ea', ea'', dNe_frs, ok_some, isB_bl]
              by_cases hc : CO M j
              · rw [decide_eq_true (key.mpr hc)]
                simp only [Bool.not_true, Bool.false_eq_true, if_false]
                exact h1 (decide_eq_true hc) _ ⟨_, _, rfl⟩
              · rw [decide_eq_false (fun z => hc (key.mp z))]
                simp only [Bool.not_false, if_true]
                rw [hD]
                exact h2 (decide_eq_false hc)
        · have : ¬ ∀ j, j < M.length → CO M j := fun q => by
            rw [← Bool.not_eq_true] at h
            refine h (List.all_eq_true.mpr fun x hx => ?_)
            obtain ⟨j, hj, rfl⟩ := rng_mem hx
            simpa using q j hj
          rw [decide_eq_false this] at hR
          exact hR
        · have : ∀ j, j < M.length → CO M j := fun j hj => by
            have := List.all_eq_true.mp h _ (mem_rng hj)
            simpa using this
          rw [decide_eq_true this] at hR
          exact hR
      · rw [if_pos (fpos.mpr fun z => hA (hAI.mp z))]
        have : (decide (∀ r ∈ M, hd r < n) && rrB M) = false := by
          rw [← Bool.not_eq_true, Bool.and_eq_true, decide_eq_true_eq]
          rintro ⟨a, b⟩
          exact hA ⟨a, (of_decide_eq_true b).1⟩
        rw [this] at hR
        simpa using hR

end PU
set_option Elab.async false
set_option linter.all false
set_option maxRecDepth 100000
set_option maxHeartbeats 4000000
/-! the law's own flats looked at; values side by side -/
namespace PU
open PySem PySem.Spec PyProof.Rows L2
theorem lflat {M : List Row} {n : Nat} (hM : ∀ r ∈ M, r.length = n + 1) (h1 : ∀ r ∈ M, hd r < n + 1) (hA : AI M) : (M.all fun r => decide (headI r ≠ (n : Int))) = !falseB M := by
  have hh : ∀ r ∈ M, headI r = (hd r : Nat) := fun r hr => headI_of (by rw [hM r hr]; exact h1 r hr)
  unfold falseB
  by_cases hne : M = []
  · subst hne; rfl
  · rw [List.getLast?_eq_getLast hne]
    have ml := List.getLast_mem hne
    have el : M.getLast hne = M[M.length - 1]'(by have := List.length_pos_iff.mpr hne; omega) := List.getLast_eq_getElem _
    simp only [hM _ ml, hh _ ml]
    by_cases hl : hd (M.getLast hne) = n
    · have e1 : ((hd (M.getLast hne) : Nat) : Int) = ((n + 1 : Nat) : Int) - 1 := by omega
      rw [decide_eq_true e1, Bool.not_true, ← Bool.not_eq_true, List.all_eq_true]
      intro q
      have := q _ ml
      rw [hh _ ml, hl] at this
      simp at this
    · have e1 : ¬ ((hd (M.getLast hne) : Nat) : Int) = ((n + 1 : Nat) : Int) - 1 := by omega
      rw [decide_eq_false e1, Bool.not_false, List.all_eq_true]
      intro r hr
      rw [hh r hr]
      have : hd r ≠ n := fun z => by
        obtain ⟨i, hi, rfl⟩ := List.getElem_of_mem hr
        rcases Nat.lt_or_ge i (M.length - 1) with q | q
        · have h3 := AI_lt hA (M.length - 1 - (i + 1)) i (by omega)
          simp only [show i + 1 + (M.length - 1 - (i + 1)) = M.length - 1 by omega] at h3
          have h4 := h1 _ ml
          rw [el] at h4
          omega
        · have : i = M.length - 1 := by omega
          subst this
          rw [el] at hl
          exact hl z
      simp
      omega
def S__law_is_flat : Spec := fun ds R => ∃ (n : Nat) (v : D), ds = [.int (n : Nat), v] ∧ v.good = true ∧ v.dep ≤ 60 ∧ topOk v ∧ n ≤ 900 ∧ R (.bl (flatB n v))
theorem l__law_is_flat : ∀ ds R, S__law_is_flat ds R → ds.length = 2 := fun ds R ⟨_, _, h, _⟩ => by rw [h]; rfl
@[simp] theorem S__law_is_flat_ap (n : Nat) (v : D) (R : D → Prop) : S__law_is_flat [.int (n : Nat), v] R = (v.good = true ∧ v.dep ≤ 60 ∧ topOk v ∧ n ≤ 900 ∧ R (.bl (flatB n v))) := propext ⟨fun ⟨n', v', h, hR⟩ => by simp at h; obtain ⟨e1, e2⟩ := h; subst e1; subst e2; exact hR, fun h => ⟨n, v, rfl, h⟩⟩

def T__law_is_flat : TS' := (sSeq (sIf (xOr (xNot (xB (xCall S__law_has_form (xCons (xC (.int 0)) (xCons (xOp dAdd (xVar 0) (xC (.int 1))) (xCons (xVar 1) xNil)))))) (xNot (xB (xCall S__law_is_room (xCons (xC (.int 0)) (xCons (xOp dAdd (xVar 0) (xC (.int 1))) (xCons (xVar 1) xNil)))))))
   (sRet (xC (.bl false)))
   sNext)
  (sRet (xOp dEq (xOp1 dLen (xLc (xSeq (xVar 1)) (gN 2) (xB (xOp dEq (xCall S__law_head (xCons (xC (.int 0)) (xCons (xVar 2) xNil))) (xVar 0))) (xVar 2) [2])) (xC (.int 0)))))

theorem m__law_is_flat : ∀ ds R, S__law_is_flat ds R → T__law_is_flat { nx := fun _ => R .non, rt := R } (startD 3 ds) := fun ds R h => by
  obtain ⟨n, v, rfl, hg, hd0, ht, hn, hR⟩ := h
  have en : ((n : Int) + 1) = ((n + 1 : Nat) : Int) := by omega
  simp [T__law_is_flat, startD, hg]
  by_cases hf : formB ((n : Int) + 1) v = true
  · obtain ⟨M, rfl, hM⟩ := form_iff hf
    have hM' : ∀ r ∈ M, r.length = n + 1 := fun r hr => by have := hM r hr; omega
    have hl : M.length ≤ 1000 := by simpa [topOk, roomD] using ht
    rw [if_pos hf]
    simp only [en]
    rw [S__law_is_room_ap]
    rw [en] at hf
    refine ⟨hM', by omega, hl, ?_⟩
    simp only [isB_bl]
    have hroom : roomB ((n : Int) + 1) (roomD M) = (decide (∀ r ∈ M, hd r < n + 1) && rrB M) := by
      rw [en]
      simp only [roomB, hf, toM_room, Bool.true_and]
      congr 1
      apply decide_eq_decide.mpr
      constructor
      · intro q r hr; have := q r hr; rw [hM' r hr] at this; exact this
      · intro q r hr; have := q r hr; rw [hM' r hr]; exact this
    simp only [flatB, hroom, toM_room] at hR
    by_cases hr : (decide (∀ r ∈ M, hd r < n + 1) && rrB M) = true
    · have hr' := hr
      rw [Bool.and_eq_true, decide_eq_true_eq] at hr'
      rw [hr, Bool.true_and] at hR
      rw [if_pos hr]
      refine lcLoop_plain (p := fun x => decide (headI (toR x) = (n : Int))) (f := fun x => x) (fun x hx k k2 h1 h2 => ?_) ?_
      · obtain ⟨r, hr, rfl⟩ := List.mem_map.mp hx
        simp only [toR_row] at h1 h2
        simp [wipe']
        refine ⟨by rw [hM' r hr]; omega, ?_⟩
        split
        · rename_i hh; exact h1 (decide_eq_true hh)
        · rename_i hh; exact h2 (decide_eq_false hh)
      · have e := lflat hM' hr'.1 (of_decide_eq_true hr'.2).1
        rw [← e] at hR
        have e2 : (M.all fun r => decide (headI r ≠ (n : Int))) = ((M.map rowD).filter fun x => decide (headI (toR x) = (n : Int))).isEmpty := by
          rw [isEmpty_filter, List.all_map]
          congr 1
          funext r
          simp
        rw [e2] at hR
        cases q : (M.map rowD).filter fun x => decide (headI (toR x) = (n : Int)) with
        | nil => rw [q] at hR; simpa [q] using hR
        | cons a l =>
          rw [q] at hR
          have : ¬ ((l.length : Int) + 1 = 0) := by omega
          simpa [q, this] using hR
    · rw [if_neg hr]
      simp only [Bool.not_eq_true] at hr
      rw [hr] at hR
      simpa using hR
  · rw [if_neg hf]
    simp only [Bool.not_eq_true] at hf
    have : flatB n v = false := by simp [flatB, roomB, hf]
    rw [this] at hR
    exact hR

def S__law_with : Spec := fun ds R => ∃ (xs : List D) (i : Nat) (v : D), ds = [.tup xs, .int (i : Nat), v] ∧ xs.length ≤ 900 ∧ i ≤ xs.length ∧ R (.tup (xs.take i ++ v :: xs.drop (i + 1)))
theorem l__law_with : ∀ ds R, S__law_with ds R → ds.length = 3 := fun ds R ⟨_, _, _, h, _⟩ => by rw [h]; rfl
@[simp] theorem S__law_with_ap (xs : List D) (i : Nat) (v : D) (R : D → Prop) : S__law_with [.tup xs, .int (i : Nat), v] R = (xs.length ≤ 900 ∧ i ≤ xs.length ∧ R (.tup (xs.take i ++ v :: xs.drop (i + 1)))) := propext ⟨fun ⟨a, b, c, h, hR⟩ => by simp at h; obtain ⟨e1, e2, e3⟩ := h; subst e1; subst e2; subst e3; exact hR, fun h => ⟨xs, i, v, rfl, h⟩⟩

def T__law_with : TS' := (sRet (xOp dAdd (xOp dAdd (xOp1 dTupOf (xSl (xVar 0) xNo (xPart (xVar 1)))) (xTup (xCons (xVar 2) xNil))) (xOp1 dTupOf (xSl (xVar 0) (xPart (xOp dAdd (xVar 1) (xC (.int 1)))) xNo))))

theorem m__law_with : ∀ ds R, S__law_with ds R → T__law_with { nx := fun _ => R .non, rt := R } (startD 3 ds) := fun ds R h => by
  obtain ⟨xs, i, v, rfl, hl, hi, hR⟩ := h
  have en : cutD xs (some ((i : Int) + 1)) none = xs.drop (i + 1) := cut_drop xs (i + 1)
  simp [T__law_with, startD, en, cut_take xs i hi]
  rw [dAdd_tt _ _ (k1000 (by simp; omega))]
  simp
  rw [dAdd_tt _ _ (k1000 (by simp; omega))]
  simpa using hR

def kindB (t : D) : D → Bool
  | .non => match t with | .non => true | _ => false
  | .bl b => match t with | .bl a => decide (a = b) | _ => false
  | .str b => match t with | .str a => decide (a = b) | _ => false
  | .int b => match t with | .int a => decide (a = b) | _ => false
  | _ => false
def S__law_is_kind : Spec := fun ds R => ∃ t d : D, ds = [t, d] ∧ t.good = true ∧ d.good = true ∧ d.scal = true ∧ R (.bl (kindB t d))
theorem l__law_is_kind : ∀ ds R, S__law_is_kind ds R → ds.length = 2 := fun ds R ⟨_, _, h, _⟩ => by rw [h]; rfl
@[simp] theorem S__law_is_kind_ap (t d : D) (R : D → Prop) : S__law_is_kind [t, d] R = (t.good = true ∧ d.good = true ∧ d.scal = true ∧ R (.bl (kindB t d))) := propext ⟨fun ⟨a, b, h, hR⟩ => by simp at h; obtain ⟨e1, e2⟩ := h; subst e1; subst e2; exact hR, fun h => ⟨t, d, rfl, h⟩⟩
theorem dEq_ss {x y : Str} (hx : (D.str x).good = true) (hy : (D.str y).good = true) : dEq (.str x) (.str y) = some (.bl (decide (x = y))) := by
  have : deq (.str x) (.str y) = decide (x = y) := by simp only [deq, D.py, PyData.eqv]; rfl
  simp [dEq, hx, hy, this]

end PU
set_option Elab.async false
set_option linter.all false
set_option maxRecDepth 100000
set_option maxHeartbeats 4000000
/-! values side by side -/
namespace PU
open PySem PySem.Spec PyProof.Rows L2

def T__law_is_kind : TS' := (sSeq (sIf (xB (xOp dIs (xVar 1) (xC .non)))
   (sRet (xOp dIs (xVar 0) (xC .non)))
   sNext)
  (sSeq (sIf (xOr (xB (xOp dIs (xVar 1) (xC (.bl true)))) (xB (xOp dIs (xVar 1) (xC (.bl false)))))
   (sRet (xIf (xB (xVar 1)) (xOp dIs (xVar 0) (xC (.bl true))) (xOp dIs (xVar 0) (xC (.bl false)))))
   sNext)
  (sSeq (sIf (xB (xIsi "str" (xVar 1)))
   (sRet (xAndV (xIsi "str" (xVar 0)) (xOp dEq (xVar 0) (xVar 1))))
   sNext)
  (sRet (xAndV (xIsi "int" (xVar 0)) (xAndV (xNotV (xIsi "bool" (xVar 0))) (xOp dEq (xVar 0) (xVar 1))))))))

theorem m__law_is_kind : ∀ ds R, S__law_is_kind ds R → T__law_is_kind { nx := fun _ => R .non, rt := R } (startD 2 ds) := fun ds R h => by
  obtain ⟨t, d, rfl, hg, hg2, hs, hR⟩ := h
  have hi := good_isIns hg
  cases d with
  | non =>
    cases t with
    | ins _ _ _ => simp at hg
    | _ => simpa [T__law_is_kind, startD, dIs, kindB] using hR
  | bl b =>
    cases t with
    | ins _ _ _ => simp at hg
    | _ => cases b <;> simpa [T__law_is_kind, startD, dIs, kindB] using hR
  | str y =>
    cases t with
    | ins _ _ _ => simp at hg
    | str x => simpa [T__law_is_kind, startD, dIs, D.isIns, D.tyN, tyIs, dEq_ss hg hg2, kindB] using hR
    | _ => simpa [T__law_is_kind, startD, dIs, kindB, D.isIns, D.tyN, tyIs] using hR
  | int y =>
    cases t with
    | ins _ _ _ => simp at hg
    | _ => simpa [T__law_is_kind, startD, dIs, kindB, D.isIns, D.tyN, tyIs] using hR
  | lst _ => cases hs
  | tup _ => cases hs
  | ins _ _ _ => cases hs
/-! told and due -/
mutual
def sameB : D → D → Bool
  | t, .tup ds => match t with
    | .tup ts => sameL ts ds
    | _ => false
  | t, .non => kindB t .non
  | t, .bl b => kindB t (.bl b)
  | t, .int i => kindB t (.int i)
  | t, .str x => kindB t (.str x)
  | _, _ => false
def sameL : List D → List D → Bool
  | [], [] => true
  | t :: ts, d :: ds => sameB t d && sameL ts ds
  | _, _ => false
end
mutual
/-- what may be due: scalars and tuples of such -/
def dueOk : D → Bool
  | .tup ds => dueOkL ds
  | .non => true | .bl _ => true | .int _ => true | .str x => (D.str x).good
  | _ => false
def dueOkL : List D → Bool
  | [] => true
  | d :: ds => dueOk d && dueOkL ds
end
mutual
def wt : D → Nat
  | .tup ds => wtL ds + 1
  | _ => 1
def wtL : List D → Nat
  | [] => 0
  | d :: ds => wt d + wtL ds
end
theorem wt_pos (d : D) : 1 ≤ wt d := by cases d <;> simp [wt]
theorem dueOk_mem : ∀ {ds : List D} {d : D}, dueOkL ds = true → d ∈ ds → dueOk d = true
  | y :: ys, d, h, m => by
    simp only [dueOkL, Bool.and_eq_true] at h
    rcases List.mem_cons.mp m with rfl | m
    · exact h.1
    · exact dueOk_mem h.2 m
def pairD (p : D × D) : D := .tup [p.1, p.2]
def wtP (ps : List (D × D)) : Nat := (ps.map fun p => wt p.2).sum
def allP (ps : List (D × D)) : Bool := ps.all fun p => sameB p.1 p.2
theorem sameL_zip : ∀ (ts ds : List D), ts.length = ds.length → sameL ts ds = allP (ts.zip ds)
  | [], [], _ => rfl
  | t :: ts, d :: ds, h => by
    simp only [List.length_cons, Nat.add_right_cancel_iff] at h
    simp [sameL, allP, sameL_zip ts ds h]
theorem sameL_len : ∀ (ts ds : List D), ts.length ≠ ds.length → sameL ts ds = false
  | [], [], h => absurd rfl h
  | [], _ :: _, _ => rfl
  | _ :: _, [], _ => rfl
  | t :: ts, d :: ds, h => by
    have := sameL_len ts ds (by simpa using h)
    simp [sameL, this]
theorem wtL_zip : ∀ (ts ds : List D), ts.length = ds.length → wtP (ts.zip ds) = wtL ds
  | [], [], _ => rfl
  | t :: ts, d :: ds, h => by
    simp only [List.length_cons, Nat.add_right_cancel_iff] at h
    have := wtL_zip ts ds h
    simp [wtP, wtL] at this ⊢
    omega
theorem len_wtP (ps : List (D × D)) : ps.length ≤ wtP ps := by
  induction ps with
  | nil => simp [wtP]
  | cons p ps ih => have := wt_pos p.2; simp [wtP] at ih ⊢; omega
theorem wtP_append (ps qs : List (D × D)) : wtP (ps ++ qs) = wtP ps + wtP qs := by simp [wtP]
theorem allP_append (ps qs : List (D × D)) : allP (ps ++ qs) = (allP ps && allP qs) := by simp [allP]
def S__law_same : Spec := fun ds R => ∃ t d : D, ds = [t, d] ∧ t.good = true ∧ dueOk d = true ∧ wt d ≤ 900000 ∧ R (.bl (sameB t d))
theorem l__law_same : ∀ ds R, S__law_same ds R → ds.length = 2 := fun ds R ⟨_, _, h, _⟩ => by rw [h]; rfl
@[simp] theorem S__law_same_ap (t d : D) (R : D → Prop) : S__law_same [t, d] R = (t.good = true ∧ dueOk d = true ∧ wt d ≤ 900000 ∧ R (.bl (sameB t d))) := propext ⟨fun ⟨a, b, h, hR⟩ => by simp at h; obtain ⟨e1, e2⟩ := h; subst e1; subst e2; exact hR, fun h => ⟨t, d, rfl, h⟩⟩
@[simp] theorem sWhile_ap (tc : TT') (tb : TS') (D : Ends') (ρ : PEnv) : sWhile tc tb D ρ = ∃ n, whileN tc tb n D ρ := rfl
@[simp] theorem sAsgX_ap (T : TX') (g : TG') (D : Ends') (ρ : PEnv) : sAsgX T g D ρ = T ρ fun d ρ1 => g d ρ1 D.nx := rfl
@[simp] theorem sApp_ap (i : Nat) (T : TX') (D : Ends') (ρ : PEnv) : sApp i T D ρ = ownL ρ i fun _ => T ρ fun d ρ1 => ownL ρ1 i fun xs => xs.length < sizeLine ∧ D.nx (ρ1.set i (some (.lst (xs ++ [d])))) := rfl
@[simp] theorem xUp_ap (T : TE') (ρ : PEnv) (R : D → PEnv → Prop) : xUp T ρ R = T ρ fun d => R d ρ := rfl
@[simp] theorem isL_ap (xs : List D) (R : List D → Prop) : isL (.lst xs) R = R xs := rfl
@[simp] theorem ownL_ap (ρ : PEnv) (i : Nat) (R : List D → Prop) : ownL ρ i R = getW (ρ[i]?) fun d => isL d R := rfl
theorem xPop_ap (i : Nat) (ρ : PEnv) (R : D → PEnv → Prop) (xs : List D) (d : D) (h : ρ[i]? = some (some (.lst (xs ++ [d])))) (hR : R d (ρ.set i (some (.lst xs)))) : xPop i ρ R := by
  unfold xPop ownL
  rw [h]
  simp
  exact hR

def T__law_same : TS' := (sSeq (sAsg (xLst (xCons (xTup (xCons (xVar 0) (xCons (xVar 1) xNil))) xNil)) (gN 2))
  (sSeq (sWhile (xB (xOp dGt (xOp1 dLen (xVar 2)) (xC (.int 0))))
   (sSeq (sAsgX (xPop 2) (gT (gCons' (gN 3) (gCons' (gN 4) gNil'))))
  (sIf (xB (xIsi "tuple" (xVar 4)))
   (sSeq (sIf (xOr (xNot (xB (xIsi "tuple" (xVar 3)))) (xB (xOp dNe (xOp1 dLen (xVar 3)) (xOp1 dLen (xVar 4)))))
   (sRet (xC (.bl false)))
   sNext)
  (sFor (xRange1 (xOp1 dLen (xVar 4))) (gN 5)
   (sApp 2 (xUp (xTup (xCons (xOp dIx (xVar 3) (xVar 5)) (xCons (xOp dIx (xVar 4) (xVar 5)) xNil)))))))
   (sIf (xOr (xB (xIsiT ["tuple", "list", "dict"] (xVar 3))) (xNot (xB (xCall S__law_is_kind (xCons (xVar 3) (xCons (xVar 4) xNil))))))
   (sRet (xC (.bl false)))
   sNext))))
  (sRet (xC (.bl true)))))


theorem push_loop {D : Ends'} {b : TS'} (t0 d0 : Option PU.D) (ts ds : List PU.D) (hl : ts.length = ds.length) (hb : ∀ (i : Nat) (xs : List PU.D) (D' : Ends'), (hi : i < ds.length) → xs.length + 1 ≤ 900000 → D'.rt = D.rt → D'.nx [t0, d0, some (.lst (xs ++ [.tup [ts[i]'(by omega), ds[i]]])), some (.tup ts), some (.tup ds), some (.int (i : Nat))] → b D' [t0, d0, some (.lst xs), some (.tup ts), some (.tup ds), some (.int (i : Nat))]) :
    ∀ (k i : Nat) (xs : List PU.D) (y : Option PU.D), i + k = ds.length → xs.length + k ≤ 900000 → (∀ y, D.nx [t0, d0, some (.lst (xs ++ ((ts.zip ds).drop i).map pairD)), some (.tup ts), some (.tup ds), y]) → forL (gN 5) b ((List.range' i k).map fun j => .int (j : Nat)) D [t0, d0, some (.lst xs), some (.tup ts), some (.tup ds), y]
  | 0, i, xs, y, hk, hx, h => by
    rw [List.range'_zero, List.map_nil, forL_nil]
    have e : (ts.zip ds).drop i = [] := List.drop_of_length_le (by simp; omega)
    have := h y
    rw [e] at this
    simpa using this
  | k + 1, i, xs, y, hk, hx, h => by
    rw [List.range'_succ, List.map_cons, forL_cons]
    simp only [gN_ap, List.set_cons_succ, List.set_cons_zero]
    refine hb i xs _ (by omega) (by omega) rfl ?_
    refine push_loop t0 d0 ts ds hl hb k (i + 1) _ _ (by omega) (by simp; omega) fun y => ?_
    have e : (ts.zip ds).drop i = (ts[i]'(by omega), ds[i]'(by omega)) :: (ts.zip ds).drop (i + 1) := by
      rw [List.drop_eq_getElem_cons (by simp; omega)]
      simp
    have := h y
    rw [e] at this
    simpa [pairD] using this
theorem same_loop {D : Ends'} {tc : TT'} {tb : TS'} (t0 d0 : Option PU.D) (hc : ∀ (ps : List (PU.D × PU.D)) (a b c : Option PU.D) (R : Bool → Prop), R (decide (ps ≠ [])) → tc [t0, d0, some (.lst (ps.map pairD)), a, b, c] R)
    (hb : ∀ (ps : List (PU.D × PU.D)) (p : PU.D × PU.D) (a b c : Option PU.D) (D' : Ends'), p.1.good = true → dueOk p.2 = true → wtP ps + wt p.2 ≤ 900000 → D'.rt = D.rt → (∀ ts ds, p.1 = .tup ts → p.2 = .tup ds → ts.length = ds.length → ∀ a b c, D'.nx [t0, d0, some (.lst ((ps ++ ts.zip ds).map pairD)), a, b, c]) → (sameB p.1 p.2 = false → D.rt (.bl false)) → (sameB p.1 p.2 = true → (∀ ds, p.2 ≠ .tup ds) → ∀ a b c, D'.nx [t0, d0, some (.lst (ps.map pairD)), a, b, c]) → tb D' [t0, d0, some (.lst ((ps ++ [p]).map pairD)), a, b, c]) :
    ∀ (m : Nat) (ps : List (PU.D × PU.D)), wtP ps ≤ m → wtP ps ≤ 900000 → (∀ p ∈ ps, p.1.good = true ∧ dueOk p.2 = true) → (allP ps = true → ∀ a b c, D.nx [t0, d0, some (.lst []), a, b, c]) → (allP ps = false → D.rt (.bl false)) → ∃ n, ∀ a b c, whileN tc tb n D [t0, d0, some (.lst (ps.map pairD)), a, b, c] := fun m => by
  induction m with
  | zero =>
    intro ps hm _ _ h1 _
    have : ps = [] := List.length_eq_zero_iff.mp (by have := len_wtP ps; omega)
    subst this
    refine ⟨1, fun a b c => ?_⟩
    unfold whileN
    refine hc _ _ _ _ _ ?_
    simpa using h1 rfl a b c
  | succ m ih =>
    intro ps hm hmm hg h1 h2
    rcases List.eq_nil_or_concat ps with rfl | ⟨ps, p, rfl⟩
    · refine ⟨1, fun a b c => ?_⟩
      unfold whileN
      refine hc _ _ _ _ _ ?_
      simpa using h1 rfl a b c
    · have hw : wtP (ps ++ [p]) = wtP ps + wt p.2 := by simp [wtP]
      rw [List.concat_eq_append] at *
      rw [hw] at hm hmm
      have hp := hg p (by simp)
      have hpos := wt_pos p.2
      have hps : ∀ q ∈ ps, q.1.good = true ∧ dueOk q.2 = true := fun q hq => hg q (by simp [hq])
      have hall : allP (ps ++ [p]) = (allP ps && sameB p.1 p.2) := by simp [allP]
      rw [hall] at h1 h2
      have start : ∀ (n : Nat) (a b c : Option PU.D), tb { D with nx := fun ρ2 => whileN tc tb n D ρ2, ct := fun ρ2 => whileN tc tb n D ρ2, bk := D.nx } [t0, d0, some (.lst ((ps ++ [p]).map pairD)), a, b, c] → whileN tc tb (n + 1) D [t0, d0, some (.lst ((ps ++ [p]).map pairD)), a, b, c] := fun n a b c h => by
        unfold whileN
        refine hc _ _ _ _ _ ?_
        simpa using h
      by_cases hA : ∃ ts ds, p.1 = .tup ts ∧ p.2 = .tup ds ∧ ts.length = ds.length
      · obtain ⟨ts, ds, e1, e2, hl⟩ := hA
        have hwt : wt p.2 = wtL ds + 1 := by rw [e2]; rfl
        have hz := wtL_zip ts ds hl
        have hsame : sameB p.1 p.2 = allP (ts.zip ds) := by rw [e1, e2, ← sameL_zip ts ds hl]; simp only [sameB]
        have hgz : ∀ q ∈ ts.zip ds, q.1.good = true ∧ dueOk q.2 = true := fun q hq => by
          have h3 := hp.1
          have h4 := hp.2
          rw [e1, good_tup] at h3
          rw [e2] at h4
          simp only [dueOk] at h4
          exact ⟨good_mem h3 (List.of_mem_zip hq).1, dueOk_mem h4 (List.of_mem_zip hq).2⟩
        obtain ⟨n, hn⟩ := ih (ps ++ ts.zip ds) (by rw [wtP_append]; omega) (by rw [wtP_append]; omega) (fun q hq => (List.mem_append.mp hq).elim (hps q) (hgz q)) (by rw [allP_append, ← hsame]; exact h1) (by rw [allP_append, ← hsame]; exact h2)
        refine ⟨n + 1, fun a b c => start n a b c ?_⟩
        refine hb ps p a b c _ hp.1 hp.2 hmm rfl (fun ts' ds' h3 h4 _ a b c => ?_) (fun hs => h2 (by rw [hs]; simp)) fun hs hno => absurd e2 (hno ds)
        rw [e1] at h3
        rw [e2] at h4
        cases h3
        cases h4
        exact hn a b c
      · cases hs : sameB p.1 p.2 with
        | false => exact ⟨2, fun a b c => start 1 a b c (hb ps p a b c _ hp.1 hp.2 hmm rfl (fun ts ds h3 h4 h5 => absurd ⟨ts, ds, h3, h4, h5⟩ hA) (fun _ => h2 (by rw [hs]; simp)) fun h => by rw [hs] at h; cases h)⟩
        | true =>
          obtain ⟨n, hn⟩ := ih ps (by omega) (by omega) hps (fun q => h1 (by rw [q, hs]; rfl)) (fun q => h2 (by rw [q]; rfl))
          exact ⟨n + 1, fun a b c => start n a b c (hb ps p a b c _ hp.1 hp.2 hmm rfl (fun ts ds h3 h4 h5 => absurd ⟨ts, ds, h3, h4, h5⟩ hA) (fun h => by rw [hs] at h; cases h) fun _ _ => hn)⟩

theorem m__law_same : ∀ ds R, S__law_same ds R → T__law_same { nx := fun _ => R .non, rt := R } (startD 6 ds) := fun ds R h => by
  obtain ⟨t, d, rfl, hg, hdue, hw, hR⟩ := h
  simp [T__law_same, startD]
  have := same_loop (D := { nx := fun ρ1 => R (.bl true), rt := R }) (some t) (some d) (tc := xB (xOp dGt (xOp1 dLen (xVar 2)) (xC (.int 0)))) (tb := (sSeq (sAsgX (xPop 2) (gT (gCons' (gN 3) (gCons' (gN 4) gNil')))) (sIf (xB (xIsi "tuple" (xVar 4))) (sSeq (sIf (xOr (xNot (xB (xIsi "tuple" (xVar 3)))) (xB (xOp dNe (xOp1 dLen (xVar 3)) (xOp1 dLen (xVar 4))))) (sRet (xC (.bl false))) sNext) (sFor (xRange1 (xOp1 dLen (xVar 4))) (gN 5) (sApp 2 (xUp (xTup (xCons (xOp dIx (xVar 3) (xVar 5)) (xCons (xOp dIx (xVar 4) (xVar 5)) xNil))))))) (sIf (xOr (xB (xIsiT ["tuple", "list", "dict"] (xVar 3))) (xNot (xB (xCall S__law_is_kind (xCons (xVar 3) (xCons (xVar 4) xNil)))))) (sRet (xC (.bl false))) sNext)))) (fun ps a b c R h => ?_) (fun ps p a b c D' hg hdue hw hD h1 h2 h3 => ?_) (wt d) [(t, d)] (by simp [wtP]) (by simp [wtP]; exact hw) (by simp [hg, hdue]) (fun h a b c => ?_) (fun h => ?_)
  · obtain ⟨n, hn⟩ := this
    exact ⟨n, hn none none none⟩
  · simp
    cases ps <;> simpa using h
  · simp only [sSeq_ap, sAsgX_ap]
    refine xPop_ap 2 _ _ (ps.map pairD) (pairD p) (by simp) ?_
    obtain ⟨t, d⟩ := p
    have hi := good_isIns hg
    simp only at hg hdue hw h1 h2 h3 hi
    simp [pairD]
    cases d with
    | tup ds =>
      simp [D.isIns, D.tyN, tyIs, hi]
      cases t with
      | tup ts =>
        simp [D.isIns, tyIs, hD]
        by_cases hl : ts.length = ds.length
        · rw [if_pos hl]
          have hlen : ds.length ≤ wtL ds := by have := len_wtP (ts.zip ds); rw [wtL_zip ts ds hl] at this; simp [hl] at this; exact this
          simp only [wt] at hw
          have hlp := len_wtP ps
          refine ⟨by omega, ?_⟩
          have e : rngD 0 ds.length = (List.range' 0 ds.length).map fun j => D.int (j : Nat) := by simp [rngD, List.range_eq_range']
          rw [e]
          refine push_loop (some _) (some _) ts ds hl (fun i xs D'' hi hx hD2 h => ?_) ds.length 0 _ _ (by omega) (by simp; omega) fun y => ?_
          · have a1 : atI ts (i : Int) = some (ts[i]'(by omega)) := atI_at ts i (by omega)
            have a2 : atI ds (i : Int) = some ds[i] := atI_at ds i hi
            simp [a1, a2]
            exact ⟨by rw [sizeLine_eq]; omega, h⟩
          · have := h1 ts ds rfl rfl hl (some (.tup ts)) (some (.tup ds)) y
            simpa using this
        · rw [if_neg hl]
          exact h2 (by simp only [sameB]; exact sameL_len ts ds hl)
      | ins _ _ _ => simp at hg
      | _ => simpa [D.isIns, tyIs, hD] using h2 rfl
    | lst _ => simp [dueOk] at hdue
    | ins _ _ _ => simp [dueOk] at hdue
    | str sx =>
      have hd2 : (D.str sx).good = true := hdue
      simp [D.isIns, D.tyN, tyIs, hi]
      cases t with
      | ins _ _ _ => simp at hg
      | tup _ => simpa [D.tyN, tyIs, hD] using h2 rfl
      | lst _ => simpa [D.tyN, tyIs, hD] using h2 rfl
      | _ =>
        simp [D.tyN, tyIs, D.scal, hg, hD, hd2]
        first
          | done
          | (split
             · rename_i hk; exact h3 (by simpa [sameB] using hk) (fun _ z => by cases z) _ _ _
             · rename_i hk; exact h2 (by simpa [sameB] using hk))
    | _ =>
      simp [D.isIns, D.tyN, tyIs, hi]
      cases t with
      | ins _ _ _ => simp at hg
      | tup _ => simpa [D.tyN, tyIs, hD] using h2 rfl
      | lst _ => simpa [D.tyN, tyIs, hD] using h2 rfl
      | _ =>
        simp [D.tyN, tyIs, D.scal, hg, hD]
        first
          | done
          | (split
             · rename_i hk; exact h3 (by simpa [sameB] using hk) (fun _ z => by cases z) _ _ _
             · rename_i hk; exact h2 (by simpa [sameB] using hk))
  · have : sameB t d = true := by simpa [allP] using h
    rw [this] at hR; exact hR
  · have : sameB t d = false := by simpa [allP] using h
    rw [this] at hR; exact hR

def S__law_all : Spec := fun ds R => ∃ ps : List (D × D), ds = [.lst (ps.map pairD)] ∧ (∀ p ∈ ps, p.1.good = true ∧ dueOk p.2 = true ∧ wt p.2 ≤ 900000) ∧ R (.bl (allP ps))
theorem l__law_all : ∀ ds R, S__law_all ds R → ds.length = 1 := fun ds R ⟨_, h, _⟩ => by rw [h]; rfl
def fstD : D → D | .tup [a, _] => a | _ => .non
def sndD : D → D | .tup [_, b] => b | _ => .non

def T__law_all : TS' := (sRet (xOp dEq (xOp1 dLen (xLc (xSeq (xVar 0)) (gT (gCons' (gN 1) (gCons' (gN 2) gNil'))) (xNot (xB (xCall S__law_same (xCons (xVar 1) (xCons (xVar 2) xNil))))) (xVar 1) [1, 2])) (xC (.int 0))))

theorem m__law_all : ∀ ds R, S__law_all ds R → T__law_all { nx := fun _ => R .non, rt := R } (startD 3 ds) := fun ds R h => by
  obtain ⟨ps, rfl, hp, hR⟩ := h
  simp [T__law_all, startD]
  refine lcLoop_plain (p := fun x => !sameB (fstD x) (sndD x)) (f := fun x => fstD x) (fun x hx k k2 h1 h2 => ?_) ?_
  · obtain ⟨p, hp', rfl⟩ := List.mem_map.mp hx
    obtain ⟨a1, a2, a3⟩ := hp p hp'
    simp [wipe', pairD, a1, a2, a3]
    simp only [pairD, fstD, sndD] at h1 h2
    cases hs : sameB p.1 p.2 with
    | true => simpa using h2 (by rw [hs]; rfl)
    | false => simpa using h1 (by rw [hs]; rfl)
  · have e : allP ps = ((ps.map pairD).filter fun x => !sameB (fstD x) (sndD x)).isEmpty := by
      rw [isEmpty_filter, List.all_map]
      unfold allP
      congr 1
      funext p
      simp [pairD, fstD, sndD]
    rw [e] at hR
    cases q : (ps.map pairD).filter fun x => !sameB (fstD x) (sndD x) with
    | nil => rw [q] at hR; simpa [q] using hR
    | cons a l =>
      rw [q] at hR
      have : ¬ ((l.length : Int) + 1 = 0) := by omega
      simpa [q, this] using hR

end PU
set_option Elab.async false
set_option linter.all false
set_option maxRecDepth 100000
set_option maxHeartbeats 4000000
/-! rows: sorted rooms, rooms that are reduced already, parts and longer rows -/
namespace PU

theorem Apart.symm {a b : Row} (h : Apart a b) : Apart b a := ⟨h.2, h.1⟩
theorem RFm.perm {n : Nat} {F M : List Row} (hF : RFm n F) (hp : M.Perm F) : RFm n M :=
  ⟨fun r hr => hF.good r (hp.mem_iff.mp hr), (hp.pairwise_iff Apart.symm).mpr hF.apart⟩
theorem apart_ne {n : Nat} {a b : Row} (ga : Good n a) (h : Apart a b) : hd a ≠ hd b := fun z => by
  have h1 := h.1
  rw [← z, ga.one] at h1
  exact absurd h1 (by decide)
theorem RFm.AI {n : Nat} {M : List Row} (h : RFm n M) (hs : (M.map hd).Pairwise (· ≤ ·)) : PU.AI M := fun i hi => by
  rw [List.pairwise_map] at hs
  have h1 := List.pairwise_iff_getElem.mp hs i (i + 1) (by omega) hi (by omega)
  have h2 := List.pairwise_iff_getElem.mp h.apart i (i + 1) (by omega) hi (by omega)
  have := apart_ne (h.good _ (List.getElem_mem (by omega))) h2
  omega
theorem RFm.UN {n : Nat} {M : List Row} (h : RFm n M) : PU.UN M := fun j hj i hi => by
  have ei : M.getD i [] = M[i] := by simp [hi]
  have ej : M.getD j [] = M[j] := by simp [hj]
  rw [ei, ej]
  show at0 M[i] (hd M[j]) = _
  rcases Nat.lt_trichotomy i j with q | q | q
  · rw [if_neg (by omega)]
    exact (List.pairwise_iff_getElem.mp h.apart i j hi hj q).1
  · subst q
    rw [if_pos rfl]
    exact (h.good _ (List.getElem_mem hi)).one
  · rw [if_neg (by omega)]
    exact (List.pairwise_iff_getElem.mp h.apart j i hj hi q).2
theorem one_lt : 1 < 2 ^ 4000 := Nat.one_lt_two_pow (by decide)
theorem sm_0 : sm 0 := ⟨log2_lt (show 0 < 2 ^ 4000 from Nat.lt_trans (by decide) one_lt) (by decide), log2_lt (show 1 < 2 ^ 4000 from one_lt) (by decide)⟩
theorem sm_1 : sm 1 := ⟨log2_lt (show 1 < 2 ^ 4000 from one_lt) (by decide), log2_lt (show 1 < 2 ^ 4000 from one_lt) (by decide)⟩
theorem rest_self {n : Nat} : ∀ {M : List Row} {r : Row}, r.length = n → (∀ o ∈ M, o.length = n ∧ at0 r (hd o) = 0) → restR r M = r
  | [], r, _, _ => rfl
  | o :: M, r, hl, h => by
    have ho := h o (by simp)
    unfold restR
    rw [List.foldl_cons, sub1_zero (by rw [hl, ho.1]) ho.2]
    exact rest_self (M := M) hl fun q hq => h q (by simp [hq])
theorem restOk_self {n : Nat} : ∀ {M : List Row} {r : Row}, r.length = n → (∀ x ∈ r, sm x) → (∀ o ∈ M, o.length = n ∧ hd o < n ∧ at0 r (hd o) = 0 ∧ ∀ x ∈ o, sm x) → RestOk r M
  | [], r, _, _, _ => trivial
  | o :: M, r, hl, hs, h => by
    obtain ⟨h1, h2, h3, h4⟩ := h o (by simp)
    refine ⟨by omega, by omega, hs, h4, fun x hx => ?_, ?_⟩
    · rw [h3, show -(0 : Rat) * x = 0 by grind]; exact sm_0
    · rw [sub1_zero (by omega) h3]
      exact restOk_self hl hs fun q hq => h q (by simp [hq])
theorem scal_one (r : Row) : scal 1 r = r := by
  refine row_ext (by simp) fun i _ => ?_
  rw [at_scal]; grind
theorem step_self {n : Nat} {M : List Row} {r : Row} (h : RFm n (M ++ [r])) (hs : ∀ o ∈ M ++ [r], ∀ x ∈ o, sm x) : stepR M r = M ++ [r] ∧ StepOk M r := by
  have gr := h.good r (by simp)
  have hap := List.pairwise_append.mp h.apart
  have hz : ∀ o ∈ M, o.length = n ∧ at0 r (hd o) = 0 := fun o ho => ⟨(h.good o (by simp [ho])).len, (hap.2.2 o ho r (by simp)).2⟩
  have hr := rest_self gr.len hz
  have hlt : hd r < r.length := by rw [gr.len]; exact gr.lt
  have hinv : (1 : Rat)⁻¹ = 1 := by have := Rat.inv_mul_cancel (1 : Rat) (by decide); grind
  have hsc : scal (at0 r (hd r))⁻¹ r = r := by rw [gr.one, hinv, scal_one]
  have hsub : ∀ o ∈ M, sub1 o r = o := fun o ho => sub1_zero (by rw [(hz o ho).1, gr.len]) (hap.2.2 o ho r (by simp)).1
  constructor
  · unfold stepR
    dsimp only
    rw [hr, if_pos hlt, hsc]
    congr 1
    conv => rhs; rw [← List.map_id M]
    exact List.map_congr_left fun o ho => by rw [rest_one]; exact hsub o ho
  · unfold StepOk
    rw [hr, hsc, gr.one, hinv]
    refine ⟨fun o ho => by rw [(hz o ho).1, gr.len], restOk_self gr.len (hs r (by simp)) fun o ho => ⟨(hz o ho).1, (h.good o (by simp [ho])).lt, (hz o ho).2, hs o (by simp [ho])⟩, fun _ => ⟨sm_1, sm_1, hs r (by simp), fun o ho => ?_⟩⟩
    exact restOk_self (hz o ho).1 (hs o (by simp [ho])) fun q hq => by
      rw [List.mem_singleton.mp hq]
      exact ⟨gr.len, gr.lt, (hap.2.2 o ho r (by simp)).1, hs r (by simp)⟩
theorem fold_self {n : Nat} : ∀ {E M : List Row}, RFm n (M ++ E) → (∀ o ∈ M ++ E, ∀ x ∈ o, sm x) → E.foldl stepR M = M ++ E ∧ RoomOk E M
  | [], M, _, _ => ⟨by simp, trivial⟩
  | r :: E, M, h, hs => by
    have e : M ++ r :: E = (M ++ [r]) ++ E := by simp
    rw [e] at h hs
    have h1 : RFm n (M ++ [r]) := ⟨fun q hq => h.good q (List.mem_append_left _ hq), (List.pairwise_append.mp h.apart).1⟩
    obtain ⟨s1, s2⟩ := step_self h1 fun o ho => hs o (List.mem_append_left _ ho)
    obtain ⟨t1, t2⟩ := fold_self (E := E) (M := M ++ [r]) h hs
    rw [List.foldl_cons, s1, t1]
    refine ⟨by simp, s2, ?_⟩
    rw [s1]; exact t2
theorem room_self {n : Nat} {E : List Row} (h : RFm n E) (hs : ∀ o ∈ E, ∀ x ∈ o, sm x) : roomR E = E ∧ RoomOk E [] := by
  have := fold_self (M := []) (E := E) (n := n) (by simpa using h) (by simpa using hs)
  simpa [roomR] using this
/-! parts of rows -/
theorem at_drop (r : Row) (k i : Nat) : at0 (r.drop k) i = at0 r (k + i) := by simp [at0, List.getElem?_drop]
theorem hd_drop {r : Row} {k : Nat} (hk : k ≤ hd r) (hl : hd r < r.length) : hd (r.drop k) = hd r - k := by
  refine (hd_eq ?_ fun i hi => ?_).1
  · rw [at_drop, show k + (hd r - k) = hd r by omega]; exact hd_spec hl
  · rw [at_drop]; exact hd_before (by omega)
def tailR (k : Nat) (M : List Row) : List Row := (M.filter fun r => decide (k ≤ hd r)).map (·.drop k)
theorem tail_RFm {k n : Nat} {M : List Row} (h : RFm (k + n) M) : RFm n (tailR k M) := by
  have hm : ∀ r ∈ M.filter fun r => decide (k ≤ hd r), r ∈ M ∧ k ≤ hd r := fun r hr => by simpa using hr
  have hh : ∀ r ∈ M.filter fun r => decide (k ≤ hd r), hd (r.drop k) = hd r - k := fun r hr => by
    have g := h.good r (hm r hr).1
    exact hd_drop (hm r hr).2 (by rw [g.len]; exact g.lt)
  constructor
  · intro q hq
    obtain ⟨r, hr, rfl⟩ := List.mem_map.mp hq
    have g := h.good r (hm r hr).1
    have hk := (hm r hr).2
    refine ⟨by simp [g.len], by rw [hh r hr]; have := g.lt; omega, ?_⟩
    rw [hh r hr, at_drop, show k + (hd r - k) = hd r by omega]; exact g.one
  · unfold tailR
    rw [List.pairwise_map]
    refine List.Pairwise.imp_of_mem (fun {a b} ha hb hab => ?_) (h.apart.filter _)
    have h1 := (hm a ha).2
    have h2 := (hm b hb).2
    unfold Apart
    rw [hh a ha, hh b hb, at_drop, at_drop, show k + (hd b - k) = hd b by omega, show k + (hd a - k) = hd a by omega]
    exact hab
theorem tail_len (k : Nat) (M : List Row) : (tailR k M).length ≤ M.length := by
  unfold tailR; rw [List.length_map]; exact List.length_filter_le _ _
theorem tail_ht {B k : Nat} {M : List Row} (h : HtM B M) : HtM B (tailR k M) := by
  obtain ⟨p, a, b, c⟩ := h
  refine ⟨p, a, b, fun o ho i => ?_⟩
  obtain ⟨r, hr, rfl⟩ := List.mem_map.mp ho
  rw [at_drop]
  exact c r (List.mem_filter.mp hr).1 _
theorem perm_ht {B : Nat} {M N : List Row} (h : HtM B M) (hp : N.Perm M) : HtM B N := by
  obtain ⟨p, a, b, c⟩ := h
  exact ⟨p, a, b, fun o ho i => c o (hp.mem_iff.mp ho) i⟩
/-! longer rows -/
theorem at_snoc_lt (r : Row) (x : Rat) (i : Nat) (h : i < r.length) : at0 (r ++ [x]) i = at0 r i := by simp [at0, List.getElem?_append_left h]
theorem hd_snoc {n : Nat} {r : Row} (g : Good n r) (x : Rat) : hd (r ++ [x]) = hd r := by
  have hl : hd r < r.length := by rw [g.len]; exact g.lt
  refine (hd_eq ?_ fun i hi => ?_).1
  · rw [at_snoc_lt _ _ _ hl]; exact hd_spec hl
  · rw [at_snoc_lt _ _ _ (by omega)]; exact hd_before hi
theorem snoc_RFm {n : Nat} {N : List Row} (h : RFm n N) (f : Row → Rat) : RFm (n + 1) (N.map fun r => r ++ [f r]) ∧ ∀ r ∈ N.map fun r => r ++ [f r], hd r < n := by
  have lt : ∀ r ∈ N, hd r < r.length := fun r hr => by rw [(h.good r hr).len]; exact (h.good r hr).lt
  refine ⟨⟨fun q hq => ?_, ?_⟩, fun q hq => ?_⟩
  · obtain ⟨r, hr, rfl⟩ := List.mem_map.mp hq
    have g := h.good r hr
    refine ⟨by simp [g.len], by rw [hd_snoc g]; have := g.lt; omega, ?_⟩
    rw [hd_snoc g, at_snoc_lt _ _ _ (lt r hr)]; exact g.one
  · rw [List.pairwise_map]
    refine List.Pairwise.imp_of_mem (fun {a b} ha hb hab => ?_) h.apart
    unfold Apart
    have la := lt a ha
    have lb := lt b hb
    have ea := (h.good a ha).len
    have eb := (h.good b hb).len
    rw [hd_snoc (h.good a ha), hd_snoc (h.good b hb), at_snoc_lt _ _ _ (by omega), at_snoc_lt _ _ _ (by omega)]
    exact hab
  · obtain ⟨r, hr, rfl⟩ := List.mem_map.mp hq
    rw [hd_snoc (h.good r hr)]
    exact (h.good r hr).lt
/-! unit rows -/
theorem unit_len {n i : Nat} (h : i < n) : (unitR n i).length = n := by simp [unitR, zerosR]; omega
theorem at_unit {n i : Nat} (h : i < n) (j : Nat) : at0 (unitR n i) j = if j = i then 1 else 0 := by
  unfold unitR zerosR at0
  simp only [List.getD_eq_getElem?_getD, List.append_assoc]
  rcases Nat.lt_trichotomy j i with q | q | q
  · rw [List.getElem?_append_left (by simpa using q), if_neg (by omega)]; simp [q]
  · subst q; rw [List.getElem?_append_right (by simp), if_pos rfl]; simp
  · rw [List.getElem?_append_right (by simp; omega), if_neg (by omega)]
    simp only [List.length_replicate]
    rw [List.getElem?_append_right (by simp; omega)]
    simp only [List.length_singleton, List.getElem?_replicate]
    split <;> rfl
theorem hd_unit {n i : Nat} (h : i < n) : hd (unitR n i) = i := (hd_eq (by rw [at_unit h, if_pos rfl]; decide) fun j hj => by rw [at_unit h, if_neg (by omega)]).1
theorem unit_good {n i : Nat} (h : i < n) : Good n (unitR n i) := ⟨unit_len h, by rw [hd_unit h]; exact h, by rw [hd_unit h, at_unit h, if_pos rfl]⟩
theorem units_RFm (n : Nat) : RFm n (unitsR n) := by
  constructor
  · intro r hr
    simp only [unitsR, List.mem_map, List.mem_range] at hr
    obtain ⟨i, hi, rfl⟩ := hr
    exact unit_good hi
  · unfold unitsR
    rw [List.pairwise_map]
    refine List.Pairwise.imp_of_mem (fun {a b} ha hb hab => ?_) (List.nodup_range (n := n))
    have h1 := List.mem_range.mp ha
    have h2 := List.mem_range.mp hb
    unfold Apart
    rw [hd_unit h1, hd_unit h2, at_unit h1, at_unit h2, if_neg (Ne.symm hab), if_neg hab]
    exact ⟨rfl, rfl⟩
theorem ht_01 {B p : Nat} (hp : p ≤ B) {x : Rat} (h : x = 0 ∨ x = 1) : Ht B p x := by
  rcases h with rfl | rfl
  · exact ht_zero _ _
  · exact ⟨p, by rw [Rat.intCast_natCast]; grind, by simpa using hp⟩
theorem units_ht {B n : Nat} (h : 1 ≤ B) : HtM B (unitsR n) := ⟨1, by omega, h, fun o ho i => by
  simp only [unitsR, List.mem_map, List.mem_range] at ho
  obtain ⟨j, hj, rfl⟩ := ho
  rw [at_unit hj]
  exact ht_01 h (by split <;> simp)⟩
/-! what a flat is -/
structure FlatP (n : Nat) (M : List Row) : Prop where
  rf : RFm (n + 1) M
  lt : ∀ r ∈ M, hd r < n
  ai : PU.AI M
  sm : ∀ r ∈ M, ∀ x ∈ r, PU.sm x
  few : M.length ≤ n
theorem FlatP.is {n : Nat} {M : List Row} (h : FlatP n M) : flatB n (roomD M) = true := by
  have hl : ∀ r ∈ M, r.length = n + 1 := fun r hr => (h.rf.good r hr).len
  have h1 : formB ((n : Int) + 1) (roomD M) = true := form_room.mpr fun r hr => by have := hl r hr; omega
  have h2 : ∀ r ∈ M, hd r < r.length := fun r hr => by rw [hl r hr]; exact (h.rf.good r hr).lt
  have h3 : rrB M = true := decide_eq_true ⟨h.ai, h.rf.UN⟩
  have h4 : falseB M = false := by
    unfold falseB
    cases q : M.getLast? with
    | none => rfl
    | some r =>
      have hr := List.mem_of_getLast? q
      have e := headI_of (h2 r hr)
      have := h.lt r hr
      simp only [decide_eq_false_iff_not]
      rw [e, hl r hr]
      omega
  simp [flatB, roomB, h1, toM_room, h3, h4]
  exact h2
def pointR (r : Row) : List Row := (List.range r.length).map fun i => unitR r.length i ++ [at0 r i]
theorem point_get (r : Row) (i : Nat) (h : i < (pointR r).length) : (pointR r)[i] = unitR r.length i ++ [at0 r i] := by simp [pointR]
theorem point_flat {r : Row} (hs : ∀ x ∈ r, sm x) (j : Nat) : FlatP r.length ((pointR r).take j) := by
  have base : RFm (r.length + 1) (pointR r) ∧ ∀ q ∈ pointR r, hd q < r.length := by
    have e : pointR r = (unitsR r.length).map fun q => q ++ [at0 r (hd q)] := by
      simp only [pointR, unitsR, List.map_map]
      refine List.map_congr_left fun i hi => ?_
      simp only [Function.comp_def]
      rw [hd_unit (List.mem_range.mp hi)]
    rw [e]
    exact snoc_RFm (units_RFm _) fun q => at0 r (hd q)
  have hlen : (pointR r).length = r.length := by simp [pointR]
  have hh : ∀ i, (h : i < (pointR r).length) → hd (pointR r)[i] = i := fun i h => by
    rw [point_get, hd_snoc (unit_good (by omega))]
    exact hd_unit (by omega)
  refine ⟨⟨fun q hq => base.1.good q (List.mem_of_mem_take hq), base.1.apart.sublist (List.take_sublist _ _)⟩, fun q hq => base.2 q (List.mem_of_mem_take hq), fun i hi => ?_, fun q hq x hx => ?_, by simp; omega⟩
  · simp only [List.length_take] at hi
    simp only [List.getElem_take]
    rw [hh, hh]; omega
  · have := List.mem_of_mem_take hq
    simp only [pointR, List.mem_map, List.mem_range] at this
    obtain ⟨i, hi, rfl⟩ := this
    rcases List.mem_append.mp hx with hx | hx
    · obtain ⟨k, _, rfl⟩ := mem_at hx
      rw [at_unit hi]
      split
      · exact sm_1
      · exact sm_0
    · rw [List.mem_singleton.mp hx]; exact hs _ (at_mem hi)
end PU
set_option Elab.async false
set_option linter.all false
set_option maxRecDepth 100000
set_option maxHeartbeats 4000000
/-! the law's flats -/
namespace PU
open PySem PySem.Spec PyProof.Rows L2
def dotK (a b : Row) : Nat → Rat
  | 0 => 0
  | k + 1 => dotK a b k + at0 a k * at0 b k
def DotOk (a b : Row) : Prop := a.length = b.length ∧ a.length ≤ 1000 ∧ ∀ k, k < a.length → sm (dotK a b k) ∧ sm (at0 a k) ∧ sm (at0 b k) ∧ sm (at0 a k * at0 b k)

def S__law_dot : Spec := fun ds R => ∃ (a : Row) (b : Row), ds = [rowD a, rowD b] ∧ DotOk a b ∧ R (frD (dotK a b a.length))
theorem l__law_dot : ∀ ds R, S__law_dot ds R → ds.length = 2 := fun ds R ⟨_, _, h, _⟩ => by rw [h]; rfl
@[simp] theorem S__law_dot_ap (a : Row) (b : Row) (R : D → Prop) : S__law_dot [rowD a, rowD b] R = (DotOk a b ∧ R (frD (dotK a b a.length))) := propext ⟨fun ⟨a', b', h, hR⟩ => by simp at h; obtain ⟨rfl, rfl⟩ := h; exact hR, fun h => ⟨a, b, rfl, h⟩⟩
def T__law_dot : TS' := (sSeq (sAsg (xTup (xCons (xC (.int 0)) (xCons (xC (.int 1)) xNil))) (gN 2))
  (sSeq (sFor (xRange1 (xOp1 dLen (xVar 0))) (gN 3)
   (sAsg (xCall S__law_plus (xCons (xC (.int 0)) (xCons (xVar 2) (xCons (xCall S__law_times (xCons (xC (.int 0)) (xCons (xOp dIx (xVar 0) (xVar 3)) (xCons (xOp dIx (xVar 1) (xVar 3)) xNil)))) xNil)))) (gN 2)))
  (sRet (xVar 2))))


theorem dot_loop {D : Ends'} {b : TS'} (x y : Option PU.D) (r s : Row) (n : Nat) (hb : ∀ (k : Nat) (D' : Ends'), k < n → D'.rt = D.rt → D'.nx [x, y, some (frD (dotK r s (k + 1))), some (.int (k : Nat))] → b D' [x, y, some (frD (dotK r s k)), some (.int (k : Nat))]) : ∀ (k i : Nat) (z : Option PU.D), i + k = n → (∀ z, D.nx [x, y, some (frD (dotK r s n)), z]) → forL (gN 3) b ((List.range' i k).map fun j => .int (j : Nat)) D [x, y, some (frD (dotK r s i)), z]
  | 0, i, z, hk, h => by
    rw [List.range'_zero, List.map_nil, forL_nil]
    have : i = n := by omega
    subst this
    exact h z
  | k + 1, i, z, hk, h => by
    rw [List.range'_succ, List.map_cons, forL_cons]
    simp only [gN_ap, List.set_cons_succ, List.set_cons_zero]
    exact hb i _ (by omega) rfl (dot_loop x y r s n hb k (i + 1) _ (by omega) h)

theorem m__law_dot : ∀ ds R, S__law_dot ds R → T__law_dot { nx := fun _ => R .non, rt := R } (startD 4 ds) := fun ds R h => by
  obtain ⟨a, b, rfl, ⟨h1, h2, h3⟩, hR⟩ := h
  simp [T__law_dot, startD, ← fr_zero]
  refine ⟨by omega, ?_⟩
  have e : rngD 0 a.length = (List.range' 0 a.length).map fun j => D.int (j : Nat) := by simp [rngD, List.range_eq_range']
  rw [e]
  refine dot_loop (some _) (some _) a b a.length (fun k D' hk hD h => ?_) a.length 0 _ (by omega) fun z => hR
  obtain ⟨s1, s2, s3, s4⟩ := h3 k hk
  simp [rowD_at a k hk, rowD_at b k (by omega), s1, s2, s3, s4]
  exact h

def flatRes (n : Nat) (M : List Row) : D := match M.getLast? with
  | some r => if headI r = (n : Int) then .non else roomD M
  | none => roomD M
def S__law_flat : Spec := fun ds R => ∃ (n : Nat) (E : List Row), ds = [.int (n : Nat), lstD E] ∧ (∀ r ∈ E, r.length = n + 1) ∧ n ≤ 399 ∧ E.length ≤ 400 ∧ RoomOk E [] ∧ ∀ M : List Row, M.Perm (roomR E) → (M.map hd).Pairwise (· ≤ ·) → R (flatRes n M)
theorem l__law_flat : ∀ ds R, S__law_flat ds R → ds.length = 2 := fun ds R ⟨_, _, h, _⟩ => by rw [h]; rfl

def T__law_flat : TS' := (sSeq (sAsg (xCall S__law_room (xCons (xC (.int 0)) (xCons (xVar 1) xNil))) (gN 2))
  (sRet (xIf (xAnd (xB (xOp dGt (xOp1 dLen (xVar 2)) (xC (.int 0)))) (xB (xOp dEq (xCall S__law_head (xCons (xC (.int 0)) (xCons (xOp dIx (xVar 2) (xOp1 dNeg (xC (.int 1)))) xNil))) (xVar 0)))) (xC .non) (xVar 2))))

theorem m__law_flat : ∀ ds R, S__law_flat ds R → T__law_flat { nx := fun _ => R .non, rt := R } (startD 3 ds) := fun ds R h => by
  obtain ⟨n, E, rfl, hl, hn, hE, hok, hR⟩ := h
  simp [T__law_flat, startD]
  refine ⟨E, n + 1, _, rfl, .inr rfl, hl, by omega, hE, hok, fun M hp hs => ?_⟩
  have hM : RFm (n + 1) M := (room_RFm hl).perm hp
  have := hR M hp hs
  unfold flatRes at this
  simp
  by_cases hne : M = []
  · subst hne
    simpa using this
  · rw [List.getLast?_eq_getLast hne] at this
    have hpos : 0 < M.length := List.length_pos_iff.mpr hne
    rw [if_pos hpos]
    have hne2 : M.map rowD ≠ [] := by simpa using hne
    have e : atI (M.map rowD) (-1) = some (rowD (M.getLast hne)) := by rw [atI_end hne2, List.getLast_map]
    have e' : dIx (roomD M) (.int (-1)) = some (rowD (M.getLast hne)) := e
    have hlen := (hM.good _ (List.getLast_mem hne)).len
    simp [e']
    refine ⟨by omega, ?_⟩
    simp only at this
    split
    · rename_i hh; rw [if_pos hh] at this; exact this
    · rename_i hh; rw [if_neg hh] at this; exact this

def srcRows (Tb : List Row) : List Row := (List.range Tb.length).map fun i => Tb.getD i [] ++ unitR Tb.length i
def S__law_source : Spec := fun ds R => ∃ (Tb : List Row) (k : Nat), ds = [.int 0, roomD Tb, roomD []] ∧ Tb ≠ [] ∧ (∀ r ∈ Tb, r.length = k) ∧ k + Tb.length ≤ 250 ∧ RoomOk (srcRows Tb) [] ∧ ∀ M : List Row, M.Perm (roomR (srcRows Tb)) → (M.map hd).Pairwise (· ≤ ·) → R (roomD (tailR k M))
theorem l__law_source : ∀ ds R, S__law_source ds R → ds.length = 3 := fun ds R ⟨_, _, h, _⟩ => by rw [h]; rfl
theorem src_len {Tb : List Row} {k : Nat} (h : ∀ r ∈ Tb, r.length = k) : ∀ r ∈ srcRows Tb, r.length = k + Tb.length := fun r hr => by
  simp only [srcRows, List.mem_map, List.mem_range] at hr
  obtain ⟨i, hi, rfl⟩ := hr
  have e : Tb.getD i [] = Tb[i] := by simp [hi]
  rw [e, List.length_append, unit_len hi, h _ (List.getElem_mem hi)]

def T__law_source : TS' := (sSeq (sAsg (xTup (xCons (xOp1 dLen (xOp dIx (xVar 1) (xC (.int 0)))) (xCons (xOp1 dLen (xVar 1)) xNil))) (gT (gCons' (gN 3) (gCons' (gN 4) gNil'))))
  (sSeq (sAsg (xLc (xRange1 (xVar 4)) (gN 6) xYes (xOp dAdd (xCall S__law_rest (xCons (xVar 0) (xCons (xOp dIx (xVar 1) (xVar 6)) (xCons (xVar 2) xNil)))) (xCall S__law_unit (xCons (xVar 0) (xCons (xVar 4) (xCons (xVar 6) xNil))))) [6]) (gN 5))
  (sRet (xOp1 dTupOf (xLc (xSeq (xCall S__law_room (xCons (xVar 0) (xCons (xVar 5) xNil)))) (gN 7) (xB (xOp dGe (xCall S__law_head (xCons (xVar 0) (xCons (xVar 7) xNil))) (xVar 3))) (xSl (xVar 7) (xPart (xVar 3)) xNo) [7])))))

theorem m__law_source : ∀ ds R, S__law_source ds R → T__law_source { nx := fun _ => R .non, rt := R } (startD 8 ds) := fun ds R h => by
  obtain ⟨Tb, k, rfl, hne, hk, hkn, hok, hR⟩ := h
  have hpos : 0 < Tb.length := List.length_pos_iff.mpr hne
  have e0 : dIx (roomD Tb) (.int 0) = some (rowD Tb[0]) := roomD_at Tb 0 hpos
  have l0 : (Tb[0]).length = k := hk _ (List.getElem_mem hpos)
  simp [T__law_source, startD, e0, l0]
  refine ⟨by omega, ?_⟩
  refine lcLoop_map (f := fun x => match x with | .int i => rowD (Tb.getD i.toNat [] ++ unitR Tb.length i.toNat) | _ => .non) (fun x hx k' h1 => ?_) ?_
  · obtain ⟨i, hi, rfl⟩ := rng_mem hx
    have hr := hk _ (List.getElem_mem hi)
    simp [wipe', roomD_at Tb i hi]
    refine ⟨trivial, by omega, hi, by omega, ?_⟩
    rw [show restR Tb[i] [] = Tb[i] from rfl, dAdd_rows _ _ (by rw [unit_len hi]; omega)]
    simpa [hi] using h1
  · have e1 : ((rngD 0 Tb.length).map fun x => match x with | .int i => rowD (Tb.getD i.toNat [] ++ unitR Tb.length i.toNat) | _ => .non) = (srcRows Tb).map rowD := by
      simp [rngD, srcRows, Function.comp_def]
    simp only [List.nil_append, e1]
    refine ⟨srcRows Tb, k + Tb.length, _, rfl, .inr rfl, src_len hk, by omega, by simp [srcRows]; omega, hok, fun M hp hs => ?_⟩
    have hM : RFm (k + Tb.length) M := (room_RFm (src_len hk)).perm hp
    simp
    refine lcLoop_plain (p := fun x => decide (k ≤ hd (toR x))) (f := fun x => rowD ((toR x).drop k)) (fun x hx k' k2 h1 h2 => ?_) ?_
    · obtain ⟨r, hr, rfl⟩ := List.mem_map.mp hx
      have g := hM.good r hr
      have gl := g.len
      have glt := g.lt
      simp only [toR_row] at h1 h2
      simp [wipe', headI_of (show hd r < r.length by omega)]
      refine ⟨by omega, ?_⟩
      have ec : dCut (rowD r) (some (k : Int)) none = some (rowD (r.drop k)) := by simp [rowD, cut_drop]
      by_cases hh : k ≤ hd r
      · rw [if_pos hh, ec]; exact h1 (decide_eq_true hh)
      · rw [if_neg hh]; exact h2 (decide_eq_false hh)
    · have e2 : ((M.map rowD).filter fun x => decide (k ≤ hd (toR x))).map (fun x => rowD ((toR x).drop k)) = (tailR k M).map rowD := by
        rw [List.filter_map, List.map_map]
        simp [tailR, Function.comp_def]
      simp only [List.nil_append, e2]
      exact hR M hp hs

def colsR (n : Nat) (rows : List Row) : List Row := (List.range n).map fun i => rows.map fun r => at0 r i
def AllHt (B q : Nat) (M : List Row) : Prop := ∀ r ∈ M, ∀ i, Ht B q (at0 r i)
def S__law_nothing : Spec := fun ds R => ∃ (n : Nat) (rows : List Row) (B q : Nat), ds = [.int 0, .int (n : Nat), roomD rows] ∧ 1 ≤ n ∧ n ≤ 120 ∧ rows.length ≤ 120 ∧ (∀ r ∈ rows, r.length = n) ∧ AllHt B q rows ∧ q ≠ 0 ∧ q ≤ B ∧ Cap (gr B n) ∧
  ∀ N : List Row, RFm n N → N.length ≤ n → HtM (gr B n) N → R (roomD N)
theorem l__law_nothing : ∀ ds R, S__law_nothing ds R → ds.length = 3 := fun ds R ⟨_, _, _, _, h, _⟩ => by rw [h]; rfl
theorem cols_len (n : Nat) (rows : List Row) : ∀ r ∈ colsR n rows, r.length = rows.length := fun r hr => by
  simp only [colsR, List.mem_map] at hr
  obtain ⟨i, _, rfl⟩ := hr
  simp
theorem src_ht {n B q : Nat} {rows : List Row} (h : AllHt B q rows) (hq : q ≠ 0) (hqB : q ≤ B) : ∀ r ∈ srcRows (colsR n rows), HtM B [r] := fun r hr => by
  simp only [srcRows, List.mem_map, List.mem_range] at hr
  obtain ⟨i, hi, rfl⟩ := hr
  have hl : (colsR n rows).length = n := by simp [colsR]
  refine ⟨q, hq, hqB, fun o ho j => ?_⟩
  rw [List.mem_singleton.mp ho]
  have e : (colsR n rows).getD i [] = rows.map fun r => at0 r i := by
    rw [hl] at hi
    simp [colsR, hi]
  rw [e]
  rcases Nat.lt_or_ge j rows.length with hj | hj
  · have : at0 ((rows.map fun r => at0 r i) ++ unitR (colsR n rows).length i) j = at0 rows[j] i := by
      simp [at0, List.getElem?_append_left, hj]
    rw [this]
    exact h _ (List.getElem_mem hj) i
  · have : at0 ((rows.map fun r => at0 r i) ++ unitR (colsR n rows).length i) j = at0 (unitR (colsR n rows).length i) (j - rows.length) := by
      simp [at0, List.getElem?_append_right, hj]
    rw [this, at_unit hi]
    exact ht_01 hqB (by split <;> simp)

def T__law_nothing : TS' := (sSeq (sIf (xB (xOp dEq (xOp1 dLen (xVar 2)) (xC (.int 0))))
   (sRet (xCall S__law_units (xCons (xVar 0) (xCons (xVar 1) xNil))))
   sNext)
  (sRet (xCall S__law_source (xCons (xVar 0) (xCons (xOp1 dTupOf (xLc (xRange1 (xVar 1)) (gN 4) xYes (xOp1 dTupOf (xLc (xSeq (xVar 2)) (gN 3) xYes (xOp dIx (xVar 3) (xVar 4)) [3])) [4])) (xCons (xTup xNil) xNil))))))

theorem m__law_nothing : ∀ ds R, S__law_nothing ds R → T__law_nothing { nx := fun _ => R .non, rt := R } (startD 5 ds) := fun ds R h => by
  obtain ⟨n, rows, B, q, rfl, hn1, hn, hrl, hlen, hht, hq, hqB, hc, hR⟩ := h
  have hB : 1 ≤ B := by omega
  simp [T__law_nothing, startD]
  by_cases h0 : rows = []
  · subst h0
    simp
    exact ⟨by omega, hR _ (units_RFm n) (by simp [unitsR]) (units_ht (gr_pos hB n))⟩
  · have : ¬ rows.length = 0 := by simpa using h0
    rw [if_neg h0]
    refine ⟨by omega, ?_⟩
    refine lcLoop_map (f := fun x => match x with | .int i => rowD (rows.map fun r => at0 r i.toNat) | _ => .non) (fun x hx k h1 => ?_) ?_
    · obtain ⟨i, hi, rfl⟩ := rng_mem hx
      simp [wipe']
      refine lcLoop_map (f := fun x => frD (at0 (toR x) i)) (fun x hx k' h2 => ?_) ?_
      · obtain ⟨r, hr, rfl⟩ := List.mem_map.mp hx
        simp [rowD_at r i (by rw [hlen r hr]; exact hi)]
        simpa using h2
      · have e : (rows.map rowD).map (fun x => frD (at0 (toR x) i)) = (rows.map fun r => at0 r i).map frD := by simp [Function.comp_def]
        simp only [List.nil_append, e]
        simpa [rowD] using h1
    · have e : ((rngD 0 n).map fun x => match x with | .int i => rowD (rows.map fun r => at0 r i.toNat) | _ => .non) = (colsR n rows).map rowD := by
        simp [rngD, colsR, Function.comp_def]
      have hcl : (colsR n rows).length = n := by simp [colsR]
      have hsl : (srcRows (colsR n rows)).length = n := by simp [srcRows, hcl]
      have hr2 : ∀ r ∈ srcRows (colsR n rows), r.length = rows.length + n ∧ HtM B [r] := fun r hr => ⟨by rw [src_len (cols_len n rows) r hr, hcl], src_ht hht hq hqB r hr⟩
      obtain ⟨ok1, ok2⟩ := room_ok0 hB hr2 (by rw [hsl]; exact hc)
      rw [hsl] at ok2
      simp only [List.nil_append, e]
      refine ⟨colsR n rows, rows.length, rfl, fun z => ?_, cols_len n rows, by rw [hcl]; omega, ok1, fun M hp hs => ?_⟩
      · rw [z] at hcl; simp at hcl; omega
      · have hM : RFm (rows.length + n) M := (room_RFm fun r hr => (hr2 r hr).1).perm hp
        refine hR _ (tail_RFm hM) ?_ (tail_ht (perm_ht ok2 hp))
        have h3 := tail_len rows.length M
        have h4 := hp.length_eq
        have h5 := fold_len (srcRows (colsR n rows)) []
        unfold roomR at h4
        simp [hsl] at h5
        omega

end PU
set_option Elab.async false
set_option linter.all false
set_option maxRecDepth 100000
set_option maxHeartbeats 4000000
/-! flats through rows; what is drawn -/
namespace PU
open PySem PySem.Spec PyProof.Rows L2
theorem ht_add {B C p : Nat} {x y : Rat} (h1 : Ht B p x) (h2 : Ht C p y) : Ht (B + C) p (x + y) := by
  obtain ⟨u, a, b⟩ := h1
  obtain ⟨v, c, d⟩ := h2
  refine ⟨u + v, ?_, by omega⟩
  rw [Rat.intCast_add, ← a, ← c]; grind
theorem dot_ht {a b : Row} {G B p q : Nat} (ha : ∀ i, Ht G p (at0 a i)) (hb : ∀ i, Ht B q (at0 b i)) : ∀ k, Ht (k * (G * B)) (p * q) (dotK a b k)
  | 0 => ht_mono (ht_zero 0 _) (Nat.zero_le _)
  | k + 1 => by
    have := ht_add (dot_ht ha hb k) (ht_mul (ha k) (hb k))
    rw [Nat.add_mul, Nat.one_mul]
    exact this
def S__law_flat_through : Spec := fun ds R => ∃ (r : Row) (rows : List Row) (n B q : Nat), ds = [rowD r, roomD rows] ∧ r.length = n ∧ 1 ≤ n ∧ n ≤ 120 ∧ rows.length ≤ 120 ∧ (∀ r ∈ rows, r.length = n) ∧ AllHt B q rows ∧ (∀ i, Ht B q (at0 r i)) ∧ q ≠ 0 ∧ q ≤ B ∧ Cap (n * (gr B n * B)) ∧
  ∀ M : List Row, FlatP n M → R (roomD M)
theorem l__law_flat_through : ∀ ds R, S__law_flat_through ds R → ds.length = 2 := fun ds R ⟨_, _, _, _, _, h, _⟩ => by rw [h]; rfl

def T__law_flat_through : TS' := (sSeq (sAsg (xOp1 dLen (xVar 0)) (gN 2))
  (sRet (xCall S__law_flat (xCons (xVar 2) (xCons (xLc (xSeq (xCall S__law_nothing (xCons (xC (.int 0)) (xCons (xVar 2) (xCons (xVar 1) xNil))))) (gN 3) xYes (xOp dAdd (xVar 3) (xTup (xCons (xCall S__law_dot (xCons (xVar 3) (xCons (xVar 0) xNil))) xNil))) [3]) xNil)))))

theorem m__law_flat_through : ∀ ds R, S__law_flat_through ds R → T__law_flat_through { nx := fun _ => R .non, rt := R } (startD 4 ds) := fun ds R h => by
  obtain ⟨r, rows, n, B, q, rfl, hr, hn1, hn, hrl, hlen, hht, hrh, hq, hqB, hc, hR⟩ := h
  have hB : 1 ≤ B := by omega
  have hG := gr_pos hB n
  have c1 : gr B n * B ≤ n * (gr B n * B) := Nat.le_mul_of_pos_left _ hn1
  have cG : gr B n ≤ gr B n * B := Nat.le_mul_of_pos_right _ hB
  have cB : B ≤ gr B n * B := Nat.le_mul_of_pos_left _ hG
  simp [T__law_flat_through, startD, hr]
  refine ⟨n, rows, B, q, rfl, hn1, hn, hrl, hlen, hht, hq, hqB, hc.mono (Nat.le_trans cG c1), fun N hN hNl hNh => ?_⟩
  obtain ⟨p, hp, hpG, hNp⟩ := hNh
  have hpq : p * q ≠ 0 := Nat.mul_ne_zero hp hq
  have hpqC : Cap (p * q) := hc.mono (Nat.le_trans (Nat.mul_le_mul hpG hqB) c1)
  have smN : ∀ a ∈ N, ∀ i, sm (at0 a i) := fun a ha i => ht_sm hp (hc.mono (Nat.le_trans hpG (Nat.le_trans cG c1))) (hc.mono (Nat.le_trans cG c1)) (hNp a ha i)
  have smr : ∀ i, sm (at0 r i) := fun i => ht_sm hq (hc.mono (Nat.le_trans hqB (Nat.le_trans cB c1))) (hc.mono (Nat.le_trans cB c1)) (hrh i)
  have smd : ∀ a ∈ N, ∀ k, k ≤ n → sm (dotK a r k) := fun a ha k hk => ht_sm hpq hpqC (hc.mono (Nat.mul_le_mul_right _ hk)) (dot_ht (hNp a ha) hrh k)
  simp
  refine lcLoop_map (f := fun x => rowD (toR x ++ [dotK (toR x) r n])) (fun x hx k h1 => ?_) ?_
  · obtain ⟨a, ha, rfl⟩ := List.mem_map.mp hx
    have hal := (hN.good a ha).len
    simp [wipe', hal]
    refine ⟨⟨by rw [hal, hr], by omega, fun k hk => ⟨smd a ha k (by omega), smN a ha k, smr k, ?_⟩⟩, ?_⟩
    · exact ht_sm hpq hpqC (hc.mono c1) (ht_mul (hNp a ha k) (hrh k))
    · have e : D.tup [frD (dotK a r n)] = rowD [dotK a r n] := rfl
      rw [e, dAdd_rows _ _ (by simp; omega)]
      simpa using h1
  · have e : (N.map rowD).map (fun x => rowD (toR x ++ [dotK (toR x) r n])) = (N.map fun a => a ++ [dotK a r n]).map rowD := by simp [Function.comp_def]
    simp only [List.nil_append, e]
    obtain ⟨hE, hElt⟩ := snoc_RFm hN fun a => dotK a r n
    have smE : ∀ o ∈ N.map fun a => a ++ [dotK a r n], ∀ x ∈ o, sm x := fun o ho x hx => by
      obtain ⟨a, ha, rfl⟩ := List.mem_map.mp ho
      rcases List.mem_append.mp hx with hx | hx
      · obtain ⟨i, _, rfl⟩ := mem_at hx
        exact smN a ha i
      · rw [List.mem_singleton.mp hx]; exact smd a ha n (Nat.le_refl _)
    obtain ⟨e1, e2⟩ := room_self hE smE
    refine ⟨n, _, rfl, fun o ho => (hE.good o ho).len, by omega, by simp; omega, e2, fun M hp' hs => ?_⟩
    rw [e1] at hp'
    have hM := hE.perm hp'
    have hlt : ∀ o ∈ M, hd o < n := fun o ho => hElt o (hp'.mem_iff.mp ho)
    have hF : FlatP n M := ⟨hM, hlt, hM.AI hs, fun o ho => smE o (hp'.mem_iff.mp ho), by rw [hp'.length_eq]; simpa using hNl⟩
    have : flatRes n M = roomD M := by
      unfold flatRes
      cases q : M.getLast? with
      | none => rfl
      | some o =>
        have ho := List.mem_of_getLast? q
        have g := hM.good o ho
        have := hlt o ho
        have e := headI_of (show hd o < o.length by rw [g.len]; exact g.lt)
        simp only
        rw [if_neg (by rw [e]; omega)]
    rw [this]
    exact hR M hF

def S__law_point : Spec := fun ds R => ∃ (r : Row), ds = [rowD r] ∧ r.length ≤ 300 ∧ R (roomD (pointR r))
theorem l__law_point : ∀ ds R, S__law_point ds R → ds.length = 1 := fun ds R ⟨_, h, _⟩ => by rw [h]; rfl
@[simp] theorem S__law_point_ap (r : Row) (R : D → Prop) : S__law_point [rowD r] R = (r.length ≤ 300 ∧ R (roomD (pointR r))) := propext ⟨fun ⟨r', h, hR⟩ => by simp at h; subst h; exact hR, fun h => ⟨r, rfl, h⟩⟩
def T__law_point : TS' := (sRet (xOp1 dTupOf (xLc (xRange1 (xOp1 dLen (xVar 0))) (gN 1) xYes (xOp dAdd (xCall S__law_unit (xCons (xC (.int 0)) (xCons (xOp1 dLen (xVar 0)) (xCons (xVar 1) xNil)))) (xTup (xCons (xOp dIx (xVar 0) (xVar 1)) xNil))) [1])))

theorem m__law_point : ∀ ds R, S__law_point ds R → T__law_point { nx := fun _ => R .non, rt := R } (startD 2 ds) := fun ds R h => by
  obtain ⟨r, rfl, hl, hR⟩ := h
  simp [T__law_point, startD]
  refine ⟨by omega, ?_⟩
  refine lcLoop_map (f := fun x => match x with | .int i => rowD (unitR r.length i.toNat ++ [at0 r i.toNat]) | _ => .non) (fun x hx k h1 => ?_) ?_
  · obtain ⟨i, hi, rfl⟩ := rng_mem hx
    simp [wipe', rowD_at r i hi]
    refine ⟨hi, hl, ?_⟩
    have e : D.tup [frD (at0 r i)] = rowD [at0 r i] := rfl
    rw [e, dAdd_rows _ _ (by rw [unit_len hi]; simp; omega)]
    simpa using h1
  · have e : ((rngD 0 r.length).map fun x => match x with | .int i => rowD (unitR r.length i.toNat ++ [at0 r i.toNat]) | _ => .non) = (pointR r).map rowD := by
      simp [rngD, pointR, Function.comp_def]
    simp only [List.nil_append, e]
    exact hR
def S__law_is_small : Spec := fun ds R => ∃ M : List Row, ds = [roomD M] ∧ ∀ b : Bool, R (.bl b)
theorem l__law_is_small : ∀ ds R, S__law_is_small ds R → ds.length = 1 := fun ds R ⟨_, h, _⟩ => by rw [h]; rfl

def T__law_is_small : TS' := (sSeq (sFor (xSeq (xVar 0)) (gN 1)
   (sIf (xB (xOp dGt (xOp1 dLen (xLc (xSeq (xVar 1)) (gN 2) (xOr (xB (xOp dGt (xOp1 dAbs (xOp dIx (xVar 2) (xC (.int 0)))) (xC (.int 999)))) (xB (xOp dGt (xOp dIx (xVar 2) (xC (.int 1))) (xC (.int 12))))) (xVar 2) [2])) (xC (.int 0))))
   (sRet (xC (.bl false)))
   sNext))
  (sRet (xC (.bl true))))

theorem m__law_is_small : ∀ ds R, S__law_is_small ds R → T__law_is_small { nx := fun _ => R .non, rt := R } (startD 3 ds) := fun ds R h => by
  obtain ⟨M, rfl, hR⟩ := h
  simp [T__law_is_small, startD]
  refine forL_all (p := fun x => !((toR x).any fun q => decide ((999 : Int) < (if q.num < 0 then -q.num else q.num)) || decide ((12 : Int) < q.den))) (P := fun ρ => ∃ y, ρ = [some (roomD M), y, none]) (fun x hx ρ hP D' hD h1 h2 => ?_) (fun h => hR _) (fun h ρ' hP => hR _) ⟨_, rfl⟩
  obtain ⟨y, rfl⟩ := hP
  obtain ⟨r, hr, rfl⟩ := List.mem_map.mp hx
  simp [hD]
  refine lcLoop_plain (p := fun x => decide ((999 : Int) < (if (toQ x).num < 0 then -(toQ x).num else (toQ x).num)) || decide ((12 : Int) < (toQ x).den)) (f := fun x => x) (fun x hx k k2 h3 h4 => ?_) ?_
  · obtain ⟨q, hq, rfl⟩ := List.mem_map.mp hx
    simp only [toQ_fr] at h3 h4
    simp [wipe', frD]
    by_cases ha : (999 : Int) < (if q.num < 0 then -q.num else q.num)
    · rw [if_pos ha]; exact h3 (by simp [ha])
    · rw [if_neg ha]
      by_cases hb : (12 : Int) < q.den
      · rw [if_pos hb]; exact h3 (by simp [hb])
      · rw [if_neg hb]; exact h4 (by simp [ha, hb])
  · simp only [List.nil_append, List.map_id']
    split
    · exact hR _
    · rename_i hh
      refine h1 ?_ _ ⟨_, rfl⟩
      rw [fpos] at hh
      simp only [Decidable.not_not, List.all_map] at hh
      simp only [toR_row, List.not_any_eq_all_not]
      rw [List.all_eq_true] at hh ⊢
      intro q hq
      simpa using hh q hq
/-! what is drawn -/
theorem lcLoop_any {g : TG'} {te : TE'} {ρ : PEnv} {P : D → Prop} : ∀ {xs acc : List D} {R : List D → Prop}, (∀ x ∈ xs, ∀ (k : D → Prop), (∀ d, P d → k d) → g x ρ fun ρ1 => te ρ1 k) → (∀ ys : List D, ys.length = xs.length → (∀ y ∈ ys, P y) → R (acc ++ ys)) → lcLoop g xYes te ρ xs acc R
  | [], acc, R, h, hR => by
    have := hR [] rfl (fun y hy => by cases hy)
    simpa [lcLoop] using this
  | x :: xs, acc, R, h, hR => by
    unfold lcLoop
    simp only [xYes_ap, if_true]
    refine h x (by simp) _ fun d hd => ?_
    refine lcLoop_any (fun y hy => h y (by simp [hy])) fun ys hl hy => ?_
    have := hR (d :: ys) (by simp [hl]) fun y hy' => by
      rcases List.mem_cons.mp hy' with rfl | hy'
      · exact hd
      · exact hy y hy'
    simpa using this
def S__law_any : Spec := fun ds R => match ds with
  | [.int b] => 1 ≤ b ∧ b ≤ 1000000000 ∧ ∀ j : Int, 0 ≤ j → j < b → R (.int j)
  | _ => False
theorem l__law_any : ∀ ds R, S__law_any ds R → ds.length + 1 = 2 := fun ds R h => match ds, h with | [.int _], _ => rfl
@[simp] theorem S__law_any_ap (b : Int) (R : D → Prop) : S__law_any [.int b] R = (1 ≤ b ∧ b ≤ 1000000000 ∧ ∀ j : Int, 0 ≤ j → j < b → R (.int j)) := rfl
def S__law_of : Spec := fun ds R => match ds with
  | [.lst xs] => xs ≠ [] ∧ xs.length ≤ 1000 ∧ ∀ x ∈ xs, R x
  | _ => False
theorem l__law_of : ∀ ds R, S__law_of ds R → ds.length + 1 = 2 := fun ds R h => match ds, h with | [.lst _], _ => rfl
@[simp] theorem S__law_of_ap (xs : List D) (R : D → Prop) : S__law_of [.lst xs] R = (xs ≠ [] ∧ xs.length ≤ 1000 ∧ ∀ x ∈ xs, R x) := rfl

def T__law_of : TS' := (sRet (xOp dIx (xVar 1) (xCall S__law_any (xCons (xOp1 dLen (xVar 1)) xNil))))

theorem m__law_of : ∀ ds R, S__law_of ds R → T__law_of { nx := fun _ => R .non, rt := R } (none :: startD 1 ds) := fun ds R h => by
  match ds, h with
  | [.lst xs], ⟨h1, h2, h3⟩ =>
    have hpos : 0 < xs.length := List.length_pos_iff.mpr h1
    simp [T__law_of, startD]
    refine ⟨by omega, by omega, fun j hj0 hj => ?_⟩
    obtain ⟨i, rfl⟩ := Int.eq_ofNat_of_zero_le hj0
    have hi : i < xs.length := by omega
    have : atI xs ((i : Nat) : Int) = some xs[i] := atI_at xs i hi
    rw [this]
    exact h3 _ (List.getElem_mem hi)
def Drn (m : Nat) (q : Rat) : Prop := Ht (12 * m) 12 q

def S__law_number : Spec := fun ds R => ∃ (m : Nat), ds = [.int 0, .int (m : Nat)] ∧ 1 ≤ m ∧ m ≤ 1000 ∧ ∀ q, Drn m q → R (frD q)
theorem l__law_number : ∀ ds R, S__law_number ds R → ds.length + 1 = 3 := fun ds R ⟨_, h, _⟩ => by rw [h]; rfl
@[simp] theorem S__law_number_ap (m : Nat) (R : D → Prop) : S__law_number [.int 0, .int (m : Nat)] R = (1 ≤ m ∧ m ≤ 1000 ∧ ∀ q, Drn m q → R (frD q)) := propext ⟨fun ⟨m', h, hR⟩ => by simp at h; subst h; exact hR, fun h => ⟨m, rfl, h⟩⟩
def T__law_number : TS' := (sSeq (sIf (xB (xOp dGt (xVar 1) (xC (.int 0))))
   (sRet (xCall S__law_any (xCons (xVar 1) xNil)))
   sNext)
  (sSeq (sAsg (xCall S__law_any (xCons (xVar 2) xNil)) (gN 3))
  (sRet (xCall S__law_fraction (xCons (xIf (xB (xOp dEq (xCall S__law_any (xCons (xC (.int 2)) xNil)) (xC (.int 0)))) (xVar 3) (xOp dSub (xC (.int 0)) (xVar 3))) (xCons (xCall S__law_of (xCons (xLst (xCons (xC (.int 1)) (xCons (xC (.int 1)) (xCons (xC (.int 1)) (xCons (xC (.int 2)) (xCons (xC (.int 3)) (xCons (xC (.int 4)) xNil))))))) xNil)) xNil))))))

theorem m__law_number : ∀ ds R, S__law_number ds R → T__law_number { nx := fun _ => R .non, rt := R } (none :: startD 3 ds) := fun ds R h => by
  obtain ⟨mm, rfl, h1, h2, hR⟩ := h
  simp [T__law_number, startD]
  refine ⟨by omega, by omega, fun j hj0 hj => ?_⟩
  have key : ∀ (t : Int), (t = j ∨ t = 0 - j) → ∀ b ∈ [(1 : Int), 1, 1, 2, 3, 4], S__law_fraction [.int t, .int b] R := fun t ht b hb => by
    have hb4 : b = 1 ∨ b = 2 ∨ b = 3 ∨ b = 4 := by simpa using hb
    refine ⟨by omega, ?_, hR _ ?_⟩
    · have : b.natAbs ≤ 4 := by omega
      exact Nat.lt_of_le_of_lt (log2_mono this (by omega)) (by decide)
    · have hbr : (b : Rat) ≠ 0 := by rcases hb4 with rfl | rfl | rfl | rfl <;> decide
      rcases hb4 with rfl | rfl | rfl | rfl
      · refine ⟨t * 12, ?_, by omega⟩
        rw [Rat.divInt_eq_div, Rat.intCast_mul]; grind
      · refine ⟨t * 6, ?_, by omega⟩
        rw [Rat.divInt_eq_div, Rat.intCast_mul]; grind
      · refine ⟨t * 4, ?_, by omega⟩
        rw [Rat.divInt_eq_div, Rat.intCast_mul]; grind
      · refine ⟨t * 3, ?_, by omega⟩
        rw [Rat.divInt_eq_div, Rat.intCast_mul]; grind
  refine fun j2 hj20 hj2 => ?_
  by_cases hz : j2 = 0
  · rw [if_pos hz]
    exact ⟨And.right (key j (.inl rfl) 1 (by simp)), And.right (key j (.inl rfl) 2 (by simp)), And.right (key j (.inl rfl) 3 (by simp)), And.right (key j (.inl rfl) 4 (by simp))⟩
  · rw [if_neg hz]
    have e : -j = 0 - j := by omega
    rw [e]
    exact ⟨And.right (key _ (.inr rfl) 1 (by simp)), And.right (key _ (.inr rfl) 2 (by simp)), And.right (key _ (.inr rfl) 3 (by simp)), And.right (key _ (.inr rfl) 4 (by simp))⟩

end PU
set_option Elab.async false
set_option linter.all false
set_option maxRecDepth 100000
set_option maxHeartbeats 4000000
/-! rows, rooms, flats that are drawn; bent flats -/
namespace PU
open PySem PySem.Spec PyProof.Rows L2
theorem all_fr {P : Rat → Prop} : ∀ {ys : List D}, (∀ y ∈ ys, ∃ q, y = frD q ∧ P q) → ∃ r : Row, ys = r.map frD ∧ ∀ x ∈ r, P x
  | [], _ => ⟨[], rfl, fun x hx => by cases hx⟩
  | y :: ys, h => by
    obtain ⟨q, rfl, hq⟩ := h y (by simp)
    obtain ⟨r, rfl, hr⟩ := all_fr (ys := ys) fun y hy => h y (by simp [hy])
    exact ⟨q :: r, rfl, fun x hx => by rcases List.mem_cons.mp hx with rfl | hx; exact hq; exact hr x hx⟩
theorem all_row {P : Row → Prop} : ∀ {ys : List D}, (∀ y ∈ ys, ∃ q, y = rowD q ∧ P q) → ∃ r : List Row, ys = r.map rowD ∧ ∀ x ∈ r, P x
  | [], _ => ⟨[], rfl, fun x hx => by cases hx⟩
  | y :: ys, h => by
    obtain ⟨q, rfl, hq⟩ := h y (by simp)
    obtain ⟨r, rfl, hr⟩ := all_row (ys := ys) fun y hy => h y (by simp [hy])
    exact ⟨q :: r, rfl, fun x hx => by rcases List.mem_cons.mp hx with rfl | hx; exact hq; exact hr x hx⟩
def DrnR (m n : Nat) (r : Row) : Prop := r.length = n ∧ ∀ i, Drn m (at0 r i)
theorem drn_at {m : Nat} {r : Row} (h : ∀ x ∈ r, Drn m x) (i : Nat) : Drn m (at0 r i) := by
  rcases Nat.lt_or_ge i r.length with q | q
  · exact h _ (at_mem q)
  · have : at0 r i = 0 := by simp [at0, q]
    rw [this]; exact ht_zero _ _

def S__law_row : Spec := fun ds R => ∃ (n : Nat) (m : Nat), ds = [.int 0, .int (n : Nat), .int (m : Nat)] ∧ n ≤ 300 ∧ 1 ≤ m ∧ m ≤ 1000 ∧ ∀ r, DrnR m n r → R (rowD r)
theorem l__law_row : ∀ ds R, S__law_row ds R → ds.length + 1 = 4 := fun ds R ⟨_, _, h, _⟩ => by rw [h]; rfl
@[simp] theorem S__law_row_ap (n : Nat) (m : Nat) (R : D → Prop) : S__law_row [.int 0, .int (n : Nat), .int (m : Nat)] R = (n ≤ 300 ∧ 1 ≤ m ∧ m ≤ 1000 ∧ ∀ r, DrnR m n r → R (rowD r)) := propext ⟨fun ⟨n', m', h, hR⟩ => by simp at h; obtain ⟨rfl, rfl⟩ := h; exact hR, fun h => ⟨n, m, rfl, h⟩⟩
def T__law_row : TS' := (sRet (xOp1 dTupOf (xLc (xRange1 (xVar 2)) (gN 4) xYes (xIf (xB (xOp dEq (xCall S__law_any (xCons (xC (.int 3)) xNil)) (xC (.int 0)))) (xCall S__law_zero (xCons (xVar 1) xNil)) (xCall S__law_number (xCons (xVar 1) (xCons (xVar 3) xNil)))) [4])))

theorem m__law_row : ∀ ds R, S__law_row ds R → T__law_row { nx := fun _ => R .non, rt := R } (none :: startD 4 ds) := fun ds R h => by
  obtain ⟨n, m, rfl, hn, hm1, hm2, hR⟩ := h
  simp [T__law_row, startD]
  refine ⟨by omega, ?_⟩
  refine lcLoop_any (P := fun d => ∃ q, d = frD q ∧ Drn m q) (fun x hx k hk => ?_) fun ys hl hy => ?_
  · obtain ⟨i, hi, rfl⟩ := rng_mem hx
    simp [wipe']
    intro j hj0 hj
    by_cases hz : j = 0
    · rw [if_pos hz]; exact hk _ ⟨_, rfl, ht_zero _ _⟩
    · rw [if_neg hz]; exact ⟨hm1, hm2, fun q hq => hk _ ⟨q, rfl, hq⟩⟩
  · obtain ⟨r, rfl, hr⟩ := all_fr hy
    refine hR r ⟨by simpa [rngD_len] using hl, drn_at hr⟩

def S__law_rows : Spec := fun ds R => ∃ (k : Nat) (n : Nat) (m : Nat), ds = [.int 0, .int (k : Nat), .int (n : Nat), .int (m : Nat)] ∧ k ≤ 300 ∧ n ≤ 300 ∧ 1 ≤ m ∧ m ≤ 1000 ∧ ∀ M : List Row, M.length = k → (∀ r ∈ M, DrnR m n r) → R (roomD M)
theorem l__law_rows : ∀ ds R, S__law_rows ds R → ds.length + 1 = 5 := fun ds R ⟨_, _, _, h, _⟩ => by rw [h]; rfl
@[simp] theorem S__law_rows_ap (k : Nat) (n : Nat) (m : Nat) (R : D → Prop) : S__law_rows [.int 0, .int (k : Nat), .int (n : Nat), .int (m : Nat)] R = (k ≤ 300 ∧ n ≤ 300 ∧ 1 ≤ m ∧ m ≤ 1000 ∧ ∀ M : List Row, M.length = k → (∀ r ∈ M, DrnR m n r) → R (roomD M)) := propext ⟨fun ⟨k', n', m', h, hR⟩ => by simp at h; obtain ⟨rfl, rfl, rfl⟩ := h; exact hR, fun h => ⟨k, n, m, rfl, h⟩⟩
def T__law_rows : TS' := (sRet (xOp1 dTupOf (xLc (xRange1 (xVar 2)) (gN 5) xYes (xCall S__law_row (xCons (xVar 1) (xCons (xVar 3) (xCons (xVar 4) xNil)))) [5])))

theorem m__law_rows : ∀ ds R, S__law_rows ds R → T__law_rows { nx := fun _ => R .non, rt := R } (none :: startD 5 ds) := fun ds R h => by
  obtain ⟨k, n, m, rfl, hk, hn, hm1, hm2, hR⟩ := h
  simp [T__law_rows, startD]
  refine ⟨by omega, ?_⟩
  refine lcLoop_any (P := fun d => ∃ q, d = rowD q ∧ DrnR m n q) (fun x hx k hk => ?_) fun ys hl hy => ?_
  · obtain ⟨i, hi, rfl⟩ := rng_mem hx
    simp [wipe']
    exact ⟨hn, hm1, hm2, fun q hq => hk _ ⟨q, rfl, hq⟩⟩
  · obtain ⟨r, rfl, hr⟩ := all_row hy
    exact hR r (by simpa [rngD_len] using hl) hr

def S__law_drawn_room : Spec := fun ds R => ∃ (n : Nat) (m : Nat), ds = [.int 0, .int (n : Nat), .int (m : Nat)] ∧ 1 ≤ n ∧ n ≤ 120 ∧ 1 ≤ m ∧ m ≤ 1000 ∧ Cap (gr (12 * m) n) ∧ ∀ M : List Row, RFm n M → M.length ≤ n → R (roomD M)
theorem l__law_drawn_room : ∀ ds R, S__law_drawn_room ds R → ds.length + 1 = 4 := fun ds R ⟨_, _, h, _⟩ => by rw [h]; rfl
@[simp] theorem S__law_drawn_room_ap (n : Nat) (m : Nat) (R : D → Prop) : S__law_drawn_room [.int 0, .int (n : Nat), .int (m : Nat)] R = (1 ≤ n ∧ n ≤ 120 ∧ 1 ≤ m ∧ m ≤ 1000 ∧ Cap (gr (12 * m) n) ∧ ∀ M : List Row, RFm n M → M.length ≤ n → R (roomD M)) := propext ⟨fun ⟨n', m', h, hR⟩ => by simp at h; obtain ⟨rfl, rfl⟩ := h; exact hR, fun h => ⟨n, m, rfl, h⟩⟩
def T__law_drawn_room : TS' := (sRet (xCall S__law_room (xCons (xVar 1) (xCons (xCall S__law_rows (xCons (xVar 1) (xCons (xCall S__law_any (xCons (xOp dAdd (xVar 2) (xC (.int 1))) xNil)) (xCons (xVar 2) (xCons (xVar 3) xNil))))) xNil))))

theorem m__law_drawn_room : ∀ ds R, S__law_drawn_room ds R → T__law_drawn_room { nx := fun _ => R .non, rt := R } (none :: startD 3 ds) := fun ds R h => by
  obtain ⟨n, m, rfl, hn1, hn, hm1, hm2, hc, hR⟩ := h
  simp [T__law_drawn_room, startD]
  refine ⟨by omega, by omega, fun j hj0 hj => ?_⟩
  obtain ⟨k, rfl⟩ := Int.eq_ofNat_of_zero_le hj0
  refine ⟨k, n, m, rfl, by omega, by omega, hm1, hm2, fun M hMl hM => ?_⟩
  have hM2 : ∀ r ∈ M, r.length = n ∧ HtM (12 * m) [r] := fun r hr => ⟨(hM r hr).1, 12, by omega, by omega, fun o ho i => by rw [List.mem_singleton.mp ho]; exact (hM r hr).2 i⟩
  obtain ⟨ok1, _⟩ := room_ok0 (by omega) hM2 (hc.mono (gr_mono (by omega) (by omega)))
  refine ⟨M, n, _, rfl, .inl rfl, fun r hr => (hM r hr).1, by omega, by omega, ok1, fun M' hp hs => ?_⟩
  refine hR M' ((room_RFm fun r hr => (hM r hr).1).perm hp) ?_
  have h1 := fold_len M []
  have h2 := hp.length_eq
  unfold roomR at h2
  simp at h1
  omega

def S__law_drawn_flat : Spec := fun ds R => ∃ (n : Nat), ds = [.int (n : Nat)] ∧ 1 ≤ n ∧ n ≤ 120 ∧ Cap (n * (gr 48 n * 48)) ∧ ∀ M : List Row, FlatP n M → R (roomD M)
theorem l__law_drawn_flat : ∀ ds R, S__law_drawn_flat ds R → ds.length + 1 = 2 := fun ds R ⟨_, h, _⟩ => by rw [h]; rfl
@[simp] theorem S__law_drawn_flat_ap (n : Nat) (R : D → Prop) : S__law_drawn_flat [.int (n : Nat)] R = (1 ≤ n ∧ n ≤ 120 ∧ Cap (n * (gr 48 n * 48)) ∧ ∀ M : List Row, FlatP n M → R (roomD M)) := propext ⟨fun ⟨n', h, hR⟩ => by simp at h; subst h; exact hR, fun h => ⟨n, rfl, h⟩⟩
def T__law_drawn_flat : TS' := (sSeq (sAsg (xCall S__law_row (xCons (xC (.int 0)) (xCons (xVar 1) (xCons (xC (.int 4)) xNil)))) (gN 2))
  (sSeq (sAsg (xCall S__law_flat_through (xCons (xVar 2) (xCons (xCall S__law_rows (xCons (xC (.int 0)) (xCons (xCall S__law_any (xCons (xOp dAdd (xVar 1) (xC (.int 1))) xNil)) (xCons (xVar 1) (xCons (xC (.int 3)) xNil))))) xNil))) (gN 3))
  (sRet (xIf (xB (xCall S__law_is_small (xCons (xVar 3) xNil))) (xVar 3) (xSl (xCall S__law_point (xCons (xVar 2) xNil)) xNo (xPart (xCall S__law_any (xCons (xOp dAdd (xVar 1) (xC (.int 1))) xNil))))))))

theorem m__law_drawn_flat : ∀ ds R, S__law_drawn_flat ds R → T__law_drawn_flat { nx := fun _ => R .non, rt := R } (none :: startD 3 ds) := fun ds R h => by
  obtain ⟨n, rfl, hn1, hn, hc, hR⟩ := h
  have c1 : gr 48 n * 48 ≤ n * (gr 48 n * 48) := Nat.le_mul_of_pos_left _ hn1
  have c48 : 48 ≤ gr 48 n * 48 := Nat.le_mul_of_pos_left _ (gr_pos (by omega) n)
  simp [T__law_drawn_flat, startD]
  refine ⟨n, 4, rfl, by omega, by omega, by omega, fun r hr => ?_⟩
  refine ⟨by omega, by omega, fun j hj0 hj => ?_⟩
  obtain ⟨k, rfl⟩ := Int.eq_ofNat_of_zero_le hj0
  refine ⟨k, n, 3, rfl, by omega, by omega, by omega, by omega, fun rows hl hrows => ?_⟩
  refine ⟨r, rows, n, 48, 12, rfl, hr.1, hn1, hn, by omega, fun q hq => (hrows q hq).1, fun q hq i => ht_mono ((hrows q hq).2 i) (by omega), fun i => hr.2 i, by omega, by omega, hc, fun M hM => ?_⟩
  simp
  refine ⟨M, rfl, fun b => ?_⟩
  cases b with
  | true => simpa using hR M hM
  | false =>
    have smr : ∀ x ∈ r, sm x := fun x hx => by
      obtain ⟨i, _, rfl⟩ := mem_at hx
      exact ht_sm (by omega) (hc.mono (by omega)) (hc.mono (by omega)) (hr.2 i)
    simp
    refine ⟨by rw [hr.1]; omega, by omega, by omega, fun j2 hj20 hj2 => ?_⟩
    obtain ⟨k2, rfl⟩ := Int.eq_ofNat_of_zero_le hj20
    have hpl : (pointR r).length = n := by simp [pointR, hr.1]
    have e : dCut (roomD (pointR r)) none (some ((k2 : Nat) : Int)) = some (roomD ((pointR r).take k2)) := by
      simp [roomD]
      rw [cut_take _ _ (by simp; omega)]
    rw [e]
    have := point_flat smr k2
    rw [hr.1] at this
    exact hR _ this

theorem forL_cnt {g : TG'} {tb : TS'} {D : Ends'} : ∀ {xs : List PU.D} {P : Nat → PEnv → Prop} {ρ : PEnv}, (∀ i, (hi : i < xs.length) → ∀ ρ, P i ρ → ∀ D' : Ends', D'.rt = D.rt → (∀ ρ', P (i + 1) ρ' → D'.nx ρ') → g xs[i] ρ fun ρ1 => tb D' ρ1) → (∀ ρ', P xs.length ρ' → D.nx ρ') → P 0 ρ → forL g tb xs D ρ
  | [], P, ρ, h, ht, hP => ht ρ hP
  | x :: xs, P, ρ, h, ht, hP => by
    rw [forL_cons]
    refine h 0 (by simp) ρ hP _ rfl fun ρ' hP' => ?_
    exact forL_cnt (xs := xs) (P := fun i => P (i + 1)) (fun i hi => h (i + 1) (by simp; omega)) ht hP'
def okL (k : Nat) (xs : List D) : Prop := D.goodL xs = true ∧ D.depL xs ≤ k
def okd (k : Nat) (v : D) : Prop := v.good = true ∧ v.dep ≤ k
theorem okL_of {k : Nat} {xs : List D} (h : ∀ x ∈ xs, okd k x) : okL k xs := ⟨goodL_of fun x hx => (h x hx).1, depL_of fun x hx => (h x hx).2⟩
theorem okL.mem {k : Nat} {xs : List D} (h : okL k xs) {x : D} (hx : x ∈ xs) : okd k x := ⟨good_mem h.1 hx, Nat.le_trans (dep_mem hx) h.2⟩
theorem okL.tup {k : Nat} {xs : List D} (h : okL k xs) : okd (k + 1) (.tup xs) := ⟨h.1, by simp only [dep_tup]; have := h.2; omega⟩
theorem okL.lst {k : Nat} {xs : List D} (h : okL k xs) : okd (k + 1) (.lst xs) := ⟨h.1, by simp only [dep_lst]; have := h.2; omega⟩
theorem okd.mono {j k : Nat} {v : D} (h : okd j v) (hk : j ≤ k) : okd k v := ⟨h.1, Nat.le_trans h.2 hk⟩
theorem okL.mono {j k : Nat} {v : List D} (h : okL j v) (hk : j ≤ k) : okL k v := ⟨h.1, Nat.le_trans h.2 hk⟩
theorem okL.app {k : Nat} {xs ys : List D} (h : okL k xs) (h2 : okL k ys) : okL k (xs ++ ys) := okL_of fun x hx => (List.mem_append.mp hx).elim h.mem h2.mem
theorem okL.with_ {k : Nat} {xs : List D} {v : D} {i : Nat} (h : okL k xs) (hv : okd k v) : okL k (xs.take i ++ v :: xs.drop (i + 1)) := okL_of fun x hx => by
  rcases List.mem_append.mp hx with hx | hx
  · exact h.mem (List.mem_of_mem_take hx)
  · rcases List.mem_cons.mp hx with rfl | hx
    · exact hv
    · exact h.mem (List.mem_of_mem_drop hx)
theorem okL.cut {k : Nat} {xs : List D} {lo hi : Option Int} (h : okL k xs) : okL k (cutD xs lo hi) := okL_of fun x hx => h.mem (List.mem_of_mem_drop (List.mem_of_mem_take hx))
theorem okL_fr (r : Row) : okL 1 (r.map frD) := ⟨goodL_fr r, depL_fr r⟩
theorem okL_row (M : List Row) : okL 2 (M.map rowD) := ⟨goodL_row M, depL_row M⟩
theorem cutD_len (xs : List D) (l h : Option Int) : (cutD xs l h).length ≤ xs.length := by
  unfold cutD; simp; omega
theorem sm_2 : sm 2 := ⟨log2_lt (show 2 < 2 ^ 4000 from Nat.lt_of_lt_of_le (show 2 < 2 ^ 2 by decide) (Nat.pow_le_pow_right (by decide) (by decide))) (by decide), log2_lt (show 1 < 2 ^ 4000 from one_lt) (by decide)⟩
@[simp] theorem S__law_with_row (r : Row) (i : Nat) (v : D) (R : D → Prop) : S__law_with [rowD r, .int (i : Nat), v] R = (r.length ≤ 900 ∧ i ≤ r.length ∧ R (.tup ((r.map frD).take i ++ v :: (r.map frD).drop (i + 1)))) := by
  unfold rowD
  rw [S__law_with_ap]; simp
@[simp] theorem S__law_with_room (r : List Row) (i : Nat) (v : D) (R : D → Prop) : S__law_with [roomD r, .int (i : Nat), v] R = (r.length ≤ 900 ∧ i ≤ r.length ∧ R (.tup ((r.map rowD).take i ++ v :: (r.map rowD).drop (i + 1)))) := by
  unfold roomD
  rw [S__law_with_ap]; simp
theorem dAdd_ll (xs ys : List D) (h : xs.length + ys.length ≤ 1000000) : dAdd (.lst xs) (.lst ys) = some (.lst (xs ++ ys)) := by
  have : xs.length + ys.length ≤ sizeLine := by rw [sizeLine_eq]; omega
  simp [dAdd, this]
def okV (v : D) : Prop := okd 20 v ∧ topOk v
theorem okd_row (r : Row) : okd 2 (rowD r) := (okL_fr r).tup
theorem okd_fr (q : Rat) : okd 1 (frD q) := ⟨rfl, by simp⟩

def S__law_bent : Spec := fun ds R => ∃ (n : Nat) (M : List Row), ds = [.int (n : Nat), roomD M] ∧ FlatP n M ∧ 1 ≤ n ∧ n ≤ 120 ∧ ∀ vs : List D, (∀ v ∈ vs, okV v) → vs.length ≤ 100000 → R (.lst vs)
theorem l__law_bent : ∀ ds R, S__law_bent ds R → ds.length + 1 = 3 := fun ds R ⟨_, _, h, _⟩ => by rw [h]; rfl
@[simp] theorem S__law_bent_ap (n : Nat) (M : List Row) (R : D → Prop) : S__law_bent [.int (n : Nat), roomD M] R = (FlatP n M ∧ 1 ≤ n ∧ n ≤ 120 ∧ ∀ vs : List D, (∀ v ∈ vs, okV v) → vs.length ≤ 100000 → R (.lst vs)) := propext ⟨fun ⟨n', M', h, hR⟩ => by simp at h; obtain ⟨e1, e2⟩ := h; subst e1; subst e2; exact hR, fun h => ⟨n, M, rfl, h⟩⟩
def T__law_bent : TS' := (sSeq (sAsg (xLst (xCons (xListOf (xVar 2)) (xCons (xOp dAdd (xVar 2) (xTup (xCons (xOp dAdd (xCall S__law_zeros (xCons (xC (.int 0)) (xCons (xVar 1) xNil))) (xTup (xCons (xTup (xCons (xC (.int 1)) (xCons (xC (.int 1)) xNil))) xNil))) xNil))) (xCons (xOp dAdd (xVar 2) (xTup (xCons (xCall S__law_zeros (xCons (xC (.int 0)) (xCons (xOp dAdd (xVar 1) (xC (.int 1))) xNil))) xNil))) (xCons (xRevT (xVar 2)) (xCons (xOp dAdd (xVar 2) (xSl (xVar 2) xNo (xPart (xC (.int 1))))) xNil)))))) (gN 3))
  (sSeq (sAsg (xOp dAdd (xVar 3) (xLst (xCons (xOp1 dTupOf (xLc (xSeq (xVar 2)) (gN 4) xYes (xListOf (xVar 4)) [4])) (xCons (xTup (xCons (xVar 2) xNil)) xNil)))) (gN 3))
  (sSeq (sFor (xRange1 (xOp1 dLen (xVar 2))) (gN 5)
   (sSeq (sAsg (xOp dIx (xVar 2) (xVar 5)) (gN 4))
  (sSeq (sAsg (xLst (xCons (xSl (xVar 4) xNo (xPart (xOp1 dNeg (xC (.int 1))))) (xCons (xOp dAdd (xVar 4) (xTup (xCons (xTup (xCons (xC (.int 0)) (xCons (xC (.int 1)) xNil))) xNil))) (xCons (xCall S__law_scaled (xCons (xC (.int 0)) (xCons (xTup (xCons (xC (.int 2)) (xCons (xC (.int 1)) xNil))) (xCons (xVar 4) xNil)))) (xCons (xCall S__law_with (xCons (xVar 4) (xCons (xCall S__law_any (xCons (xOp dAdd (xVar 1) (xC (.int 1))) xNil)) (xCons (xTup (xCons (xC (.int 2)) (xCons (xC (.int 4)) xNil))) xNil)))) xNil))))) (gN 6))
  (sSeq (sAsg (xOp dAdd (xVar 6) (xLst (xCons (xCall S__law_with (xCons (xVar 4) (xCons (xVar 1) (xCons (xC (.bl true)) xNil)))) (xCons (xCall S__law_with (xCons (xVar 4) (xCons (xVar 1) (xCons (xTup (xCons (xC (.bl true)) (xCons (xC (.int 1)) xNil))) xNil)))) (xCons (xCall S__law_with (xCons (xVar 4) (xCons (xVar 1) (xCons (xTup (xCons (xC (.int 1)) (xCons (xC (.int 0)) xNil))) xNil)))) (xCons (xCall S__law_with (xCons (xVar 4) (xCons (xVar 1) (xCons (xTup (xCons (xC (.int 1)) (xCons (xOp dSub (xC (.int 0)) (xC (.int 1))) xNil))) xNil)))) xNil)))))) (gN 6))
  (sSeq (sAsg (xOp dAdd (xVar 6) (xLst (xCons (xCall S__law_with (xCons (xVar 4) (xCons (xVar 1) (xCons (xLst (xCons (xC (.int 1)) (xCons (xC (.int 1)) xNil))) xNil)))) (xCons (xCall S__law_with (xCons (xVar 4) (xCons (xVar 1) (xCons (xC .non) xNil)))) (xCons (xCall S__law_with (xCons (xVar 4) (xCons (xCall S__law_any (xCons (xVar 1) xNil)) (xCons (xTup (xCons (xC (.int 0)) (xCons (xC (.int 1)) xNil))) xNil)))) (xCons (xC .non) (xCons (xC (.int 0)) (xCons (xTup xNil) xNil)))))))) (gN 6))
  (sAsg (xOp dAdd (xVar 3) (xLc (xSeq (xVar 6)) (gN 7) xYes (xCall S__law_with (xCons (xVar 2) (xCons (xVar 5) (xCons (xVar 7) xNil)))) [7])) (gN 3)))))))
  (sRet (xVar 3)))))

theorem m__law_bent : ∀ ds R, S__law_bent ds R → T__law_bent { nx := fun _ => R .non, rt := R } (none :: startD 7 ds) := fun ds R h => by
  obtain ⟨n, M, rfl, hF, hn1, hn, hR⟩ := h
  have hfew := hF.few
  have e2 : D.tup [.int 2, .int 1] = frD 2 := rfl
  simp [T__law_bent, startD, ← fr_one, ← fr_zero, e2]
  have e3 : D.tup [frD 1] = rowD [1] := rfl
  have en : ((n : Int) + 1) = ((n + 1 : Nat) : Int) := by omega
  have er : ∀ X : Row, D.tup [rowD X] = roomD [X] := fun _ => rfl
  have hml : M.length ≤ 120 := by omega
  have lenM : ∀ r ∈ M, r.length = n + 1 := fun r hr => (hF.rf.good r hr).len
  refine ⟨by omega, ?_⟩
  rw [e3, dAdd_rows _ _ (by simp [zerosR]; omega), ok_some, er, dAdd_rooms _ _ (by simp; omega), ok_some, en, S__law_zeros_ap]
  refine ⟨by omega, ?_⟩
  rw [er, dAdd_rooms _ _ (by simp; omega), ok_some]
  refine ⟨M.map rowD, rfl, ?_⟩
  have hc := cutD_len (M.map rowD) none (some 1)
  simp only [List.length_map] at hc
  rw [show dCut (roomD M) none (some 1) = some (.tup (cutD (M.map rowD) none (some 1))) from rfl, ok_some, show roomD M = .tup (M.map rowD) from rfl, dAdd_tt _ _ (k1000 (by simp; omega)), ok_some]
  have okRoom : ∀ X : List Row, X.length ≤ 1000 → okV (roomD X) := fun X h => ⟨(okL_row X).tup.mono (by omega), by simpa [topOk, roomD] using h⟩
  refine lcLoop_map (f := fun x => .lst ((toR x).map frD)) (fun x hx k h1 => ?_) ?_
  · obtain ⟨r, hr, rfl⟩ := List.mem_map.mp hx
    simp [wipe']
    simpa using h1
  simp only [List.nil_append]
  rw [dAdd_ll _ _ (by simp), ok_some]
  refine ⟨by omega, ?_⟩
  refine forL_cnt (P := fun i ρ => ∃ vs a b c d, ρ = [none, some (.int (n : Nat)), some (.tup (M.map rowD)), some (.lst vs), a, b, c, d] ∧ (∀ v ∈ vs, okV v) ∧ vs.length ≤ 7 + 14 * i) (fun i hi ρ hP D' hD h1 => ?_) (fun ρ' hP => ?_) ⟨_, _, _, _, _, rfl, ?_, by simp⟩
  · obtain ⟨vs, a, b, c, d, rfl, hvs, hvl⟩ := hP
    rw [rngD_len] at hi
    have ei : (rngD 0 M.length)[i]'(by rw [rngD_len]; exact hi) = .int (i : Nat) := by simp [rngD]
    have lr := lenM _ (List.getElem_mem hi)
    have smr := hF.sm _ (List.getElem_mem hi)
    have okr := okL_fr M[i]
    have ix : dIx (.tup (M.map rowD)) (.int (i : Nat)) = some (rowD M[i]) := roomD_at M i hi
    have ix' : atI (M.map rowD) (i : Int) = some (rowD M[i]) := ix
    have cutr := cutD_len (M[i].map frD) none (some (-1))
    have ec : dCut (rowD M[i]) none (some (-1)) = some (.tup (cutD (M[i].map frD) none (some (-1)))) := rfl
    have e0 : D.tup [frD 0] = rowD [0] := rfl
    rw [ei]
    simp only [sSeq_ap, gN_ap, sAsg_ap, xOp_ap, xVar_ap, List.set_cons_succ, List.set_cons_zero, List.getElem?_cons_succ, List.getElem?_cons_zero, getW_some, ix, ok_some]
    simp [ix', ec, ← fr_one, ← fr_zero, e2, e0]
    rw [dAdd_rows _ _ (by simp; omega), ok_some]
    refine ⟨fun x hx => ⟨sm_2, smr x hx⟩, by omega, by omega, fun j hj0 hj => ?_⟩
    obtain ⟨j, rfl⟩ := Int.eq_ofNat_of_zero_le hj0
    rw [S__law_with_row]
    refine ⟨by omega, by omega, by omega, by omega, by omega, by omega, by omega, by omega, by omega, by omega, ?_⟩
    rw [dAdd_ll _ _ (by simp), ok_some]
    refine ⟨by omega, by omega, by omega, by omega, by omega, by omega, fun j2 hj20 hj2 => ?_⟩
    obtain ⟨j2, rfl⟩ := Int.eq_ofNat_of_zero_le hj20
    rw [S__law_with_row]
    refine ⟨by omega, by omega, ?_⟩
    rw [dAdd_ll _ _ (by simp), ok_some, isSeq_l]
    have wk : ∀ (j : Nat) (v : D), okd 2 v → okd 5 (.tup ((M[i].map frD).take j ++ v :: (M[i].map frD).drop (j + 1))) := fun j v hv => ((okr.mono (by omega)).with_ hv).tup.mono (by omega)
    refine lcLoop_any (P := okV) (fun x hx k hk => ?_) fun ys hl hy => ?_
    · have hx5 : okd 5 x := by
        simp only [List.mem_append, List.mem_cons, List.not_mem_nil, or_false] at hx
        rcases hx with ((rfl | rfl | rfl | rfl) | (rfl | rfl | rfl | rfl)) | (rfl | rfl | rfl | rfl | rfl | rfl)
        · exact okr.cut.tup.mono (by omega)
        · exact (okd_row _).mono (by omega)
        · exact (okd_row _).mono (by omega)
        · exact wk j _ ⟨rfl, by simp⟩
        · exact wk n _ ⟨rfl, by simp⟩
        · exact wk n _ ⟨rfl, by simp⟩
        · exact wk n _ ⟨rfl, by simp⟩
        · exact wk n _ ⟨rfl, by simp⟩
        · exact wk n _ ⟨rfl, by simp⟩
        · exact wk n _ ⟨rfl, by simp⟩
        · exact wk j2 _ ((okd_fr 0).mono (by omega))
        · exact ⟨rfl, by simp⟩
        · exact ⟨rfl, by simp⟩
        · exact ⟨rfl, by simp⟩
      simp [wipe']
      refine ⟨by omega, by omega, ?_⟩
      have := hk (.tup ((M.map rowD).take i ++ x :: (M.map rowD).drop (i + 1))) ⟨(((okL_row M).mono (by omega)).with_ hx5).tup.mono (by omega), by simp [topOk]; omega⟩
      simpa using this
    · simp only [List.nil_append]
      simp only [List.length_append, List.length_cons, List.length_nil] at hl
      rw [dAdd_ll _ _ (by omega), ok_some]
      refine h1 _ ⟨_, _, _, _, _, rfl, fun v hv => (List.mem_append.mp hv).elim (hvs v) (hy v), by rw [List.length_append]; omega⟩
  · obtain ⟨vs, a, b, c, d, rfl, hvs, hvl⟩ := hP
    rw [rngD_len] at hvl
    exact hR vs hvs (by omega)
  · intro v hv
    have cutM : okL 2 (cutD (M.map rowD) none (some 1)) := (okL_row M).cut
    simp only [List.mem_append, List.mem_cons, List.not_mem_nil, or_false] at hv
    rcases hv with (rfl | rfl | rfl | rfl | rfl) | (rfl | rfl)
    · exact ⟨(okL_row M).lst.mono (by omega), trivial⟩
    · exact okRoom _ (by simp; omega)
    · exact okRoom _ (by simp; omega)
    · exact ⟨(okL_of fun x hx => (okL_row M).mem (List.mem_reverse.mp hx)).tup.mono (by omega), by simp [topOk]; omega⟩
    · exact ⟨((okL_row M).app cutM).tup.mono (by omega), by simp [topOk]; omega⟩
    · refine ⟨(okL_of (k := 2) fun x hx => ?_).tup.mono (by omega), by simp [topOk]; omega⟩
      obtain ⟨y, _, rfl⟩ := List.mem_map.mp hx
      exact (okL_fr _).lst
    · refine ⟨(okL_of (k := 3) fun x hx => ?_).tup.mono (by omega), by simp [topOk]⟩
      rw [List.mem_singleton.mp hx]
      exact (okL_row M).tup

end PU
set_option Elab.async false
set_option linter.all false
set_option maxRecDepth 100000
set_option maxHeartbeats 4000000
/-! the law itself -/
namespace PU
open PySem PySem.Spec PyProof.Rows L2
@[simp] theorem xRevL_ap (T : TE') (ρ : PEnv) (R : D → Prop) : xRevL T ρ R = T ρ fun d => ∃ xs, d = .lst xs ∧ R (.lst xs.reverse) := rfl
@[simp] theorem xAddF_ap (T U : TE') (ρ : PEnv) (R : D → Prop) : xAddF T U ρ R = T ρ fun x => U ρ fun y => ∃ xs ys, x = .lst xs ∧ y = .lst ys ∧ xs.length + ys.length ≤ sizeLine ∧ R (.lst (xs ++ ys)) := rfl
theorem all_int : ∀ {ys : List D}, (∀ y ∈ ys, ∃ q : Int, y = .int q) → ∃ r : List Int, ys = r.map D.int
  | [], _ => ⟨[], rfl⟩
  | y :: ys, h => by
    obtain ⟨q, rfl⟩ := h y (by simp)
    obtain ⟨r, rfl⟩ := all_int (ys := ys) fun y hy => h y (by simp [hy])
    exact ⟨q :: r, rfl⟩
def S__law_deal : Spec := fun ds R => ∃ (ns : List Int) (s : Int), ds = [.lst (ns.map D.int), .int s] ∧ s.natAbs ≤ 100000 ∧ ∀ (xs : List Int) (m : Int), xs.length ≤ 63 → m.natAbs < 1099511627776 → R (.lst [.lst (xs.map D.int), .int m])
theorem l__law_deal : ∀ ds R, S__law_deal ds R → ds.length = 2 := fun ds R ⟨_, _, h, _⟩ => by rw [h]; rfl

def T__law_deal : TS' := (sSeq (sAsg (xOp dMul (xOp dMul (xOp dMul (xOp dMul (xOp dMul (xOp dPow (xC (.int 10)) (xC (.int 64))) (xOp dPow (xC (.int 10)) (xC (.int 64)))) (xOp dPow (xC (.int 10)) (xC (.int 64)))) (xOp dPow (xC (.int 10)) (xC (.int 64)))) (xOp dPow (xC (.int 10)) (xC (.int 64)))) (xOp dPow (xC (.int 10)) (xC (.int 64)))) (gN 2))
  (sSeq (sAsg (xLc (xSeq (xSl (xVar 0) xNo (xPart (xC (.int 63))))) (gN 4) xYes (xOp dMod (xOp1 dIntOf (xOp1 dAbs (xOp1 dIntOf (xVar 4)))) (xVar 2)) [4]) (gN 3))
  (sSeq (sAsg (xOp dAdd (xC (.int 70001)) (xOp dMul (xC (.int 7919)) (xVar 1))) (gN 5))
  (sSeq (sFor (xSeq (xVar 3)) (gN 4)
   (sAsg (xOp dMod (xOp1 dIntOf (xOp dAdd (xOp dAdd (xOp dMul (xVar 5) (xC (.int 69621))) (xOp dMod (xOp1 dIntOf (xVar 4)) (xC (.int 2147483563)))) (xC (.int 23)))) (xC (.int 2147483647))) (gN 5)))
  (sRet (xLst (xCons (xRevL (xLc (xSeq (xVar 3)) (gN 4) (xB (xOp dGe (xVar 4) (xOp dPow (xC (.int 10)) (xC (.int 18))))) (xVar 4) [4])) (xCons (xVar 5) xNil))))))))

theorem m__law_deal : ∀ ds R, S__law_deal ds R → T__law_deal { nx := fun _ => R .non, rt := R } (startD 6 ds) := fun ds R h => by
  obtain ⟨ns, s, rfl, hs, hR⟩ := h
  obtain ⟨most, hmost, hm⟩ : ∃ most : Int, most ≠ 0 ∧ ∀ (ρ : PEnv) (R' : D → Prop), R' (.int most) → (xOp dMul (xOp dMul (xOp dMul (xOp dMul (xOp dMul (xOp dPow (xC (.int 10)) (xC (.int 64))) (xOp dPow (xC (.int 10)) (xC (.int 64)))) (xOp dPow (xC (.int 10)) (xC (.int 64)))) (xOp dPow (xC (.int 10)) (xC (.int 64)))) (xOp dPow (xC (.int 10)) (xC (.int 64)))) (xOp dPow (xC (.int 10)) (xC (.int 64)))) ρ R' := by
    have e1 : dPow (.int 10) (.int 64) = some (.int (10 ^ 64)) := by simp [dPow]
    have mk : ∀ a b : Int, a.natAbs.log2 + b.natAbs.log2 < 1000000 → dMul (.int a) (.int b) = some (.int (a * b)) := fun a b h => by
      have : MulOk a b := h
      simp [dMul, this]
    refine ⟨10 ^ 64 * 10 ^ 64 * 10 ^ 64 * 10 ^ 64 * 10 ^ 64 * 10 ^ 64, by decide, fun ρ R' h => ?_⟩
    simp only [xOp_ap, xC_ap, e1, ok_some]
    rw [mk _ _ (by decide +kernel), ok_some, mk _ _ (by decide +kernel), ok_some, mk _ _ (by decide +kernel), ok_some, mk _ _ (by decide +kernel), ok_some, mk _ _ (by decide +kernel), ok_some]
    exact h
  unfold T__law_deal
  rw [sSeq_ap, sAsg_ap]
  refine hm _ _ ?_
  simp [startD]
  have hcl := cutD_len (ns.map D.int) none (some 63)
  have hc63 : (cutD (ns.map D.int) none (some 63)).length ≤ 63 := by
    have e : (some (63 : Int)) = some ((63 : Nat) : Int) := rfl
    by_cases h : 63 ≤ (ns.map D.int).length
    · rw [e, cut_take _ _ h]; simp; omega
    · simp only [List.length_map] at hcl h; omega
  have ed : dCut (.lst (ns.map D.int)) none (some 63) = some (.lst (cutD (ns.map D.int) none (some 63))) := rfl
  simp [ed]
  refine lcLoop_any (P := fun d => ∃ i : Int, d = .int i) (fun x hx k hk => ?_) fun ys hl hy => ?_
  · have hx' := List.mem_of_mem_drop (List.mem_of_mem_take hx)
    obtain ⟨i, _, rfl⟩ := List.mem_map.mp hx'
    simp [wipe', dMod, hmost]
    exact hk _ ⟨_, rfl⟩
  · obtain ⟨cells, rfl⟩ := all_int hy
    simp only [List.length_map] at hl
    have hmul : ∀ a b : Int, a.natAbs < 4294967296 → b.natAbs < 4294967296 → dMul (.int a) (.int b) = some (.int (a * b)) := fun a b h1 h2 => by
      have l1 : a.natAbs.log2 < 32 := log2_lt (by omega) (by omega)
      have l2 : b.natAbs.log2 < 32 := log2_lt (by omega) (by omega)
      have : MulOk a b := by unfold MulOk; omega
      simp [dMul, this]
    simp [hmul 7919 s (by decide) (by omega)]
    refine forL_cnt (P := fun i ρ => ∃ mx y, ρ = [some (.lst (ns.map D.int)), some (.int s), some (.int most), some (.lst (cells.map D.int)), y, some (.int mx)] ∧ mx.natAbs < 4294967296) (fun i hi ρ hP D' hD h1 => ?_) (fun ρ' hP => ?_) ⟨_, _, rfl, by omega⟩
    · obtain ⟨mx, y, rfl, hmx⟩ := hP
      simp [hmul mx 69621 hmx (by decide), dMod]
      refine h1 _ ⟨_, _, rfl, ?_⟩
      have hp : ∀ a : Int, 0 ≤ a.fmod 2147483647 ∧ a.fmod 2147483647 < 2147483647 := fun a => ⟨Int.fmod_nonneg_of_pos _ (by decide), Int.fmod_lt_of_pos _ (by decide)⟩
      have := hp (mx * 69621 + (cells[i]'(by simpa using hi)).fmod 2147483563 + 23)
      omega
    · obtain ⟨mx, y, rfl, hmx⟩ := hP
      have e1 : dPow (.int 10) (.int 18) = some (.int (10 ^ 18)) := by simp [dPow]
      simp
      refine lcLoop_plain (p := fun x => match x with | .int i => decide ((10 : Int) ^ 18 ≤ i) | _ => false) (f := fun x => x) (fun x hx k k2 h1 h2 => ?_) ?_
      · obtain ⟨i, _, rfl⟩ := List.mem_map.mp hx
        simp only [wipe', gN_ap, xB_ap, xOp_ap, xVar_ap, xC_ap, List.set_cons_succ, List.set_cons_zero, List.getElem?_cons_succ, List.getElem?_cons_zero, getW_some, e1, ok_some, dGe_ii, isB_bl]
        by_cases h : (10 : Int) ^ 18 ≤ i
        · rw [decide_eq_true h, if_pos rfl]; exact h1 (decide_eq_true h)
        · rw [decide_eq_false h, if_neg Bool.false_ne_true]; exact h2 (decide_eq_false h)
      · obtain ⟨xs, hxs⟩ := all_int (ys := ([] ++ (((cells.map D.int).filter fun x : D => match x with | .int i => decide ((10 : Int) ^ 18 ≤ i) | _ => false).map fun x => x)).reverse) fun y hy => by
          rw [List.mem_reverse, List.nil_append, List.map_id'] at hy
          obtain ⟨i, _, rfl⟩ := List.mem_map.mp (List.mem_filter.mp hy).1
          exact ⟨i, rfl⟩
        have hlen : xs.length ≤ 63 := by
          have := congrArg List.length hxs
          simp only [List.length_reverse, List.nil_append, List.map_id', List.length_map] at this
          have h3 := List.length_filter_le (fun x : D => match x with | .int i => decide ((10 : Int) ^ 18 ≤ i) | _ => false) (cells.map D.int)
          simp only [List.length_map] at h3
          omega
        have := hR xs mx hlen (by omega)
        rw [← hxs] at this
        simpa using this

def T_turnB : TS' := (sSeq (sAsg (xAddF (xVar 2) (xLst (xCons (xTup (xCons (xCall S_is_flat (xCons (xVar 4) (xCons (xVar 5) xNil))) (xCons (xC (.bl true)) xNil))) (xCons (xTup (xCons (xCallK [1, 0] S_is_flat (xCons (xVar 5) (xCons (xVar 4) xNil))) (xCons (xC (.bl true)) xNil))) (xCons (xTup (xCons (xCall S_is_flat (xCons (xVar 4) (xCons (xTup xNil) xNil))) (xCons (xC (.bl true)) xNil))) xNil))))) (gN 2))
  (sSeq (sAsg (xAddF (xVar 2) (xLst (xCons (xTup (xCons (xCall S_is_flat (xCons (xOp dAdd (xVar 4) (xC (.int 1))) (xCons (xVar 5) xNil))) (xCons (xOp dEq (xOp1 dLen (xVar 5)) (xC (.int 0))) xNil))) (xCons (xTup (xCons (xCall S_is_flat (xCons (xVar 4) (xCons (xTup (xCons (xOp dAdd (xCall S__law_zeros (xCons (xC (.int 0)) (xCons (xVar 4) xNil))) (xTup (xCons (xTup (xCons (xC (.int 1)) (xCons (xC (.int 1)) xNil))) xNil))) xNil)) xNil))) (xCons (xC (.bl false)) xNil))) xNil)))) (gN 2))
  (sSeq (sFor (xSeq (xCall S__law_bent (xCons (xVar 4) (xCons (xVar 5) xNil)))) (gN 6)
   (sApp 2 (xUp (xTup (xCons (xCall S_is_flat (xCons (xVar 4) (xCons (xVar 6) xNil))) (xCons (xCall S__law_is_flat (xCons (xVar 4) (xCons (xVar 6) xNil))) xNil))))))
  (sSeq (sFor (xSeq (xLst (xCons (xC .non) (xCons (xC (.int 0)) (xCons (xC (.bl true)) (xCons (xC (.str "flat")) (xCons (xLst xNil) (xCons (xTup (xCons (xTup xNil) xNil)) (xCons (xTup (xCons (xTup xNil) (xCons (xTup xNil) xNil))) (xCons (xTup (xCons (xC .non) xNil)) (xCons (xTup (xCons (xC (.int 0)) xNil)) (xCons (xTup (xCons (xC (.str "a = 0")) xNil)) xNil)))))))))))) (gN 6)
   (sApp 2 (xUp (xTup (xCons (xCall S_is_flat (xCons (xVar 4) (xCons (xVar 6) xNil))) (xCons (xC (.bl false)) xNil))))))
  (sSeq (sAsg (xCall S__law_drawn_room (xCons (xC (.int 0)) (xCons (xOp dAdd (xVar 4) (xC (.int 1))) (xCons (xC (.int 3)) xNil)))) (gN 7))
  (sApp 2 (xUp (xTup (xCons (xCall S_is_flat (xCons (xVar 4) (xCons (xVar 7) xNil))) (xCons (xCall S__law_is_flat (xCons (xVar 4) (xCons (xVar 7) xNil))) xNil))))))))))
def T_lawr : TS' := sSeq (sAsg (xLst xNil) (gN 2)) (sSeq (sFor (xRange1 (xC (.int 6))) (gN 3) (sSeq (sAsg (xOp dAdd (xC (.int 1)) (xCall S__law_any (xCons (xC (.int 5)) xNil))) (gN 4)) (sSeq (sAsg (xCall S__law_drawn_flat (xCons (xVar 4) xNil)) (gN 5)) (sSeq (sAsg (xIf (xOr (xB (xOp dGt (xOp1 dLen (xVar 5)) (xC (.int 0)))) (xB (xOp dGt (xVar 3) (xC (.int 2))))) (xVar 5) (xCall S__law_point (xCons (xCall S__law_row (xCons (xC (.int 0)) (xCons (xVar 4) (xCons (xC (.int 4)) xNil)))) xNil))) (gN 5)) T_turnB)))) (sRet (xCall S__law_all (xCons (xVar 2) xNil))))
def prs (ps : List (D × D)) : Prop := ∀ p ∈ ps, ∃ b : Bool, p = (.bl b, .bl b)
theorem prs_app {ps qs : List (D × D)} (h : prs ps) (h2 : prs qs) : prs (ps ++ qs) := fun p hp => (List.mem_append.mp hp).elim (h p) (h2 p)
theorem prs_one (b : Bool) : prs [(.bl b, .bl b)] := fun p hp => ⟨b, by simpa using hp⟩
theorem flat_bad {n : Nat} {v : D} (h : formB ((n : Int) + 1) v = false) : flatB n v = false := by simp [flatB, roomB, h]
theorem okV.use {v : D} (h : okV v) : v.good = true ∧ v.dep ≤ 60 ∧ topOk v := ⟨h.1.1, Nat.le_trans h.1.2 (by omega), h.2⟩
theorem flat_next {n : Nat} {M : List Row} (hF : FlatP n M) : flatB ((n : Int) + 1) (roomD M) = decide (M = []) := by
  by_cases h : M = []
  · subst h
    have := (FlatP.mk .nil (fun _ h => by cases h) (fun i h => absurd h (by simp)) (fun _ h => by cases h) (by simp) : FlatP (n + 1) []).is
    rw [show (((n + 1 : Nat) : Int)) = (n : Int) + 1 by omega] at this
    simpa using this
  · rw [decide_eq_false h]
    obtain ⟨r, l, rfl⟩ := List.exists_cons_of_ne_nil h
    have : formB ((n : Int) + 1 + 1) (roomD (r :: l)) = false := by
      rw [← Bool.not_eq_true, form_room]
      intro q
      have h1 := q r (by simp)
      have h2 := (hF.rf.good r (by simp)).len
      omega
    simp [flatB, roomB, this]
theorem flat_last (n : Nat) : flatB n (.tup [rowD (zerosR n ++ [1])]) = false := by
  have h1 : at0 (zerosR n ++ [1]) n = 1 := by simp [at0, zerosR]
  have h2 : ∀ i, i < n → at0 (zerosR n ++ [1]) i = 0 := fun i hi => by simp [at0, zerosR, List.getElem?_append_left, hi]
  obtain ⟨h3, h4⟩ := hd_eq (by rw [h1]; decide) h2
  have h5 : headI (zerosR n ++ [1]) = (n : Int) := by rw [headI_of (by omega), h3]
  have hl : (zerosR n ++ [1]).length = n + 1 := by simp [zerosR]
  have h6 : falseB [zerosR n ++ [1]] = true := by simp only [falseB, List.getLast?_singleton, h5, hl]; simp
  have h7 : toM (.tup [rowD (zerosR n ++ [1])]) = [zerosR n ++ [1]] := toM_room [_]
  simp [flatB, h7, h6]
theorem pairs_loop {n : Nat} {M : List Row} {t : PU.D} {r : Option PU.D} {te2 : TE'} {D : Ends'} (hn : n ≤ 5) : ∀ {vs : List PU.D} (ps : List (PU.D × PU.D)) (v0 : Option PU.D), (∀ v ∈ vs, okV v) → (∀ v ∈ vs, ∀ (ps : List (PU.D × PU.D)) (R : PU.D → Prop), R (.bl (flatB n v)) → te2 [none, none, some (.lst (ps.map pairD)), some t, some (.int (n : Nat)), some (roomD M), some v, r] R) → prs ps → ps.length + vs.length ≤ 8000000 → (∀ ps' v', prs ps' → ps'.length = ps.length + vs.length → D.nx [none, none, some (.lst (ps'.map pairD)), some t, some (.int (n : Nat)), some (roomD M), v', r]) →
    forL (gN 6) (sApp 2 (xUp (xTup (xCons (xCall S_is_flat (xCons (xVar 4) (xCons (xVar 6) xNil))) (xCons te2 xNil))))) vs D [none, none, some (.lst (ps.map pairD)), some t, some (.int (n : Nat)), some (roomD M), v0, r]
  | [], ps, v0, hv, h2, hp, hl, h => h ps v0 hp (by simp)
  | v :: vs, ps, v0, hv, h2, hp, hl, h => by
    rw [forL_cons]
    simp only [List.length_cons] at hl
    obtain ⟨g1, g2, g3⟩ := (hv v (by simp)).use
    simp [g1, g2, g3]
    refine h2 v (by simp) ps _ ?_
    refine ⟨by rw [sizeLine_eq]; omega, ?_⟩
    have := pairs_loop (te2 := te2) (D := D) (M := M) (t := t) (r := r) hn (vs := vs) (ps ++ [(.bl (flatB n v), .bl (flatB n v))]) (some v) (fun v hv' => hv v (by simp [hv'])) (fun v hv' => h2 v (by simp [hv'])) (prs_app hp (prs_one _)) (by simp; omega) fun ps' v' h3 h4 => h ps' v' h3 (by simp at h4 ⊢; omega)
    simpa [pairD] using this
theorem turnB {n : Nat} {M : List Row} {ps : List (D × D)} {t : PU.D} {v r : Option PU.D} {D' : Ends'} (hn1 : 1 ≤ n) (hn : n ≤ 5) (hF : FlatP n M) (hps : prs ps) (hl : ps.length ≤ 2000000)
    (h : ∀ ps' v r, prs ps' → ps'.length ≤ ps.length + 200000 → D'.nx [none, none, some (.lst (ps'.map pairD)), some t, some (.int (n : Nat)), some (roomD M), v, r]) : T_turnB D' [none, none, some (.lst (ps.map pairD)), some t, some (.int (n : Nat)), some (roomD M), v, r] := by
  have okM : okV (roomD M) := ⟨(okL_row M).tup.mono (by omega), by have := hF.few; simp [topOk, roomD]; omega⟩
  obtain ⟨g1, g2, g3⟩ := okM.use
  have en : ((n : Int) + 1) = ((n + 1 : Nat) : Int) := by omega
  have e1 : D.tup [] = roomD [] := rfl
  have fnil : flatB n (roomD []) = true := (FlatP.mk .nil (fun _ h => by cases h) (fun i h => absurd h (by simp)) (fun _ h => by cases h) (by simp) : FlatP n []).is
  have gnil : (roomD []).good = true ∧ (roomD []).dep ≤ 60 ∧ topOk (roomD []) := ⟨rfl, by simp [roomD], by simp [topOk, roomD]⟩
  have fM := hF.is
  simp [T_turnB, permL, g1, g2, g3, fM, e1, fnil, gnil]
  have e11 : D.tup [D.tup [.int 1, .int 1]] = rowD [1] := rfl
  have hfew := hF.few
  refine ⟨by rw [sizeLine_eq]; omega, by omega, ?_⟩
  rw [e11, dAdd_rows _ _ (by simp [zerosR]; omega), ok_some]
  have okz := okd_row (zerosR n ++ [1])
  refine ⟨okz.1, Nat.le_trans okz.2 (by omega), by simp [topOk], by rw [sizeLine_eq]; omega, hF, by omega, by omega, fun vs hvs hvl => ?_⟩
  rw [flat_next hF, flat_last n]
  have e0 : ps.map pairD ++ [D.tup [D.bl true, D.bl true], D.tup [D.bl true, D.bl true], D.tup [D.bl true, D.bl true], D.tup [D.bl (decide (M = [])), D.bl (decide (M = []))], D.tup [D.bl false, D.bl false]] = (ps ++ ([(D.bl true, D.bl true), (D.bl true, D.bl true), (D.bl true, D.bl true), (D.bl (decide (M = [])), D.bl (decide (M = []))), (D.bl false, D.bl false)] : List (D × D))).map pairD := by simp [pairD]
  rw [e0]
  have p1 : prs (ps ++ ([(D.bl true, D.bl true), (D.bl true, D.bl true), (D.bl true, D.bl true), (D.bl (decide (M = [])), D.bl (decide (M = []))), (D.bl false, D.bl false)] : List (D × D))) := prs_app hps fun p hp => by
    simp only [List.mem_cons, List.not_mem_nil, or_false] at hp
    rcases hp with rfl | rfl | rfl | rfl | rfl <;> exact ⟨_, rfl⟩
  refine pairs_loop hn _ _ hvs (fun v hv ps R hR => ?_) p1 (by simp; omega) fun ps2 v2 p2 l2 => ?_
  · obtain ⟨g1, g2, g3⟩ := (hvs v hv).use
    simp [g1, g2, g3]
    exact ⟨by omega, hR⟩
  simp only [List.length_append, List.length_cons, List.length_nil] at l2
  have badOk : ∀ v ∈ ([D.non, D.int 0, D.bl true, D.str (Str.ofString "flat"), D.lst [], D.tup [roomD []], D.tup [roomD [], roomD []], D.tup [D.non], D.tup [D.int 0], D.tup [D.str (Str.ofString "a = 0")]] : List D), okV v ∧ flatB n v = false := fun v hv => by
    have hrow : ∀ x, isRowB ((n : Int) + 1) x = false → ∀ l, flatB n (.tup (x :: l)) = false := fun x hx l => flat_bad (by simp [formB, hx])
    have z : isRowB ((n : Int) + 1) (roomD []) = false := by simp [isRowB, roomD]; omega
    simp only [List.mem_cons, List.not_mem_nil, or_false] at hv
    rcases hv with rfl | rfl | rfl | rfl | rfl | rfl | rfl | rfl | rfl | rfl
    · exact ⟨⟨⟨rfl, by simp⟩, trivial⟩, flat_bad rfl⟩
    · exact ⟨⟨⟨rfl, by simp⟩, trivial⟩, flat_bad rfl⟩
    · exact ⟨⟨⟨rfl, by simp⟩, trivial⟩, flat_bad rfl⟩
    · exact ⟨⟨⟨by decide +kernel, by simp⟩, trivial⟩, flat_bad rfl⟩
    · exact ⟨⟨⟨rfl, by simp⟩, trivial⟩, flat_bad rfl⟩
    · exact ⟨⟨⟨rfl, by simp [roomD]⟩, by simp [topOk]⟩, hrow _ z _⟩
    · exact ⟨⟨⟨rfl, by simp [roomD]⟩, by simp [topOk]⟩, hrow _ z _⟩
    · exact ⟨⟨⟨rfl, by simp⟩, by simp [topOk]⟩, hrow _ rfl _⟩
    · exact ⟨⟨⟨rfl, by simp⟩, by simp [topOk]⟩, hrow _ rfl _⟩
    · exact ⟨⟨⟨by decide +kernel, by simp⟩, by simp [topOk]⟩, hrow _ rfl _⟩
  refine pairs_loop hn _ _ (fun v hv => (badOk v hv).1) (fun v hv ps R hR => ?_) p2 (by simp; omega) fun ps3 v3 p3 l3 => ?_
  · rw [(badOk v hv).2] at hR; exact hR
  simp only [List.length_cons, List.length_nil] at l3
  simp
  have c6 : Cap (gr (12 * 3) 6) := by unfold Cap; decide +kernel
  refine ⟨n + 1, 3, by rw [← en]; rfl, by omega, by omega, by omega, by omega, c6.mono (gr_mono (by omega) (by omega)), fun Q hQ hQl => ?_⟩
  obtain ⟨q1, q2, q3⟩ := (show okV (roomD Q) from ⟨(okL_row Q).tup.mono (by omega), by simp [topOk, roomD]; omega⟩).use
  simp [q1, q2, q3]
  refine ⟨by omega, by rw [sizeLine_eq]; omega, ?_⟩
  have := h (ps3 ++ [(.bl (flatB n (roomD Q)), .bl (flatB n (roomD Q)))]) v3 (some (roomD Q)) (prs_app p3 (prs_one _)) (by simp; omega)
  simpa [pairD] using this
theorem allP_prs {ps : List (D × D)} (h : prs ps) : allP ps = true ∧ ∀ p ∈ ps, p.1.good = true ∧ dueOk p.2 = true ∧ wt p.2 ≤ 900000 := by
  refine ⟨List.all_eq_true.mpr fun p hp => ?_, fun p hp => ?_⟩
  · obtain ⟨b, rfl⟩ := h p hp
    simp [sameB, kindB]
  · obtain ⟨b, rfl⟩ := h p hp
    exact ⟨rfl, rfl, by simp [wt]⟩
theorem m_lawr : T_lawr { nx := fun _ => False, rt := fun d => d = .bl true } [none, none, none, none, none, none, none, none] := by
  have c5 : Cap (5 * (gr 48 5 * 48)) := by unfold Cap; decide +kernel
  simp [T_lawr]
  refine forL_cnt (P := fun i ρ => ∃ ps t sz fl v r, ρ = [none, none, some (.lst (ps.map pairD)), t, sz, fl, v, r] ∧ prs ps ∧ ps.length ≤ 200000 * i) (fun i hi ρ hP D' hD h1 => ?_) (fun ρ' hP => ?_) ⟨[], none, none, none, none, none, rfl, (fun _ h => by cases h), by simp⟩
  · obtain ⟨ps, t, sz, fl, v, r, rfl, hps, hl⟩ := hP
    rw [rngD_len] at hi
    have ei : (rngD 0 6)[i]'(by rw [rngD_len]; exact hi) = .int (i : Nat) := by simp [rngD]
    rw [ei]
    simp
    intro j hj0 hj
    obtain ⟨k, rfl⟩ := Int.eq_ofNat_of_zero_le hj0
    have en : (1 : Int) + (k : Int) = ((1 + k : Nat) : Int) := by omega
    rw [en]
    have hn : 1 + k ≤ 5 := by omega
    have fin : ∀ M : List Row, FlatP (1 + k) M → T_turnB D' [none, none, some (.lst (ps.map pairD)), some (.int (i : Nat)), some (.int ((1 + k : Nat) : Int)), some (roomD M), v, r] := fun M hM =>
      turnB (by omega) hn hM hps (by omega) fun ps' v r p1 p2 => h1 _ ⟨ps', _, _, _, v, r, rfl, p1, by omega⟩
    generalize hnn : 1 + k = n at *
    have cn : Cap (n * (gr 48 n * 48)) := c5.mono (Nat.mul_le_mul hn (Nat.mul_le_mul_right _ (gr_mono (by omega) hn)))
    rw [S__law_drawn_flat_ap]
    refine ⟨by omega, by omega, cn, fun M hM => ?_⟩
    simp
    split
    · exact fin M hM
    split
    · exact fin M hM
    · refine ⟨n, 4, rfl, by omega, by omega, by omega, fun q hq => ?_⟩
      simp
      refine ⟨by rw [hq.1]; omega, ?_⟩
      have smq : ∀ x ∈ q, sm x := fun x hx => by
        obtain ⟨i, _, rfl⟩ := mem_at hx
        have c48 : Cap 48 := cn.mono (by
          have := gr_pos (B0 := 48) (by omega) n
          calc 48 ≤ gr 48 n * 48 := Nat.le_mul_of_pos_left _ this
            _ ≤ _ := Nat.le_mul_of_pos_left _ (by omega))
        exact ht_sm (by omega) (c48.mono (by omega)) (c48.mono (by omega)) (hq.2 i)
      have := point_flat smq (pointR q).length
      rw [List.take_length, hq.1] at this
      exact fin _ this
  · obtain ⟨ps, t, sz, fl, v, r, rfl, hps, hl⟩ := hP
    obtain ⟨a1, a2⟩ := allP_prs hps
    simp
    exact ⟨ps, rfl, a2, by rw [a1]⟩

end PU
set_option Elab.async false
set_option linter.all false
set_option maxRecDepth 100000
set_option maxHeartbeats 4000000
/-! a comprehension read at one state -/
namespace PU
open PySem PySem.Spec PyProof.Rows L2
section
variable {B : Bs}
theorem lc_at {w : Bool} {wi : TI} {ds0 : List D} {g : TG} {g' : TG'} {tt : TT} {tt' : TT'} {te : TE} {te' : TE'} {vs sl : List Nat} {G H : Hp} {σ : L2.St} {ρ : PEnv} (E : EnvR B G H σ ρ)
    (hi : ∀ Q : It → Hp → Prop, (∀ J G' H', Stp B G H G' H' → ItR B w J G' H' ds0 → Q J H') → wi σ H Q)
    (hg : ∀ G H σ ρ v d R Q, EnvR B G H σ ρ → Rp B.K G v d → g' d ρ R → (∀ ρ' σ', R ρ' → EnvR B G H σ' ρ' → σ'.length = σ.length → (∀ j, j ∉ sl → σ'[j]? = σ[j]?) → Q σ' H) → g v σ H Q)
    (ht : PuTT B tt tt') (he : Pu B (RE B) te te') (hsl : ∀ j ∈ sl, j ∈ vs) (hd : ∀ i ∈ vs, offDl B.dl i) (hl : ds0.length ≤ sizeLine) (R : D → Prop) (Q : VK) (h1 : lcLoop g' tt' te' (wipe' ρ vs) ds0 [] fun acc => R (.lst acc))
    (k : ∀ d v G' H', R d → Stp B G H G' H' → RF B H G' H' v d → Q v H') : tLc wi g tt te vs σ H Q := by
  refine hi _ fun J G1 H1 s1 itr D hD => ?_
  have E1 := E.step s1
  have hD0 : H D = none := s1.free hD
  have nD : ∀ d, B.dl = some d → D ≠ d.a ∧ D ≠ d.c := fun d hd => by
    have := (s1.dl d hd).tr
    obtain ⟨⟨_, ta⟩, _, tc⟩ := this
    exact ⟨fun z => (by rw [z, ta] at hD; cases hD), fun z => (by rw [z, tc] at hD; cases hD)⟩
  refine ⟨fun i m Hx => m = ds0.length - i ∧ i ≤ ds0.length ∧ ∃ Gx acc us, Stp B G H Gx Hx ∧ Same G1 Gx ∧ Same (Hm B.dl H1) (Hm B.dl Hx) ∧ Hx D = some (.lst us) ∧ Gx D = none ∧ RpL B.K Gx us acc ∧ acc.length ≤ i ∧
      lcLoop g' tt' te' (wipe' ρ vs) (ds0.drop i) acc fun acc => R (.lst acc), ⟨ds0.length, by simp, Nat.zero_le _, G1, [], [], ?_, Same.refl _, Hm_new hD, upd_same, s1.gh.free hD, .nil, Nat.le_refl _, by simpa using h1⟩, ?_⟩
  · exact s1.trans (E1.stpNewH (.lst []) hD)
  rintro i m Hx ⟨rfl, hi, Gx, acc, us, sx, g1x, hmx, hDx, gDx, racc, hacc, hloop⟩
  obtain ⟨hgo, hstop⟩ := itr Gx Hx g1x sx.gh fun _ => hmx
  have Ex := E.step sx
  by_cases hlt : i < ds0.length
  · right
    obtain ⟨go, hy⟩ := hgo i hlt
    refine ⟨go, fun Hn => ∃ Gn acc us, Stp B G H Gn Hn ∧ Same G1 Gn ∧ Same (Hm B.dl H1) (Hm B.dl Hn) ∧ Hn D = some (.lst us) ∧ Gn D = none ∧ RpL B.K Gn us acc ∧ acc.length ≤ i + 1 ∧ lcLoop g' tt' te' (wipe' ρ vs) (ds0.drop (i + 1)) acc fun acc => R (.lst acc), fun Hn hn => ⟨_, by omega, rfl, hlt, hn⟩, fun x H' hyl => ?_⟩
    obtain ⟨d, hd0, hx⟩ := hy x H' hyl
    have hdrop : ds0.drop i = d :: ds0.drop (i + 1) := by
      rw [List.drop_eq_getElem_cons hlt]
      rw [List.getElem?_eq_getElem hlt] at hd0
      cases hd0; rfl
    rw [hdrop] at hloop
    have key : ∃ G', Stp B Gx Hx G' H' ∧ Rp B.K G' x d := by
      rcases hx with ⟨rfl, rx⟩ | ⟨q, o, hq, rfl, rx⟩
      · exact ⟨Gx, .refl Ex, rx⟩
      · exact ⟨_, Ex.stpNew o hq, rx⟩
    obtain ⟨G', s', rx⟩ := key
    have E' := Ex.step s'
    have keepD : ∀ {Ga Ha Gb Hb : Hp} {ws : List V}, Stp B Ga Ha Gb Hb → Ha D = some (.lst ws) → Ga D = none → Hb D = some (.lst ws) ∧ Gb D = none := fun {Ga Ha Gb Hb ws} s a b =>
      ⟨Hm_some (s.hh D _ (Hm_of a nD)), by rw [s.fr D _ a]; exact b⟩
    obtain ⟨hD', gD'⟩ := keepD s' hDx gDx
    refine hg G' H' _ _ x d _ _ (E'.wipe hd) rx hloop fun ρ1 σ1 hl1 E1' len1 keep1 => ?_
    refine ⟨(wipe_eq len1 keep1 hsl).trans wipe_wipe, ?_⟩
    have s1' := sx.trans s'
    refine ht G' H' σ1 ρ1 _ _ E1' hl1 fun b G2 H2 hb s2 => ?_
    obtain ⟨hD2, gD2⟩ := keepD s2 hD' gD'
    cases b with
    | false =>
      rw [if_neg Bool.false_ne_true] at hb ⊢
      exact ⟨G2, acc, us, s1'.trans s2, (g1x.trans s'.gg).trans s2.gg, (hmx.trans s'.hh).trans s2.hh, hD2, gD2, racc.mono (s'.gg.trans s2.gg), Nat.le_succ_of_le hacc, hb⟩
    | true =>
      rw [if_pos rfl] at hb ⊢
      refine he G2 H2 σ1 ρ1 _ _ (E1'.step s2) hb fun y v G3 H3 hy s3 r3 => ?_
      obtain ⟨hD3, gD3⟩ := keepD s3 hD2 gD2
      have hus : us.length = acc.length := racc.length
      refine ⟨us, hD3, by omega, G3, acc ++ [y], us ++ [v], ((s1'.trans s2).trans s3).wr hD0 gD3 nD, ((g1x.trans s'.gg).trans s2.gg).trans s3.gg, Hm_wr (((hmx.trans s'.hh).trans s2.hh).trans s3.hh) hD, upd_same, gD3, ?_, by simp; omega, hy⟩
      exact (racc.mono ((s'.gg.trans s2.gg).trans s3.gg)).append (.cons r3 .nil)
  · left
    have e : i = ds0.length := by omega
    subst e
    refine ⟨hstop, ?_⟩
    rw [List.drop_length] at hloop
    exact k _ _ Gx Hx hloop sx ⟨D, us, acc, rfl, rfl, hD0, gDx, hDx, racc⟩
end
end PU
set_option Elab.async false
set_option linter.all false
set_option maxRecDepth 100000
set_option maxHeartbeats 4000000
namespace PU
open PySem PySem.Spec PyProof.Rows L2
def topS (i : Nat) : Stmt := PySem.Challenge.pw_holdrooms_k00_flats_have_one_form.main.body.getD i (.Pass ⟨0, 0, 0, 0⟩)
section
variable {P : Program} {w : World} {K : PySem.W.Frag} {mg : Str → Option Value} {base : Heap}
abbrev s_is_integer : Stmt := topS 1
abbrev N_is_integer : List Str := ["value"]
theorem sc_is_integer : FnScope N_is_integer ["value"] (defScope s_is_integer) := ⟨rfl, rfl, rfl, by decide +kernel, rfl, by decide +kernel, by decide +kernel⟩
theorem ok_is_integer (F : DefAt K mg "is_integer" s_is_integer) (m_isinstance : mg "isinstance" = none) (m_int : mg "int" = none) (m_bool : mg "bool" = none) : Cal P w K mg base 1 "is_integer" ["value"] S_is_integer := by
  have sc := sc_is_integer
  refine fn_pure (N := N_is_integer) (T := T_is_integer) [] F sc l_is_integer (by decide) (fun _ _ _ _ _ _ us hl => match us, hl with | [_], _ => rfl) (fun f cd A outer s H G0 H0 E hr => ?_) m_is_integer
  exact ⟨_, (pus_one (pus_ret (pu_and (pu_isiO (by rfl) (by rfl) m_isinstance (by rfl) m_int boot_int (by decide) (PuE.g (pu_var 0))) (pu_one (pu_not (pu_isiO (by rfl) (by rfl) m_isinstance (by rfl) m_bool boot_bool (by decide) (PuE.g (pu_var 0))))))))⟩
abbrev s_is_number : Stmt := topS 2
abbrev N_is_number : List Str := ["value"]
theorem sc_is_number : FnScope N_is_number ["value"] (defScope s_is_number) := ⟨rfl, rfl, rfl, by decide +kernel, rfl, by decide +kernel, by decide +kernel⟩
theorem ok_is_number (F : DefAt K mg "is_number" s_is_number) (C_is_integer : Cal P w K mg base 1 "is_integer" ["value"] S_is_integer) : Cal P w K mg base 2 "is_number" ["value"] S_is_number := by
  obtain ⟨f_is_integer, d_is_integer, c_is_integer⟩ := C_is_integer
  have sc := sc_is_number
  refine fn_pure (N := N_is_number) (T := T_is_number) [] F sc l_is_number (by decide) (fun _ _ _ _ _ _ us hl => match us, hl with | [_], _ => rfl) (fun f cd A outer s H G0 H0 E hr => ?_) m_is_number
  exact ⟨_, (pus_one (pus_ret (pu_and (pu_callO (by rfl) c_is_integer.F (hr.mono (by decide)) (by rfl) c_is_integer.at_ c_is_integer.kp c_is_integer.b (pu_cons (pu_var 0) pu_nil)) (pu_one (pu_cmp op_ge ops_ge (PuE.g (pu_var 0)) (PuE.g pu_int) (nomark _))))))⟩
abbrev s_is_tuple : Stmt := topS 3
abbrev N_is_tuple : List Str := ["value", "many"]
theorem sc_is_tuple : FnScope N_is_tuple ["value", "many"] (defScope s_is_tuple) := ⟨rfl, rfl, rfl, by decide +kernel, rfl, by decide +kernel, by decide +kernel⟩
theorem ok_is_tuple (F : DefAt K mg "is_tuple" s_is_tuple) (m_isinstance : mg "isinstance" = none) (m_tuple : mg "tuple" = none) (m_len : mg "len" = none) : Cal P w K mg base 1 "is_tuple" ["value", "many"] S_is_tuple := by
  have sc := sc_is_tuple
  refine fn_pure (N := N_is_tuple) (T := T_is_tuple) [] F sc l_is_tuple (by decide) (fun _ _ _ _ _ _ us hl => match us, hl with | [_, _], _ => rfl) (fun f cd A outer s H G0 H0 E hr => ?_) m_is_tuple
  exact ⟨_, (pus_one (pus_ret (pu_and (pu_isiO (by rfl) (by rfl) m_isinstance (by rfl) m_tuple boot_tuple (by decide) (PuE.g (pu_var 0))) (pu_one (pu_eqO (by rfl) hr.units (PuE.g (pu_lenO (by rfl) (by rfl) m_len (PuE.g (pu_var 0)))) (PuE.g (pu_var 1)))))))⟩
abbrev s_common_divisor : Stmt := topS 5
abbrev N_common_divisor : List Str := ["one", "other"]
theorem sc_common_divisor : FnScope N_common_divisor ["one", "other"] (defScope s_common_divisor) := ⟨rfl, rfl, rfl, by decide +kernel, rfl, by decide +kernel, by decide +kernel⟩
theorem ok_common_divisor (F : DefAt K mg "common_divisor" s_common_divisor) (m_abs : mg "abs" = none) : Cal P w K mg base 1 "common_divisor" ["one", "other"] S_common_divisor := by
  have sc := sc_common_divisor
  refine fn_pure (N := N_common_divisor) (T := T_common_divisor) [] F sc l_common_divisor (by decide) (fun _ _ _ _ _ _ us hl => match us, hl with | [_, _], _ => rfl) (fun f cd A outer s H G0 H0 E hr => ?_) m_common_divisor
  exact ⟨_, (pus_cons (pus_par 0 1 (pu_absO (by rfl) m_abs (PuE.g (pu_var 0))) (pu_absO (by rfl) m_abs (PuE.g (pu_var 1))) (by rfl) sc.nd (by rfl) (by rfl) (by rfl) (by rfl) offN offN (by rfl))
  (pus_cons (pus_while PassesOwn.never (put_neO (by rfl) hr.units (PuE.g (pu_var 1)) (PuE.g pu_int))
   (pus_one (pus_par 0 1 (pu_var 1) (pu_op op_modN ops_mod (PuE.g (pu_var 0)) (PuE.g (pu_var 1))) (by rfl) sc.nd (by rfl) (by rfl) (by rfl) (by rfl) offN offN (by rfl))))
  (pus_one (pus_ret (pu_var 0)))))⟩
abbrev s_is_fraction : Stmt := topS 6
abbrev N_is_fraction : List Str := ["value"]
theorem sc_is_fraction : FnScope N_is_fraction ["value"] (defScope s_is_fraction) := ⟨rfl, rfl, rfl, by decide +kernel, rfl, by decide +kernel, by decide +kernel⟩
theorem ok_is_fraction (F : DefAt K mg "is_fraction" s_is_fraction) (C_is_tuple : Cal P w K mg base 1 "is_tuple" ["value", "many"] S_is_tuple) (C_is_integer : Cal P w K mg base 1 "is_integer" ["value"] S_is_integer) (C_common_divisor : Cal P w K mg base 1 "common_divisor" ["one", "other"] S_common_divisor) : Cal P w K mg base 2 "is_fraction" ["value"] S_is_fraction := by
  obtain ⟨f_is_tuple, d_is_tuple, c_is_tuple⟩ := C_is_tuple
  obtain ⟨f_is_integer, d_is_integer, c_is_integer⟩ := C_is_integer
  obtain ⟨f_common_divisor, d_common_divisor, c_common_divisor⟩ := C_common_divisor
  have sc := sc_is_fraction
  refine fn_pure (N := N_is_fraction) (T := T_is_fraction) [] F sc l_is_fraction (by decide) (fun _ _ _ _ _ _ us hl => match us, hl with | [_], _ => rfl) (fun f cd A outer s H G0 H0 E hr => ?_) m_is_fraction
  exact ⟨_, (pus_cons (pus_if (PuW.pt (puw_or (put_not (put_val (pu_callO (by rfl) c_is_tuple.F (hr.mono (by decide)) (by rfl) c_is_tuple.at_ c_is_tuple.kp c_is_tuple.b (pu_cons (pu_var 0) (pu_cons pu_int pu_nil))))) (puw_or (put_not (put_val (pu_callO (by rfl) c_is_integer.F (hr.mono (by decide)) (by rfl) c_is_integer.at_ c_is_integer.kp c_is_integer.b (pu_cons (pu_ixO (by rfl) (PuE.g (pu_var 0)) (PuE.g pu_int)) pu_nil)))) (puw_or1 (put_not (put_val (pu_callO (by rfl) c_is_integer.F (hr.mono (by decide)) (by rfl) c_is_integer.at_ c_is_integer.kp c_is_integer.b (pu_cons (pu_ixO (by rfl) (PuE.g (pu_var 0)) (PuE.g pu_int)) pu_nil))))))))
   (pus_one (pus_ret pu_bl))
   pus_nil)
  (pus_one (pus_ret (pu_and (pu_cmp op_ge ops_ge (PuE.g (pu_ixO (by rfl) (PuE.g (pu_var 0)) (PuE.g pu_int))) (PuE.g pu_int) (nomark _)) (pu_one (pu_eqO (by rfl) hr.units (PuE.g (pu_callO (by rfl) c_common_divisor.F (hr.mono (by decide)) (by rfl) c_common_divisor.at_ c_common_divisor.kp c_common_divisor.b (pu_cons (pu_ixO (by rfl) (PuE.g (pu_var 0)) (PuE.g pu_int)) (pu_cons (pu_ixO (by rfl) (PuE.g (pu_var 0)) (PuE.g pu_int)) pu_nil)))) (PuE.g pu_int)))))))⟩
abbrev s_is_number_of : Stmt := topS 7
abbrev N_is_number_of : List Str := ["field", "value"]
theorem sc_is_number_of : FnScope N_is_number_of ["field", "value"] (defScope s_is_number_of) := ⟨rfl, rfl, rfl, by decide +kernel, rfl, by decide +kernel, by decide +kernel⟩
theorem ok_is_number_of (F : DefAt K mg "is_number_of" s_is_number_of) (C_is_fraction : Cal P w K mg base 2 "is_fraction" ["value"] S_is_fraction) (C_is_number : Cal P w K mg base 2 "is_number" ["value"] S_is_number) : Cal P w K mg base 3 "is_number_of" ["field", "value"] S_is_number_of := by
  obtain ⟨f_is_fraction, d_is_fraction, c_is_fraction⟩ := C_is_fraction
  obtain ⟨f_is_number, d_is_number, c_is_number⟩ := C_is_number
  have sc := sc_is_number_of
  refine fn_pure (N := N_is_number_of) (T := T_is_number_of) [] F sc l_is_number_of (by decide) (fun _ _ _ _ _ _ us hl => match us, hl with | [_, _], _ => rfl) (fun f cd A outer s H G0 H0 E hr => ?_) m_is_number_of
  exact ⟨_, (pus_cons (pus_if (put_eqO (by rfl) hr.units (PuE.g (pu_var 0)) (PuE.g pu_int))
   (pus_one (pus_ret (pu_callO (by rfl) c_is_fraction.F (hr.mono (by decide)) (by rfl) c_is_fraction.at_ c_is_fraction.kp c_is_fraction.b (pu_cons (pu_var 1) pu_nil))))
   pus_nil)
  (pus_one (pus_ret (pu_and (pu_callO (by rfl) c_is_number.F (hr.mono (by decide)) (by rfl) c_is_number.at_ c_is_number.kp c_is_number.b (pu_cons (pu_var 1) pu_nil)) (pu_one (pu_cmp op_lt ops_lt (PuE.g (pu_var 1)) (PuE.g (pu_var 0)) (nomark _)))))))⟩
abbrev s_one_of : Stmt := topS 8
abbrev N_one_of : List Str := ["field"]
theorem sc_one_of : FnScope N_one_of ["field"] (defScope s_one_of) := ⟨rfl, rfl, rfl, by decide +kernel, rfl, by decide +kernel, by decide +kernel⟩
theorem ok_one_of (F : DefAt K mg "one_of" s_one_of)  : Cal P w K mg base 1 "one_of" ["field"] S_one_of := by
  have sc := sc_one_of
  refine fn_pure (N := N_one_of) (T := T_one_of) [] F sc l_one_of (by decide) (fun _ _ _ _ _ _ us hl => match us, hl with | [_], _ => rfl) (fun f cd A outer s H G0 H0 E hr => ?_) m_one_of
  exact ⟨_, (pus_one (pus_ret (pu_ifExp (put_eqO (by rfl) hr.units (PuE.g (pu_var 0)) (PuE.g pu_int)) (pu_tup (pu_cons pu_int (pu_cons pu_int pu_nil))) pu_int)))⟩
abbrev s_is_zero : Stmt := topS 9
abbrev N_is_zero : List Str := ["field", "number"]
theorem sc_is_zero : FnScope N_is_zero ["field", "number"] (defScope s_is_zero) := ⟨rfl, rfl, rfl, by decide +kernel, rfl, by decide +kernel, by decide +kernel⟩
theorem ok_is_zero (F : DefAt K mg "is_zero" s_is_zero)  : Cal P w K mg base 1 "is_zero" ["field", "number"] S_is_zero := by
  have sc := sc_is_zero
  refine fn_pure (N := N_is_zero) (T := T_is_zero) [] F sc l_is_zero (by decide) (fun _ _ _ _ _ _ us hl => match us, hl with | [_, _], _ => rfl) (fun f cd A outer s H G0 H0 E hr => ?_) m_is_zero
  exact ⟨_, (pus_one (pus_ret (pu_ifExp (put_eqO (by rfl) hr.units (PuE.g (pu_var 0)) (PuE.g pu_int)) (pu_eqO (by rfl) hr.units (PuE.g (pu_ixO (by rfl) (PuE.g (pu_var 1)) (PuE.g pu_int))) (PuE.g pu_int)) (pu_eqO (by rfl) hr.units (PuE.g (pu_var 1)) (PuE.g pu_int)))))⟩
abbrev s_head_of : Stmt := topS 11
abbrev N_head_of : List Str := ["field", "row", "at", "number"]
theorem sc_head_of : FnScope N_head_of ["field", "row"] (defScope s_head_of) := ⟨rfl, rfl, rfl, by decide +kernel, rfl, by decide +kernel, by decide +kernel⟩
theorem ok_head_of (F : DefAt K mg "head_of" s_head_of) (C_is_zero : Cal P w K mg base 1 "is_zero" ["field", "number"] S_is_zero) (m_enumerate : mg "enumerate" = none) : Cal P w K mg base 2 "head_of" ["field", "row"] S_head_of := by
  obtain ⟨f_is_zero, d_is_zero, c_is_zero⟩ := C_is_zero
  have sc := sc_head_of
  refine fn_pure (N := N_head_of) (T := T_head_of) [] F sc l_head_of (by decide) (fun _ _ _ _ _ _ us hl => match us, hl with | [_, _], _ => rfl) (fun f cd A outer s H G0 H0 E hr => ?_) m_head_of
  exact ⟨_, (pus_cons (pus_for PassesOwn.never (by rfl) (pui_enumO (by rfl) (by rfl) m_enumerate (pu_var 1)) (pug_tupO (by rfl) (by rfl) (pugs_cons (pug_name 2 sc.nd (by rfl) (by first | exact .inl rfl | exact .inr rfl) (by exact notIn_of rfl) offN) (pugs_cons (pug_name 3 sc.nd (by rfl) (by first | exact .inl rfl | exact .inr rfl) (by exact notIn_of rfl) offN) pugs_nil)) (len_cons' (len_cons' len_nil')))
   (pus_one (pus_if (put_not (put_val (pu_callO (by rfl) c_is_zero.F (hr.mono (by decide)) (by rfl) c_is_zero.at_ c_is_zero.kp c_is_zero.b (pu_cons (pu_var 0) (pu_cons (pu_var 3) pu_nil)))))
   (pus_one (pus_ret (pu_var 2)))
   pus_nil)))
  (pus_one (pus_ret (pu_neg (PuE.g pu_int)))))⟩
abbrev s_is_row_of : Stmt := topS 13
abbrev N_is_row_of : List Str := ["field", "size", "value", "number"]
theorem sc_is_row_of : FnScope N_is_row_of ["field", "size", "value"] (defScope s_is_row_of) := ⟨rfl, rfl, rfl, by decide +kernel, rfl, by decide +kernel, by decide +kernel⟩
theorem ok_is_row_of (F : DefAt K mg "is_row_of" s_is_row_of) (C_is_tuple : Cal P w K mg base 1 "is_tuple" ["value", "many"] S_is_tuple) (C_is_number_of : Cal P w K mg base 3 "is_number_of" ["field", "value"] S_is_number_of) : Cal P w K mg base 4 "is_row_of" ["field", "size", "value"] S_is_row_of := by
  obtain ⟨f_is_tuple, d_is_tuple, c_is_tuple⟩ := C_is_tuple
  obtain ⟨f_is_number_of, d_is_number_of, c_is_number_of⟩ := C_is_number_of
  have sc := sc_is_row_of
  refine fn_pure (N := N_is_row_of) (T := T_is_row_of) [] F sc l_is_row_of (by decide) (fun _ _ _ _ _ _ us hl => match us, hl with | [_, _, _], _ => rfl) (fun f cd A outer s H G0 H0 E hr => ?_) m_is_row_of
  exact ⟨_, (pus_one (pus_ret (pu_and (pu_callO (by rfl) c_is_tuple.F (hr.mono (by decide)) (by rfl) c_is_tuple.at_ c_is_tuple.kp c_is_tuple.b (pu_cons (pu_var 2) (pu_cons (pu_var 1) pu_nil))) (pu_one (pu_eqO (by rfl) hr.units (PuF.g (pu_lc (own := [("number", 3)]) (by rfl) sc.nd (pui_seqO (by rfl) (pu_var 2)) (blkN (N := N_is_row_of) (sc := defScope s_is_row_of) (by rfl) (by decide +kernel) (by decide +kernel) (by decide +kernel) (by decide +kernel)) (fun _ _ _ _ _ => by exact (pug_name 3 sc.nd (by rfl) (by first | exact .inl rfl | exact .inr rfl) (by exact notIn_of rfl) offN)) (fun _ _ _ _ _ => by exact (puts_one (put_not (put_val (pu_callO (by rfl) c_is_number_of.F (hr.mono (by decide)) (by rfl) c_is_number_of.at_ c_is_number_of.kp c_is_number_of.b (pu_cons (pu_var 0) (pu_cons (pu_var 3) pu_nil))))))) (fun _ _ _ _ _ => by exact (pu_var 3)) (by decide) offNs)) (PuF.g (pu_lst pu_nil)))))))⟩
abbrev s_are_heads_right : Stmt := topS 14
abbrev N_are_heads_right : List Str := ["field", "room", "heads", "at", "row", "other"]
theorem sc_are_heads_right : FnScope N_are_heads_right ["field", "room", "heads"] (defScope s_are_heads_right) := ⟨rfl, rfl, rfl, by decide +kernel, rfl, by decide +kernel, by decide +kernel⟩
theorem ok_are_heads_right (F : DefAt K mg "are_heads_right" s_are_heads_right) (C_one_of : Cal P w K mg base 1 "one_of" ["field"] S_one_of) (C_is_zero : Cal P w K mg base 1 "is_zero" ["field", "number"] S_is_zero) (m_enumerate : mg "enumerate" = none) (m_range : mg "range" = none) (m_len : mg "len" = none) : Cal P w K mg base 2 "are_heads_right" ["field", "room", "heads"] S_are_heads_right := by
  obtain ⟨f_one_of, d_one_of, c_one_of⟩ := C_one_of
  obtain ⟨f_is_zero, d_is_zero, c_is_zero⟩ := C_is_zero
  have sc := sc_are_heads_right
  refine fn_pure (N := N_are_heads_right) (T := T_are_heads_right) [] F sc l_are_heads_right (by decide) (fun _ _ _ _ _ _ us hl => match us, hl with | [_, _, _], _ => rfl) (fun f cd A outer s H G0 H0 E hr => ?_) m_are_heads_right
  exact ⟨_, (pus_cons (pus_if (put_neO (by rfl) hr.units (PuF.g (pu_lc (own := [("at", 3)]) (by rfl) sc.nd (pui_range1 (by rfl) m_range (pu_op op_sub ops_sub (PuE.g (pu_lenO (by rfl) (by rfl) m_len (PuE.g (pu_var 2)))) (PuE.g pu_int))) (blkN (N := N_are_heads_right) (sc := defScope s_are_heads_right) (by rfl) (by decide +kernel) (by decide +kernel) (by decide +kernel) (by decide +kernel)) (fun _ _ _ _ _ => by exact (pug_name 3 sc.nd (by rfl) (by first | exact .inl rfl | exact .inr rfl) (by exact notIn_of rfl) offN)) (fun _ _ _ _ _ => by exact (puts_one (put_cmp op_ge ops_ge (PuE.g (pu_ixO (by rfl) (PuE.g (pu_var 2)) (PuE.g (pu_var 3)))) (PuE.g (pu_ixO (by rfl) (PuE.g (pu_var 2)) (PuE.g (pu_addO (by rfl) (PuE.g (pu_var 3)) (PuE.g pu_int))))) (nomark _)))) (fun _ _ _ _ _ => by exact pu_int) (by decide) offNs)) (PuF.g (pu_lst pu_nil)))
   (pus_one (pus_ret pu_bl))
   pus_nil)
  (pus_cons (pus_for PassesOwn.never (by rfl) (pui_enumO (by rfl) (by rfl) m_enumerate (pu_var 1)) (pug_tupO (by rfl) (by rfl) (pugs_cons (pug_name 3 sc.nd (by rfl) (by first | exact .inl rfl | exact .inr rfl) (by exact notIn_of rfl) offN) (pugs_cons (pug_name 4 sc.nd (by rfl) (by first | exact .inl rfl | exact .inr rfl) (by exact notIn_of rfl) offN) pugs_nil)) (len_cons' (len_cons' len_nil')))
   (pus_cons (pus_if (put_neO (by rfl) hr.units (PuE.g (pu_ixO (by rfl) (PuE.g (pu_var 4)) (PuE.g (pu_ixO (by rfl) (PuE.g (pu_var 2)) (PuE.g (pu_var 3)))))) (PuE.g (pu_callO (by rfl) c_one_of.F (hr.mono (by decide)) (by rfl) c_one_of.at_ c_one_of.kp c_one_of.b (pu_cons (pu_var 0) pu_nil))))
   (pus_one (pus_ret pu_bl))
   pus_nil)
  (pus_one (pus_if (put_neO (by rfl) hr.units (PuF.g (pu_lc (own := [("other", 5)]) (by rfl) sc.nd (pui_seqO (by rfl) (pu_addO (by rfl) (PuE.g (pu_sliceO (by rfl) (PuE.g (pu_var 1)) puo_none (puo_some (pu_var 3)))) (PuE.g (pu_sliceO (by rfl) (PuE.g (pu_var 1)) (puo_some (pu_addO (by rfl) (PuE.g (pu_var 3)) (PuE.g pu_int))) puo_none)))) (blkN (N := N_are_heads_right) (sc := defScope s_are_heads_right) (by rfl) (by decide +kernel) (by decide +kernel) (by decide +kernel) (by decide +kernel)) (fun _ _ _ _ _ => by exact (pug_name 5 sc.nd (by rfl) (by first | exact .inl rfl | exact .inr rfl) (by exact notIn_of rfl) offN)) (fun _ _ _ _ _ => by exact (puts_one (put_not (put_val (pu_callO (by rfl) c_is_zero.F (hr.mono (by decide)) (by rfl) c_is_zero.at_ c_is_zero.kp c_is_zero.b (pu_cons (pu_var 0) (pu_cons (pu_ixO (by rfl) (PuE.g (pu_var 5)) (PuE.g (pu_ixO (by rfl) (PuE.g (pu_var 2)) (PuE.g (pu_var 3))))) pu_nil))))))) (fun _ _ _ _ _ => by exact pu_int) (by decide) offNs)) (PuF.g (pu_lst pu_nil)))
   (pus_one (pus_ret pu_bl))
   pus_nil))))
  (pus_one (pus_ret pu_bl))))⟩
abbrev s_is_room : Stmt := topS 15
abbrev N_is_room : List Str := ["field", "size", "value", "row", "heads", "head"]
theorem sc_is_room : FnScope N_is_room ["field", "size", "value"] (defScope s_is_room) := ⟨rfl, rfl, rfl, by decide +kernel, rfl, by decide +kernel, by decide +kernel⟩
theorem ok_is_room (F : DefAt K mg "is_room" s_is_room) (C_head_of : Cal P w K mg base 2 "head_of" ["field", "row"] S_head_of) (C_are_heads_right : Cal P w K mg base 2 "are_heads_right" ["field", "room", "heads"] S_are_heads_right) (C_is_row_of : Cal P w K mg base 4 "is_row_of" ["field", "size", "value"] S_is_row_of) (m_isinstance : mg "isinstance" = none) (m_tuple : mg "tuple" = none) : Cal P w K mg base 5 "is_room" ["field", "size", "value"] S_is_room := by
  obtain ⟨f_head_of, d_head_of, c_head_of⟩ := C_head_of
  obtain ⟨f_are_heads_right, d_are_heads_right, c_are_heads_right⟩ := C_are_heads_right
  obtain ⟨f_is_row_of, d_is_row_of, c_is_row_of⟩ := C_is_row_of
  have sc := sc_is_room
  refine fn_pure (N := N_is_room) (T := T_is_room) [] F sc l_is_room (by decide) (fun _ _ _ _ _ _ us hl => match us, hl with | [_, _, _], _ => rfl) (fun f cd A outer s H G0 H0 E hr => ?_) m_is_room
  exact ⟨_, (pus_cons (pus_if (PuW.pt (puw_or (put_not (put_val (pu_isiO (by rfl) (by rfl) m_isinstance (by rfl) m_tuple boot_tuple (by decide) (PuE.g (pu_var 2))))) (puw_or1 (put_neO (by rfl) hr.units (PuF.g (pu_lc (own := [("row", 3)]) (by rfl) sc.nd (pui_seqO (by rfl) (pu_var 2)) (blkN (N := N_is_room) (sc := defScope s_is_room) (by rfl) (by decide +kernel) (by decide +kernel) (by decide +kernel) (by decide +kernel)) (fun _ _ _ _ _ => by exact (pug_name 3 sc.nd (by rfl) (by first | exact .inl rfl | exact .inr rfl) (by exact notIn_of rfl) offN)) (fun _ _ _ _ _ => by exact (puts_one (put_not (put_val (pu_callO (by rfl) c_is_row_of.F (hr.mono (by decide)) (by rfl) c_is_row_of.at_ c_is_row_of.kp c_is_row_of.b (pu_cons (pu_var 0) (pu_cons (pu_var 1) (pu_cons (pu_var 3) pu_nil)))))))) (fun _ _ _ _ _ => by exact (pu_var 3)) (by decide) offNs)) (PuF.g (pu_lst pu_nil))))))
   (pus_one (pus_ret pu_bl))
   pus_nil)
  (pus_cons (pus_setLc 4 (own := [("row", 3)]) (by rfl) sc.nd (by rfl) (by rfl) offN (sw_true (by rfl) (by rfl) (by rfl) (by decide +kernel)) (pui_seqO (by rfl) (pu_var 2)) (blkN (N := N_is_room) (sc := defScope s_is_room) (by rfl) (by decide +kernel) (by decide +kernel) (by decide +kernel) (by decide +kernel)) (fun _ _ _ _ _ => by exact (pug_name 3 sc.nd (by rfl) (by first | exact .inl rfl | exact .inr rfl) (by exact notIn_of rfl) offN)) (fun _ _ _ _ _ => by exact puts_nil) (fun _ _ _ _ _ => by exact (pu_callO (by rfl) c_head_of.F (hr.mono (by decide)) (by rfl) c_head_of.at_ c_head_of.kp c_head_of.b (pu_cons (pu_var 0) (pu_cons (pu_var 3) pu_nil)))) (by decide) offNs)
  (pus_one (pus_ret (pu_and (pu_eqO (by rfl) hr.units (PuF.g (pu_lc (own := [("head", 5)]) (by rfl) sc.nd (pui_seqO (by rfl) (pu_var 4)) (blkN (N := N_is_room) (sc := defScope s_is_room) (by rfl) (by decide +kernel) (by decide +kernel) (by decide +kernel) (by decide +kernel)) (fun _ _ _ _ _ => by exact (pug_name 5 sc.nd (by rfl) (by first | exact .inl rfl | exact .inr rfl) (by exact notIn_of rfl) offN)) (fun _ _ _ _ _ => by exact (puts_one (put_cmp op_lt ops_lt (PuE.g (pu_var 5)) (PuE.g pu_int) (nomark _)))) (fun _ _ _ _ _ => by exact pu_int) (by decide) offNs)) (PuF.g (pu_lst pu_nil))) (pu_one (pu_callO (by rfl) c_are_heads_right.F (hr.mono (by decide)) (by rfl) c_are_heads_right.at_ c_are_heads_right.kp c_are_heads_right.b (pu_cons (pu_var 0) (pu_cons (pu_var 2) (pu_cons (pu_var 4) pu_nil))))))))))⟩
abbrev s_is_false : Stmt := topS 18
abbrev N_is_false : List Str := ["room"]
theorem sc_is_false : FnScope N_is_false ["room"] (defScope s_is_false) := ⟨rfl, rfl, rfl, by decide +kernel, rfl, by decide +kernel, by decide +kernel⟩
theorem ok_is_false (F : DefAt K mg "is_false" s_is_false) (C_head_of : Cal P w K mg base 2 "head_of" ["field", "row"] S_head_of) (m_len : mg "len" = none) (G_FIELD : GlI mg "FIELD" 0) : Cal P w K mg base 3 "is_false" ["room"] S_is_false := by
  obtain ⟨f_head_of, d_head_of, c_head_of⟩ := C_head_of
  obtain ⟨u_FIELD, g_FIELD, rfl_FIELD⟩ := G_FIELD
  have sc := sc_is_false
  refine fn_pure (N := N_is_false) (T := T_is_false) [] F sc l_is_false (by decide) (fun _ _ _ _ _ _ us hl => match us, hl with | [_], _ => rfl) (fun f cd A outer s H G0 H0 E hr => ?_) m_is_false
  exact ⟨_, (pus_one (pus_ret (pu_and (pu_neO (by rfl) hr.units (PuE.g (pu_var 0)) (PuE.g (pu_tup pu_nil))) (pu_one (pu_eqO (by rfl) hr.units (PuE.g (pu_callO (by rfl) c_head_of.F (hr.mono (by decide)) (by rfl) c_head_of.at_ c_head_of.kp c_head_of.b (pu_cons (pu_globI (by rfl) g_FIELD rfl_FIELD) (pu_cons (pu_ixO (by rfl) (PuE.g (pu_var 0)) (PuE.g (pu_neg (PuE.g pu_int)))) pu_nil)))) (PuE.g (pu_op op_sub ops_sub (PuE.g (pu_lenO (by rfl) (by rfl) m_len (PuE.g (pu_ixO (by rfl) (PuE.g (pu_var 0)) (PuE.g (pu_neg (PuE.g pu_int))))))) (PuE.g pu_int))))))))⟩
abbrev s_is_flat : Stmt := topS 19
abbrev N_is_flat : List Str := ["size", "value"]
theorem sc_is_flat : FnScope N_is_flat ["size", "value"] (defScope s_is_flat) := ⟨rfl, rfl, rfl, by decide +kernel, rfl, by decide +kernel, by decide +kernel⟩
theorem ok_is_flat (F : DefAt K mg "is_flat" s_is_flat) (C_is_room : Cal P w K mg base 5 "is_room" ["field", "size", "value"] S_is_room) (C_is_false : Cal P w K mg base 3 "is_false" ["room"] S_is_false) (G_FIELD : GlI mg "FIELD" 0) : ∃ f fd, CalI P w K mg base 6 "is_flat" ["size", "value"] (spW K S_is_flat) f fd ∧ FunD K "is_flat" "is_flat" (defArgs s_is_flat) (defBody s_is_flat) (defScope s_is_flat) [] [] f fd := by
  obtain ⟨f_is_room, d_is_room, c_is_room⟩ := C_is_room
  obtain ⟨f_is_false, d_is_false, c_is_false⟩ := C_is_false
  obtain ⟨u_FIELD, g_FIELD, rfl_FIELD⟩ := G_FIELD
  have sc := sc_is_flat
  refine fn_pureF (N := N_is_flat) (T := T_is_flat) [] F sc l_is_flat (by decide) (fun _ _ _ _ _ _ us hl => match us, hl with | [_, _], _ => rfl) (fun f cd A outer s H G0 H0 E hr => ?_) m_is_flat
  exact ⟨_, (pus_one (pus_ret (pu_and (pu_callO (by rfl) c_is_room.F (hr.mono (by decide)) (by rfl) c_is_room.at_ c_is_room.kp c_is_room.b (pu_cons (pu_globI (by rfl) g_FIELD rfl_FIELD) (pu_cons (pu_addO (by rfl) (PuE.g (pu_var 0)) (PuE.g pu_int)) (pu_cons (pu_var 1) pu_nil)))) (pu_one (pu_not (pu_callO (by rfl) c_is_false.F (hr.mono (by decide)) (by rfl) c_is_false.at_ c_is_false.kp c_is_false.b (pu_cons (pu_var 1) pu_nil)))))))⟩
abbrev s__law_of : Stmt := topS 23
abbrev N__law_of : List Str := ["deal", "some"]
theorem sc__law_of : FnScope N__law_of ["deal", "some"] (defScope s__law_of) := ⟨rfl, rfl, rfl, by decide +kernel, rfl, by decide +kernel, by decide +kernel⟩
theorem ok__law_of (F : DefAt K mg "_law_of" s__law_of) (C__law_any : CalD P w K mg base 1 "_law_any" ["deal", "bound"] S__law_any) (m_len : mg "len" = none) : CalD P w K mg base 2 "_law_of" ["deal", "some"] S__law_of := by
  obtain ⟨f__law_any, d__law_any, c__law_any⟩ := C__law_any
  have sc := sc__law_of
  refine fn_deal (N := N__law_of) (T := T__law_of) [] F sc l__law_of (by decide) (fun _ _ _ _ _ _ us hl => match us, hl with | [_, _], _ => rfl) (fun f cd A outer s H G0 H0 E a c hr => ?_) m__law_of
  exact ⟨_, (pus_one (pus_ret (pu_ixO (by rfl) (PuE.g (pu_var 1)) (PuE.g (pu_callDO (by rfl) (by rfl) c__law_any.F (hr.mono (by decide)) (by rfl) c__law_any.at_ c__law_any.kp c__law_any.b (by rfl) (pu_cons (pu_lenO (by rfl) (by rfl) m_len (PuE.g (pu_var 1))) pu_nil))))))⟩
abbrev s__law_is_kind : Stmt := topS 24
abbrev N__law_is_kind : List Str := ["told", "due"]
theorem sc__law_is_kind : FnScope N__law_is_kind ["told", "due"] (defScope s__law_is_kind) := ⟨rfl, rfl, rfl, by decide +kernel, rfl, by decide +kernel, by decide +kernel⟩
theorem ok__law_is_kind (F : DefAt K mg "_law_is_kind" s__law_is_kind) (m_isinstance : mg "isinstance" = none) (m_str : mg "str" = none) (m_int : mg "int" = none) (m_bool : mg "bool" = none) : Cal P w K mg base 1 "_law_is_kind" ["told", "due"] S__law_is_kind := by
  have sc := sc__law_is_kind
  refine fn_pure (N := N__law_is_kind) (T := T__law_is_kind) [] F sc l__law_is_kind (by decide) (fun _ _ _ _ _ _ us hl => match us, hl with | [_, _], _ => rfl) (fun f cd A outer s H G0 H0 E hr => ?_) m__law_is_kind
  exact ⟨_, (pus_cons (pus_if (put_cmp op_isX ops_is (PuE.g (pu_var 1)) (PuE.g pu_non) (nomark _))
   (pus_one (pus_ret (pu_cmp op_isX ops_is (PuE.g (pu_var 0)) (PuE.g pu_non) (nomark _))))
   pus_nil)
  (pus_cons (pus_if (PuW.pt (puw_or (put_cmp op_isX ops_is (PuE.g (pu_var 1)) (PuE.g pu_bl) (nomark _)) (puw_or1 (put_cmp op_isX ops_is (PuE.g (pu_var 1)) (PuE.g pu_bl) (nomark _)))))
   (pus_one (pus_ret (pu_ifExp (put_val (pu_var 1)) (pu_cmp op_isX ops_is (PuE.g (pu_var 0)) (PuE.g pu_bl) (nomark _)) (pu_cmp op_isX ops_is (PuE.g (pu_var 0)) (PuE.g pu_bl) (nomark _)))))
   pus_nil)
  (pus_cons (pus_if (put_val (pu_isiO (by rfl) (by rfl) m_isinstance (by rfl) m_str boot_str (by decide) (PuE.g (pu_var 1))))
   (pus_one (pus_ret (pu_and (pu_isiO (by rfl) (by rfl) m_isinstance (by rfl) m_str boot_str (by decide) (PuE.g (pu_var 0))) (pu_one (pu_eqO (by rfl) hr.units (PuE.g (pu_var 0)) (PuE.g (pu_var 1)))))))
   pus_nil)
  (pus_one (pus_ret (pu_and (pu_isiO (by rfl) (by rfl) m_isinstance (by rfl) m_int boot_int (by decide) (PuE.g (pu_var 0))) (pu_and (pu_not (pu_isiO (by rfl) (by rfl) m_isinstance (by rfl) m_bool boot_bool (by decide) (PuE.g (pu_var 0)))) (pu_one (pu_eqO (by rfl) hr.units (PuE.g (pu_var 0)) (PuE.g (pu_var 1)))))))))))⟩
abbrev s__law_same : Stmt := topS 25
abbrev N__law_same : List Str := ["told", "due", "todo", "one", "other", "at"]
theorem sc__law_same : FnScope N__law_same ["told", "due"] (defScope s__law_same) := ⟨rfl, rfl, rfl, by decide +kernel, rfl, by decide +kernel, by decide +kernel⟩
theorem ok__law_same (F : DefAt K mg "_law_same" s__law_same) (C__law_is_kind : Cal P w K mg base 1 "_law_is_kind" ["told", "due"] S__law_is_kind) (m_len : mg "len" = none) (m_isinstance : mg "isinstance" = none) (m_tuple : mg "tuple" = none) (m_range : mg "range" = none) (m_list : mg "list" = none) (m_dict : mg "dict" = none) : Cal P w K mg base 2 "_law_same" ["told", "due"] S__law_same := by
  obtain ⟨f__law_is_kind, d__law_is_kind, c__law_is_kind⟩ := C__law_is_kind
  have sc := sc__law_same
  refine fn_pure (N := N__law_same) (T := T__law_same) [2] F sc l__law_same (by decide) (fun _ _ _ _ _ _ us hl => match us, hl with | [_, _], _ => rfl) (fun f cd A outer s H G0 H0 E hr => ?_) m__law_same
  exact ⟨_, (pus_cons (pus_setF 2 (pu_lst (pu_cons (pu_tup (pu_cons (pu_var 0) (pu_cons (pu_var 1) pu_nil))) pu_nil)) sc.nd (by rfl) (by first | exact .inl rfl | exact .inr rfl) offN)
  (pus_cons (pus_while PassesOwn.never (put_cmp op_gt ops_gt (PuE.g (pu_lenO (by rfl) (by rfl) m_len (pu_own 2))) (PuE.g pu_int) (nomark _))
   (pus_cons (pus_asgX (pux_popL 2) (pug_tupO (by rfl) (by rfl) (pugs_cons (pug_name 3 sc.nd (by rfl) (by first | exact .inl rfl | exact .inr rfl) (by exact notIn_of rfl) offN) (pugs_cons (pug_name 4 sc.nd (by rfl) (by first | exact .inl rfl | exact .inr rfl) (by exact notIn_of rfl) offN) pugs_nil)) (len_cons' (len_cons' len_nil'))))
  (pus_one (pus_if (put_val (pu_isiO (by rfl) (by rfl) m_isinstance (by rfl) m_tuple boot_tuple (by decide) (PuE.g (pu_var 4))))
   (pus_cons (pus_if (PuW.pt (puw_or (put_not (put_val (pu_isiO (by rfl) (by rfl) m_isinstance (by rfl) m_tuple boot_tuple (by decide) (PuE.g (pu_var 3))))) (puw_or1 (put_neO (by rfl) hr.units (PuE.g (pu_lenO (by rfl) (by rfl) m_len (PuE.g (pu_var 3)))) (PuE.g (pu_lenO (by rfl) (by rfl) m_len (PuE.g (pu_var 4))))))))
   (pus_one (pus_ret pu_bl))
   pus_nil)
  (pus_one (pus_for PassesOwn.never (by rfl) (pui_range1 (by rfl) m_range (pu_lenO (by rfl) (by rfl) m_len (PuE.g (pu_var 4)))) (pug_name 5 sc.nd (by rfl) (by first | exact .inl rfl | exact .inr rfl) (by exact notIn_of rfl) offN)
   (pus_one (pus_appendE 2 (pu_tup (pu_cons (pu_ixO (by rfl) (PuE.g (pu_var 3)) (PuE.g (pu_var 5))) (pu_cons (pu_ixO (by rfl) (PuE.g (pu_var 4)) (PuE.g (pu_var 5))) pu_nil))))))))
   (pus_one (pus_if (PuW.pt (puw_or (put_val (pu_isiTO (by rfl) (by rfl) m_isinstance (TyNs.cons (by rfl) m_tuple boot_tuple (by decide) (by decide) (by decide) (by rfl) (TyNs.cons (by rfl) m_list boot_list (by decide) (by decide) (by decide) (by rfl) (TyNs.cons (by rfl) m_dict boot_dict (by decide) (by decide) (by decide) (by rfl) TyNs.nil))) (by rw [sizeLine_eq]; decide) (PuE.g (pu_var 3)))) (puw_or1 (put_not (put_val (pu_callO (by rfl) c__law_is_kind.F (hr.mono (by decide)) (by rfl) c__law_is_kind.at_ c__law_is_kind.kp c__law_is_kind.b (pu_cons (pu_var 3) (pu_cons (pu_var 4) pu_nil))))))))
   (pus_one (pus_ret pu_bl))
   pus_nil))))))
  (pus_one (pus_ret pu_bl))))⟩
abbrev s__law_all : Stmt := topS 26
abbrev N__law_all : List Str := ["pairs", "told", "due"]
theorem sc__law_all : FnScope N__law_all ["pairs"] (defScope s__law_all) := ⟨rfl, rfl, rfl, by decide +kernel, rfl, by decide +kernel, by decide +kernel⟩
theorem ok__law_all (F : DefAt K mg "_law_all" s__law_all) (C__law_same : Cal P w K mg base 2 "_law_same" ["told", "due"] S__law_same) (m_len : mg "len" = none) : Cal P w K mg base 3 "_law_all" ["pairs"] S__law_all := by
  obtain ⟨f__law_same, d__law_same, c__law_same⟩ := C__law_same
  have sc := sc__law_all
  refine fn_pure (N := N__law_all) (T := T__law_all) [] F sc l__law_all (by decide) (fun _ _ _ _ _ _ us hl => match us, hl with | [_], _ => rfl) (fun f cd A outer s H G0 H0 E hr => ?_) m__law_all
  exact ⟨_, (pus_one (pus_ret (pu_eqO (by rfl) hr.units (PuE.g (pu_lenO (by rfl) (by rfl) m_len (PuF.g (pu_lc (own := [("told", 1), ("due", 2)]) (by rfl) sc.nd (pui_seqO (by rfl) (pu_var 0)) (blkN (N := N__law_all) (sc := defScope s__law_all) (by rfl) (by decide +kernel) (by decide +kernel) (by decide +kernel) (by decide +kernel)) (fun _ _ _ _ _ => by exact (pug_tupO (by rfl) (by rfl) (pugs_cons (pug_name 1 sc.nd (by rfl) (by first | exact .inl rfl | exact .inr rfl) (by exact notIn_of rfl) offN) (pugs_cons (pug_name 2 sc.nd (by rfl) (by first | exact .inl rfl | exact .inr rfl) (by exact notIn_of rfl) offN) pugs_nil)) (len_cons' (len_cons' len_nil')))) (fun _ _ _ _ _ => by exact (puts_one (put_not (put_val (pu_callO (by rfl) c__law_same.F (hr.mono (by decide)) (by rfl) c__law_same.at_ c__law_same.kp c__law_same.b (pu_cons (pu_var 1) (pu_cons (pu_var 2) pu_nil))))))) (fun _ _ _ _ _ => by exact (pu_var 1)) (by decide) offNs)))) (PuE.g pu_int))))⟩
abbrev s__law_divisor : Stmt := topS 27
abbrev N__law_divisor : List Str := ["one", "other"]
theorem sc__law_divisor : FnScope N__law_divisor ["one", "other"] (defScope s__law_divisor) := ⟨rfl, rfl, rfl, by decide +kernel, rfl, by decide +kernel, by decide +kernel⟩
theorem ok__law_divisor (F : DefAt K mg "_law_divisor" s__law_divisor) (m_abs : mg "abs" = none) (m_int : mg "int" = none) : Cal P w K mg base 1 "_law_divisor" ["one", "other"] S__law_divisor := by
  have sc := sc__law_divisor
  refine fn_pure (N := N__law_divisor) (T := T__law_divisor) [] F sc l__law_divisor (by decide) (fun _ _ _ _ _ _ us hl => match us, hl with | [_, _], _ => rfl) (fun f cd A outer s H G0 H0 E hr => ?_) m__law_divisor
  exact ⟨_, (pus_cons (pus_par 0 1 (pu_absO (by rfl) m_abs (PuE.g (pu_var 0))) (pu_absO (by rfl) m_abs (PuE.g (pu_var 1))) (by rfl) sc.nd (by rfl) (by rfl) (by rfl) (by rfl) offN offN (by rfl))
  (pus_cons (pus_while PassesOwn.never (put_neO (by rfl) hr.units (PuE.g (pu_var 1)) (PuE.g pu_int))
   (pus_one (pus_par 0 1 (pu_var 1) (pu_op op_modN ops_mod (PuE.g (pu_intO (by rfl) m_int (PuE.g (pu_var 0)))) (PuE.g (pu_var 1))) (by rfl) sc.nd (by rfl) (by rfl) (by rfl) (by rfl) offN offN (by rfl))))
  (pus_one (pus_ret (pu_var 0)))))⟩
abbrev s__law_fraction : Stmt := topS 28
abbrev N__law_fraction : List Str := ["top", "bottom", "both"]
theorem sc__law_fraction : FnScope N__law_fraction ["top", "bottom"] (defScope s__law_fraction) := ⟨rfl, rfl, rfl, by decide +kernel, rfl, by decide +kernel, by decide +kernel⟩
theorem ok__law_fraction (F : DefAt K mg "_law_fraction" s__law_fraction) (C__law_divisor : Cal P w K mg base 1 "_law_divisor" ["one", "other"] S__law_divisor) (m_int : mg "int" = none) : Cal P w K mg base 2 "_law_fraction" ["top", "bottom"] S__law_fraction := by
  obtain ⟨f__law_divisor, d__law_divisor, c__law_divisor⟩ := C__law_divisor
  have sc := sc__law_fraction
  refine fn_pure (N := N__law_fraction) (T := T__law_fraction) [] F sc l__law_fraction (by decide) (fun _ _ _ _ _ _ us hl => match us, hl with | [_, _], _ => rfl) (fun f cd A outer s H G0 H0 E hr => ?_) m__law_fraction
  exact ⟨_, (pus_cons (pus_set 2 (pu_callO (by rfl) c__law_divisor.F (hr.mono (by decide)) (by rfl) c__law_divisor.at_ c__law_divisor.kp c__law_divisor.b (pu_cons (pu_var 0) (pu_cons (pu_var 1) pu_nil))) sc.nd (by rfl) (by first | exact .inl rfl | exact .inr rfl) offN)
  (pus_cons (pus_set 2 (pu_ifExp (put_cmp op_lt ops_lt (PuE.g (pu_var 1)) (PuE.g pu_int) (nomark _)) (pu_op op_sub ops_sub (PuE.g pu_int) (PuE.g (pu_var 2))) (pu_var 2)) sc.nd (by rfl) (by first | exact .inl rfl | exact .inr rfl) offN)
  (pus_one (pus_ret (pu_tup (pu_cons (pu_intO (by rfl) m_int (PuE.g (pu_op op_fdivX ops_div (PuE.g (pu_var 0)) (PuE.g (pu_var 2))))) (pu_cons (pu_intO (by rfl) m_int (PuE.g (pu_op op_fdivX ops_div (PuE.g (pu_var 1)) (PuE.g (pu_var 2))))) pu_nil)))))))⟩
abbrev s__law_zero : Stmt := topS 29
abbrev N__law_zero : List Str := ["field"]
theorem sc__law_zero : FnScope N__law_zero ["field"] (defScope s__law_zero) := ⟨rfl, rfl, rfl, by decide +kernel, rfl, by decide +kernel, by decide +kernel⟩
theorem ok__law_zero (F : DefAt K mg "_law_zero" s__law_zero)  : Cal P w K mg base 1 "_law_zero" ["field"] S__law_zero := by
  have sc := sc__law_zero
  refine fn_pure (N := N__law_zero) (T := T__law_zero) [] F sc l__law_zero (by decide) (fun _ _ _ _ _ _ us hl => match us, hl with | [_], _ => rfl) (fun f cd A outer s H G0 H0 E hr => ?_) m__law_zero
  exact ⟨_, (pus_one (pus_ret (pu_ifExp (put_eqO (by rfl) hr.units (PuE.g (pu_var 0)) (PuE.g pu_int)) (pu_tup (pu_cons pu_int (pu_cons pu_int pu_nil))) pu_int)))⟩
abbrev s__law_one : Stmt := topS 30
abbrev N__law_one : List Str := ["field"]
theorem sc__law_one : FnScope N__law_one ["field"] (defScope s__law_one) := ⟨rfl, rfl, rfl, by decide +kernel, rfl, by decide +kernel, by decide +kernel⟩
theorem ok__law_one (F : DefAt K mg "_law_one" s__law_one)  : Cal P w K mg base 1 "_law_one" ["field"] S__law_one := by
  have sc := sc__law_one
  refine fn_pure (N := N__law_one) (T := T__law_one) [] F sc l__law_one (by decide) (fun _ _ _ _ _ _ us hl => match us, hl with | [_], _ => rfl) (fun f cd A outer s H G0 H0 E hr => ?_) m__law_one
  exact ⟨_, (pus_one (pus_ret (pu_ifExp (put_eqO (by rfl) hr.units (PuE.g (pu_var 0)) (PuE.g pu_int)) (pu_tup (pu_cons pu_int (pu_cons pu_int pu_nil))) pu_int)))⟩
abbrev s__law_plus : Stmt := topS 31
abbrev N__law_plus : List Str := ["field", "one", "other"]
theorem sc__law_plus : FnScope N__law_plus ["field", "one", "other"] (defScope s__law_plus) := ⟨rfl, rfl, rfl, by decide +kernel, rfl, by decide +kernel, by decide +kernel⟩
theorem ok__law_plus (F : DefAt K mg "_law_plus" s__law_plus) (C__law_fraction : Cal P w K mg base 2 "_law_fraction" ["top", "bottom"] S__law_fraction) (m_int : mg "int" = none) : Cal P w K mg base 3 "_law_plus" ["field", "one", "other"] S__law_plus := by
  obtain ⟨f__law_fraction, d__law_fraction, c__law_fraction⟩ := C__law_fraction
  have sc := sc__law_plus
  refine fn_pure (N := N__law_plus) (T := T__law_plus) [] F sc l__law_plus (by decide) (fun _ _ _ _ _ _ us hl => match us, hl with | [_, _, _], _ => rfl) (fun f cd A outer s H G0 H0 E hr => ?_) m__law_plus
  exact ⟨_, (pus_cons (pus_if (put_cmp op_gt ops_gt (PuE.g (pu_var 0)) (PuE.g pu_int) (nomark _))
   (pus_one (pus_ret (pu_op op_modN ops_mod (PuE.g (pu_intO (by rfl) m_int (PuE.g (pu_addO (by rfl) (PuE.g (pu_var 1)) (PuE.g (pu_var 2)))))) (PuE.g (pu_var 0)))))
   pus_nil)
  (pus_one (pus_ret (pu_callO (by rfl) c__law_fraction.F (hr.mono (by decide)) (by rfl) c__law_fraction.at_ c__law_fraction.kp c__law_fraction.b (pu_cons (pu_addO (by rfl) (PuE.g (pu_mulO (by rfl) (PuE.g (pu_ixO (by rfl) (PuE.g (pu_var 1)) (PuE.g pu_int))) (PuE.g (pu_ixO (by rfl) (PuE.g (pu_var 2)) (PuE.g pu_int))))) (PuE.g (pu_mulO (by rfl) (PuE.g (pu_ixO (by rfl) (PuE.g (pu_var 2)) (PuE.g pu_int))) (PuE.g (pu_ixO (by rfl) (PuE.g (pu_var 1)) (PuE.g pu_int)))))) (pu_cons (pu_mulO (by rfl) (PuE.g (pu_ixO (by rfl) (PuE.g (pu_var 1)) (PuE.g pu_int))) (PuE.g (pu_ixO (by rfl) (PuE.g (pu_var 2)) (PuE.g pu_int)))) pu_nil))))))⟩
abbrev s__law_less : Stmt := topS 32
abbrev N__law_less : List Str := ["field", "number"]
theorem sc__law_less : FnScope N__law_less ["field", "number"] (defScope s__law_less) := ⟨rfl, rfl, rfl, by decide +kernel, rfl, by decide +kernel, by decide +kernel⟩
theorem ok__law_less (F : DefAt K mg "_law_less" s__law_less) (m_int : mg "int" = none) : Cal P w K mg base 1 "_law_less" ["field", "number"] S__law_less := by
  have sc := sc__law_less
  refine fn_pure (N := N__law_less) (T := T__law_less) [] F sc l__law_less (by decide) (fun _ _ _ _ _ _ us hl => match us, hl with | [_, _], _ => rfl) (fun f cd A outer s H G0 H0 E hr => ?_) m__law_less
  exact ⟨_, (pus_one (pus_ret (pu_ifExp (put_eqO (by rfl) hr.units (PuE.g (pu_var 0)) (PuE.g pu_int)) (pu_tup (pu_cons (pu_op op_sub ops_sub (PuE.g pu_int) (PuE.g (pu_ixO (by rfl) (PuE.g (pu_var 1)) (PuE.g pu_int)))) (pu_cons (pu_ixO (by rfl) (PuE.g (pu_var 1)) (PuE.g pu_int)) pu_nil))) (pu_op op_modN ops_mod (PuE.g (pu_intO (by rfl) m_int (PuE.g (pu_op op_sub ops_sub (PuE.g pu_int) (PuE.g (pu_var 1)))))) (PuE.g (pu_var 0))))))⟩
abbrev s__law_times : Stmt := topS 33
abbrev N__law_times : List Str := ["field", "one", "other"]
theorem sc__law_times : FnScope N__law_times ["field", "one", "other"] (defScope s__law_times) := ⟨rfl, rfl, rfl, by decide +kernel, rfl, by decide +kernel, by decide +kernel⟩
theorem ok__law_times (F : DefAt K mg "_law_times" s__law_times) (C__law_fraction : Cal P w K mg base 2 "_law_fraction" ["top", "bottom"] S__law_fraction) (m_int : mg "int" = none) : Cal P w K mg base 3 "_law_times" ["field", "one", "other"] S__law_times := by
  obtain ⟨f__law_fraction, d__law_fraction, c__law_fraction⟩ := C__law_fraction
  have sc := sc__law_times
  refine fn_pure (N := N__law_times) (T := T__law_times) [] F sc l__law_times (by decide) (fun _ _ _ _ _ _ us hl => match us, hl with | [_, _, _], _ => rfl) (fun f cd A outer s H G0 H0 E hr => ?_) m__law_times
  exact ⟨_, (pus_cons (pus_if (put_cmp op_gt ops_gt (PuE.g (pu_var 0)) (PuE.g pu_int) (nomark _))
   (pus_one (pus_ret (pu_op op_modN ops_mod (PuE.g (pu_intO (by rfl) m_int (PuE.g (pu_mulO (by rfl) (PuE.g (pu_var 1)) (PuE.g (pu_var 2)))))) (PuE.g (pu_var 0)))))
   pus_nil)
  (pus_one (pus_ret (pu_callO (by rfl) c__law_fraction.F (hr.mono (by decide)) (by rfl) c__law_fraction.at_ c__law_fraction.kp c__law_fraction.b (pu_cons (pu_mulO (by rfl) (PuE.g (pu_ixO (by rfl) (PuE.g (pu_var 1)) (PuE.g pu_int))) (PuE.g (pu_ixO (by rfl) (PuE.g (pu_var 2)) (PuE.g pu_int)))) (pu_cons (pu_mulO (by rfl) (PuE.g (pu_ixO (by rfl) (PuE.g (pu_var 1)) (PuE.g pu_int))) (PuE.g (pu_ixO (by rfl) (PuE.g (pu_var 2)) (PuE.g pu_int)))) pu_nil))))))⟩
abbrev s__law_over : Stmt := topS 34
abbrev N__law_over : List Str := ["field", "number", "other"]
theorem sc__law_over : FnScope N__law_over ["field", "number"] (defScope s__law_over) := ⟨rfl, rfl, rfl, by decide +kernel, rfl, by decide +kernel, by decide +kernel⟩
theorem ok__law_over (F : DefAt K mg "_law_over" s__law_over) (C__law_fraction : Cal P w K mg base 2 "_law_fraction" ["top", "bottom"] S__law_fraction) (m_range : mg "range" = none) (m_int : mg "int" = none) : Cal P w K mg base 3 "_law_over" ["field", "number"] S__law_over := by
  obtain ⟨f__law_fraction, d__law_fraction, c__law_fraction⟩ := C__law_fraction
  have sc := sc__law_over
  refine fn_pure (N := N__law_over) (T := T__law_over) [] F sc l__law_over (by decide) (fun _ _ _ _ _ _ us hl => match us, hl with | [_, _], _ => rfl) (fun f cd A outer s H G0 H0 E hr => ?_) m__law_over
  exact ⟨_, (pus_cons (pus_if (put_eqO (by rfl) hr.units (PuE.g (pu_var 0)) (PuE.g pu_int))
   (pus_one (pus_ret (pu_callO (by rfl) c__law_fraction.F (hr.mono (by decide)) (by rfl) c__law_fraction.at_ c__law_fraction.kp c__law_fraction.b (pu_cons (pu_ixO (by rfl) (PuE.g (pu_var 1)) (PuE.g pu_int)) (pu_cons (pu_ixO (by rfl) (PuE.g (pu_var 1)) (PuE.g pu_int)) pu_nil)))))
   pus_nil)
  (pus_one (pus_ret (pu_ixO (by rfl) (PuF.g (pu_lc (own := [("other", 2)]) (by rfl) sc.nd (pui_range2 (by rfl) m_range pu_int (pu_var 0)) (blkN (N := N__law_over) (sc := defScope s__law_over) (by rfl) (by decide +kernel) (by decide +kernel) (by decide +kernel) (by decide +kernel)) (fun _ _ _ _ _ => by exact (pug_name 2 sc.nd (by rfl) (by first | exact .inl rfl | exact .inr rfl) (by exact notIn_of rfl) offN)) (fun _ _ _ _ _ => by exact (puts_one (put_eqO (by rfl) hr.units (PuE.g (pu_op op_modN ops_mod (PuE.g (pu_intO (by rfl) m_int (PuE.g (pu_mulO (by rfl) (PuE.g (pu_var 2)) (PuE.g (pu_var 1)))))) (PuE.g (pu_var 0)))) (PuE.g pu_int)))) (fun _ _ _ _ _ => by exact (pu_var 2)) (by decide) offNs)) (PuE.g pu_int)))))⟩
abbrev s__law_number : Stmt := topS 35
abbrev N__law_number : List Str := ["deal", "field", "most", "top"]
theorem sc__law_number : FnScope N__law_number ["deal", "field", "most"] (defScope s__law_number) := ⟨rfl, rfl, rfl, by decide +kernel, rfl, by decide +kernel, by decide +kernel⟩
theorem ok__law_number (F : DefAt K mg "_law_number" s__law_number) (C__law_any : CalD P w K mg base 1 "_law_any" ["deal", "bound"] S__law_any) (C__law_fraction : Cal P w K mg base 2 "_law_fraction" ["top", "bottom"] S__law_fraction) (C__law_of : CalD P w K mg base 2 "_law_of" ["deal", "some"] S__law_of) : CalD P w K mg base 3 "_law_number" ["deal", "field", "most"] S__law_number := by
  obtain ⟨f__law_any, d__law_any, c__law_any⟩ := C__law_any
  obtain ⟨f__law_fraction, d__law_fraction, c__law_fraction⟩ := C__law_fraction
  obtain ⟨f__law_of, d__law_of, c__law_of⟩ := C__law_of
  have sc := sc__law_number
  refine fn_deal (N := N__law_number) (T := T__law_number) [] F sc l__law_number (by decide) (fun _ _ _ _ _ _ us hl => match us, hl with | [_, _, _], _ => rfl) (fun f cd A outer s H G0 H0 E a c hr => ?_) m__law_number
  exact ⟨_, (pus_cons (pus_if (put_cmp op_gt ops_gt (PuE.g (pu_var 1)) (PuE.g pu_int) (nomark _))
   (pus_one (pus_ret (pu_callDO (by rfl) (by rfl) c__law_any.F (hr.mono (by decide)) (by rfl) c__law_any.at_ c__law_any.kp c__law_any.b (by rfl) (pu_cons (pu_var 1) pu_nil))))
   pus_nil)
  (pus_cons (pus_set 3 (pu_callDO (by rfl) (by rfl) c__law_any.F (hr.mono (by decide)) (by rfl) c__law_any.at_ c__law_any.kp c__law_any.b (by rfl) (pu_cons (pu_var 2) pu_nil)) sc.nd (by rfl) (by first | exact .inl rfl | exact .inr rfl) (offS (by decide)))
  (pus_one (pus_ret (pu_callO (by rfl) c__law_fraction.F (hr.mono (by decide)) (by rfl) c__law_fraction.at_ c__law_fraction.kp c__law_fraction.b (pu_cons (pu_ifExp (put_eqO (by rfl) hr.units (PuE.g (pu_callDO (by rfl) (by rfl) c__law_any.F (hr.mono (by decide)) (by rfl) c__law_any.at_ c__law_any.kp c__law_any.b (by rfl) (pu_cons pu_int pu_nil))) (PuE.g pu_int)) (pu_var 3) (pu_op op_sub ops_sub (PuE.g pu_int) (PuE.g (pu_var 3)))) (pu_cons (pu_callDO (by rfl) (by rfl) c__law_of.F (hr.mono (by decide)) (by rfl) c__law_of.at_ c__law_of.kp c__law_of.b (by rfl) (pu_cons (PuF.en (pu_lst (pu_cons pu_int (pu_cons pu_int (pu_cons pu_int (pu_cons pu_int (pu_cons pu_int (pu_cons pu_int pu_nil)))))))) pu_nil)) pu_nil)))))))⟩
abbrev s__law_row : Stmt := topS 36
abbrev N__law_row : List Str := ["deal", "field", "size", "most", "at"]
theorem sc__law_row : FnScope N__law_row ["deal", "field", "size", "most"] (defScope s__law_row) := ⟨rfl, rfl, rfl, by decide +kernel, rfl, by decide +kernel, by decide +kernel⟩
theorem ok__law_row (F : DefAt K mg "_law_row" s__law_row) (C__law_zero : Cal P w K mg base 1 "_law_zero" ["field"] S__law_zero) (C__law_number : CalD P w K mg base 3 "_law_number" ["deal", "field", "most"] S__law_number) (C__law_any : CalD P w K mg base 1 "_law_any" ["deal", "bound"] S__law_any) (m_tuple : mg "tuple" = none) (m_range : mg "range" = none) : CalD P w K mg base 4 "_law_row" ["deal", "field", "size", "most"] S__law_row := by
  obtain ⟨f__law_zero, d__law_zero, c__law_zero⟩ := C__law_zero
  obtain ⟨f__law_number, d__law_number, c__law_number⟩ := C__law_number
  obtain ⟨f__law_any, d__law_any, c__law_any⟩ := C__law_any
  have sc := sc__law_row
  refine fn_deal (N := N__law_row) (T := T__law_row) [] F sc l__law_row (by decide) (fun _ _ _ _ _ _ us hl => match us, hl with | [_, _, _, _], _ => rfl) (fun f cd A outer s H G0 H0 E a c hr => ?_) m__law_row
  exact ⟨_, (pus_one (pus_ret (pu_tupO (by rfl) (by rfl) m_tuple (PuF.g (pu_lc (own := [("at", 4)]) (by rfl) sc.nd (pui_range1 (by rfl) m_range (pu_var 2)) (blkN (N := N__law_row) (sc := defScope s__law_row) (by rfl) (by decide +kernel) (by decide +kernel) (by decide +kernel) (by decide +kernel)) (fun _ _ _ _ _ => by exact (pug_name 4 sc.nd (by rfl) (by first | exact .inl rfl | exact .inr rfl) (by exact notIn_of rfl) (offS (by decide)))) (fun _ _ _ _ _ => by exact puts_nil) (fun _ _ _ _ _ => by exact (pu_ifExp (put_eqO (by rfl) hr.units (PuE.g (pu_callDO (by rfl) (by rfl) c__law_any.F (hr.mono (by decide)) (by rfl) c__law_any.at_ c__law_any.kp c__law_any.b (by rfl) (pu_cons pu_int pu_nil))) (PuE.g pu_int)) (pu_callO (by rfl) c__law_zero.F (hr.mono (by decide)) (by rfl) c__law_zero.at_ c__law_zero.kp c__law_zero.b (pu_cons (pu_var 1) pu_nil)) (pu_callDO (by rfl) (by rfl) c__law_number.F (hr.mono (by decide)) (by rfl) c__law_number.at_ c__law_number.kp c__law_number.b (by rfl) (pu_cons (pu_var 1) (pu_cons (pu_var 3) pu_nil))))) (by decide) (offSs (by decide)))))))⟩
abbrev s__law_rows : Stmt := topS 37
abbrev N__law_rows : List Str := ["deal", "field", "many", "size", "most", "turn"]
theorem sc__law_rows : FnScope N__law_rows ["deal", "field", "many", "size", "most"] (defScope s__law_rows) := ⟨rfl, rfl, rfl, by decide +kernel, rfl, by decide +kernel, by decide +kernel⟩
theorem ok__law_rows (F : DefAt K mg "_law_rows" s__law_rows) (C__law_row : CalD P w K mg base 4 "_law_row" ["deal", "field", "size", "most"] S__law_row) (m_tuple : mg "tuple" = none) (m_range : mg "range" = none) : CalD P w K mg base 5 "_law_rows" ["deal", "field", "many", "size", "most"] S__law_rows := by
  obtain ⟨f__law_row, d__law_row, c__law_row⟩ := C__law_row
  have sc := sc__law_rows
  refine fn_deal (N := N__law_rows) (T := T__law_rows) [] F sc l__law_rows (by decide) (fun _ _ _ _ _ _ us hl => match us, hl with | [_, _, _, _, _], _ => rfl) (fun f cd A outer s H G0 H0 E a c hr => ?_) m__law_rows
  exact ⟨_, (pus_one (pus_ret (pu_tupO (by rfl) (by rfl) m_tuple (PuF.g (pu_lc (own := [("turn", 5)]) (by rfl) sc.nd (pui_range1 (by rfl) m_range (pu_var 2)) (blkN (N := N__law_rows) (sc := defScope s__law_rows) (by rfl) (by decide +kernel) (by decide +kernel) (by decide +kernel) (by decide +kernel)) (fun _ _ _ _ _ => by exact (pug_name 5 sc.nd (by rfl) (by first | exact .inl rfl | exact .inr rfl) (by exact notIn_of rfl) (offS (by decide)))) (fun _ _ _ _ _ => by exact puts_nil) (fun _ _ _ _ _ => by exact (pu_callDO (by rfl) (by rfl) c__law_row.F (hr.mono (by decide)) (by rfl) c__law_row.at_ c__law_row.kp c__law_row.b (by rfl) (pu_cons (pu_var 1) (pu_cons (pu_var 3) (pu_cons (pu_var 4) pu_nil))))) (by decide) (offSs (by decide)))))))⟩
abbrev s__law_zeros : Stmt := topS 38
abbrev N__law_zeros : List Str := ["field", "size"]
theorem sc__law_zeros : FnScope N__law_zeros ["field", "size"] (defScope s__law_zeros) := ⟨rfl, rfl, rfl, by decide +kernel, rfl, by decide +kernel, by decide +kernel⟩
theorem ok__law_zeros (F : DefAt K mg "_law_zeros" s__law_zeros) (C__law_zero : Cal P w K mg base 1 "_law_zero" ["field"] S__law_zero) : Cal P w K mg base 2 "_law_zeros" ["field", "size"] S__law_zeros := by
  obtain ⟨f__law_zero, d__law_zero, c__law_zero⟩ := C__law_zero
  have sc := sc__law_zeros
  refine fn_pure (N := N__law_zeros) (T := T__law_zeros) [] F sc l__law_zeros (by decide) (fun _ _ _ _ _ _ us hl => match us, hl with | [_, _], _ => rfl) (fun f cd A outer s H G0 H0 E hr => ?_) m__law_zeros
  exact ⟨_, (pus_one (pus_ret (pu_repO (by rfl) (PuE.g (pu_tup (pu_cons (pu_callO (by rfl) c__law_zero.F (hr.mono (by decide)) (by rfl) c__law_zero.at_ c__law_zero.kp c__law_zero.b (pu_cons (pu_var 0) pu_nil)) pu_nil))) (PuE.g (pu_var 1)))))⟩
abbrev s__law_unit : Stmt := topS 39
abbrev N__law_unit : List Str := ["field", "size", "at"]
theorem sc__law_unit : FnScope N__law_unit ["field", "size", "at"] (defScope s__law_unit) := ⟨rfl, rfl, rfl, by decide +kernel, rfl, by decide +kernel, by decide +kernel⟩
theorem ok__law_unit (F : DefAt K mg "_law_unit" s__law_unit) (C__law_zeros : Cal P w K mg base 2 "_law_zeros" ["field", "size"] S__law_zeros) (C__law_one : Cal P w K mg base 1 "_law_one" ["field"] S__law_one) : Cal P w K mg base 3 "_law_unit" ["field", "size", "at"] S__law_unit := by
  obtain ⟨f__law_zeros, d__law_zeros, c__law_zeros⟩ := C__law_zeros
  obtain ⟨f__law_one, d__law_one, c__law_one⟩ := C__law_one
  have sc := sc__law_unit
  refine fn_pure (N := N__law_unit) (T := T__law_unit) [] F sc l__law_unit (by decide) (fun _ _ _ _ _ _ us hl => match us, hl with | [_, _, _], _ => rfl) (fun f cd A outer s H G0 H0 E hr => ?_) m__law_unit
  exact ⟨_, (pus_one (pus_ret (pu_addO (by rfl) (PuE.g (pu_addO (by rfl) (PuE.g (pu_callO (by rfl) c__law_zeros.F (hr.mono (by decide)) (by rfl) c__law_zeros.at_ c__law_zeros.kp c__law_zeros.b (pu_cons (pu_var 0) (pu_cons (pu_var 2) pu_nil)))) (PuE.g (pu_tup (pu_cons (pu_callO (by rfl) c__law_one.F (hr.mono (by decide)) (by rfl) c__law_one.at_ c__law_one.kp c__law_one.b (pu_cons (pu_var 0) pu_nil)) pu_nil))))) (PuE.g (pu_callO (by rfl) c__law_zeros.F (hr.mono (by decide)) (by rfl) c__law_zeros.at_ c__law_zeros.kp c__law_zeros.b (pu_cons (pu_var 0) (pu_cons (pu_op op_sub ops_sub (PuE.g (pu_op op_sub ops_sub (PuE.g (pu_var 1)) (PuE.g (pu_var 2)))) (PuE.g pu_int)) pu_nil)))))))⟩
abbrev s__law_units : Stmt := topS 40
abbrev N__law_units : List Str := ["field", "size", "at"]
theorem sc__law_units : FnScope N__law_units ["field", "size"] (defScope s__law_units) := ⟨rfl, rfl, rfl, by decide +kernel, rfl, by decide +kernel, by decide +kernel⟩
theorem ok__law_units (F : DefAt K mg "_law_units" s__law_units) (C__law_unit : Cal P w K mg base 3 "_law_unit" ["field", "size", "at"] S__law_unit) (m_tuple : mg "tuple" = none) (m_range : mg "range" = none) : Cal P w K mg base 4 "_law_units" ["field", "size"] S__law_units := by
  obtain ⟨f__law_unit, d__law_unit, c__law_unit⟩ := C__law_unit
  have sc := sc__law_units
  refine fn_pure (N := N__law_units) (T := T__law_units) [] F sc l__law_units (by decide) (fun _ _ _ _ _ _ us hl => match us, hl with | [_, _], _ => rfl) (fun f cd A outer s H G0 H0 E hr => ?_) m__law_units
  exact ⟨_, (pus_one (pus_ret (pu_tupO (by rfl) (by rfl) m_tuple (PuF.g (pu_lc (own := [("at", 2)]) (by rfl) sc.nd (pui_range1 (by rfl) m_range (pu_var 1)) (blkN (N := N__law_units) (sc := defScope s__law_units) (by rfl) (by decide +kernel) (by decide +kernel) (by decide +kernel) (by decide +kernel)) (fun _ _ _ _ _ => by exact (pug_name 2 sc.nd (by rfl) (by first | exact .inl rfl | exact .inr rfl) (by exact notIn_of rfl) offN)) (fun _ _ _ _ _ => by exact puts_nil) (fun _ _ _ _ _ => by exact (pu_callO (by rfl) c__law_unit.F (hr.mono (by decide)) (by rfl) c__law_unit.at_ c__law_unit.kp c__law_unit.b (pu_cons (pu_var 0) (pu_cons (pu_var 1) (pu_cons (pu_var 2) pu_nil))))) (by decide) offNs)))))⟩
abbrev s__law_row_plus : Stmt := topS 41
abbrev N__law_row_plus : List Str := ["field", "one", "other", "at"]
theorem sc__law_row_plus : FnScope N__law_row_plus ["field", "one", "other"] (defScope s__law_row_plus) := ⟨rfl, rfl, rfl, by decide +kernel, rfl, by decide +kernel, by decide +kernel⟩
theorem ok__law_row_plus (F : DefAt K mg "_law_row_plus" s__law_row_plus) (C__law_plus : Cal P w K mg base 3 "_law_plus" ["field", "one", "other"] S__law_plus) (m_tuple : mg "tuple" = none) (m_range : mg "range" = none) (m_len : mg "len" = none) : Cal P w K mg base 4 "_law_row_plus" ["field", "one", "other"] S__law_row_plus := by
  obtain ⟨f__law_plus, d__law_plus, c__law_plus⟩ := C__law_plus
  have sc := sc__law_row_plus
  refine fn_pure (N := N__law_row_plus) (T := T__law_row_plus) [] F sc l__law_row_plus (by decide) (fun _ _ _ _ _ _ us hl => match us, hl with | [_, _, _], _ => rfl) (fun f cd A outer s H G0 H0 E hr => ?_) m__law_row_plus
  exact ⟨_, (pus_one (pus_ret (pu_tupO (by rfl) (by rfl) m_tuple (PuF.g (pu_lc (own := [("at", 3)]) (by rfl) sc.nd (pui_range1 (by rfl) m_range (pu_lenO (by rfl) (by rfl) m_len (PuE.g (pu_var 1)))) (blkN (N := N__law_row_plus) (sc := defScope s__law_row_plus) (by rfl) (by decide +kernel) (by decide +kernel) (by decide +kernel) (by decide +kernel)) (fun _ _ _ _ _ => by exact (pug_name 3 sc.nd (by rfl) (by first | exact .inl rfl | exact .inr rfl) (by exact notIn_of rfl) offN)) (fun _ _ _ _ _ => by exact puts_nil) (fun _ _ _ _ _ => by exact (pu_callO (by rfl) c__law_plus.F (hr.mono (by decide)) (by rfl) c__law_plus.at_ c__law_plus.kp c__law_plus.b (pu_cons (pu_var 0) (pu_cons (pu_ixO (by rfl) (PuE.g (pu_var 1)) (PuE.g (pu_var 3))) (pu_cons (pu_ixO (by rfl) (PuE.g (pu_var 2)) (PuE.g (pu_var 3))) pu_nil))))) (by decide) offNs)))))⟩
abbrev s__law_scaled : Stmt := topS 42
abbrev N__law_scaled : List Str := ["field", "number", "row", "other"]
theorem sc__law_scaled : FnScope N__law_scaled ["field", "number", "row"] (defScope s__law_scaled) := ⟨rfl, rfl, rfl, by decide +kernel, rfl, by decide +kernel, by decide +kernel⟩
theorem ok__law_scaled (F : DefAt K mg "_law_scaled" s__law_scaled) (C__law_times : Cal P w K mg base 3 "_law_times" ["field", "one", "other"] S__law_times) (m_tuple : mg "tuple" = none) : Cal P w K mg base 4 "_law_scaled" ["field", "number", "row"] S__law_scaled := by
  obtain ⟨f__law_times, d__law_times, c__law_times⟩ := C__law_times
  have sc := sc__law_scaled
  refine fn_pure (N := N__law_scaled) (T := T__law_scaled) [] F sc l__law_scaled (by decide) (fun _ _ _ _ _ _ us hl => match us, hl with | [_, _, _], _ => rfl) (fun f cd A outer s H G0 H0 E hr => ?_) m__law_scaled
  exact ⟨_, (pus_one (pus_ret (pu_tupO (by rfl) (by rfl) m_tuple (PuF.g (pu_lc (own := [("other", 3)]) (by rfl) sc.nd (pui_seqO (by rfl) (pu_var 2)) (blkN (N := N__law_scaled) (sc := defScope s__law_scaled) (by rfl) (by decide +kernel) (by decide +kernel) (by decide +kernel) (by decide +kernel)) (fun _ _ _ _ _ => by exact (pug_name 3 sc.nd (by rfl) (by first | exact .inl rfl | exact .inr rfl) (by exact notIn_of rfl) offN)) (fun _ _ _ _ _ => by exact puts_nil) (fun _ _ _ _ _ => by exact (pu_callO (by rfl) c__law_times.F (hr.mono (by decide)) (by rfl) c__law_times.at_ c__law_times.kp c__law_times.b (pu_cons (pu_var 0) (pu_cons (pu_var 1) (pu_cons (pu_var 3) pu_nil))))) (by decide) offNs)))))⟩
abbrev s__law_head : Stmt := topS 43
abbrev N__law_head : List Str := ["field", "row", "at"]
theorem sc__law_head : FnScope N__law_head ["field", "row"] (defScope s__law_head) := ⟨rfl, rfl, rfl, by decide +kernel, rfl, by decide +kernel, by decide +kernel⟩
theorem ok__law_head (F : DefAt K mg "_law_head" s__law_head) (C__law_zero : Cal P w K mg base 1 "_law_zero" ["field"] S__law_zero) (m_range : mg "range" = none) (m_len : mg "len" = none) : Cal P w K mg base 2 "_law_head" ["field", "row"] S__law_head := by
  obtain ⟨f__law_zero, d__law_zero, c__law_zero⟩ := C__law_zero
  have sc := sc__law_head
  refine fn_pure (N := N__law_head) (T := T__law_head) [] F sc l__law_head (by decide) (fun _ _ _ _ _ _ us hl => match us, hl with | [_, _], _ => rfl) (fun f cd A outer s H G0 H0 E hr => ?_) m__law_head
  exact ⟨_, (pus_cons (pus_for PassesOwn.never (by rfl) (pui_range1 (by rfl) m_range (pu_lenO (by rfl) (by rfl) m_len (PuE.g (pu_var 1)))) (pug_name 2 sc.nd (by rfl) (by first | exact .inl rfl | exact .inr rfl) (by exact notIn_of rfl) offN)
   (pus_one (pus_if (put_neO (by rfl) hr.units (PuE.g (pu_ixO (by rfl) (PuE.g (pu_var 1)) (PuE.g (pu_var 2)))) (PuE.g (pu_callO (by rfl) c__law_zero.F (hr.mono (by decide)) (by rfl) c__law_zero.at_ c__law_zero.kp c__law_zero.b (pu_cons (pu_var 0) pu_nil))))
   (pus_one (pus_ret (pu_var 2)))
   pus_nil)))
  (pus_one (pus_ret (pu_op op_sub ops_sub (PuE.g pu_int) (PuE.g pu_int)))))⟩
abbrev s__law_rest : Stmt := topS 44
abbrev N__law_rest : List Str := ["field", "row", "room", "other", "number"]
theorem sc__law_rest : FnScope N__law_rest ["field", "row", "room"] (defScope s__law_rest) := ⟨rfl, rfl, rfl, by decide +kernel, rfl, by decide +kernel, by decide +kernel⟩
theorem ok__law_rest (F : DefAt K mg "_law_rest" s__law_rest) (C__law_head : Cal P w K mg base 2 "_law_head" ["field", "row"] S__law_head) (C__law_zero : Cal P w K mg base 1 "_law_zero" ["field"] S__law_zero) (C__law_row_plus : Cal P w K mg base 4 "_law_row_plus" ["field", "one", "other"] S__law_row_plus) (C__law_scaled : Cal P w K mg base 4 "_law_scaled" ["field", "number", "row"] S__law_scaled) (C__law_less : Cal P w K mg base 1 "_law_less" ["field", "number"] S__law_less) : Cal P w K mg base 5 "_law_rest" ["field", "row", "room"] S__law_rest := by
  obtain ⟨f__law_head, d__law_head, c__law_head⟩ := C__law_head
  obtain ⟨f__law_zero, d__law_zero, c__law_zero⟩ := C__law_zero
  obtain ⟨f__law_row_plus, d__law_row_plus, c__law_row_plus⟩ := C__law_row_plus
  obtain ⟨f__law_scaled, d__law_scaled, c__law_scaled⟩ := C__law_scaled
  obtain ⟨f__law_less, d__law_less, c__law_less⟩ := C__law_less
  have sc := sc__law_rest
  refine fn_pure (N := N__law_rest) (T := T__law_rest) [] F sc l__law_rest (by decide) (fun _ _ _ _ _ _ us hl => match us, hl with | [_, _, _], _ => rfl) (fun f cd A outer s H G0 H0 E hr => ?_) m__law_rest
  exact ⟨_, (pus_cons (pus_for PassesOwn.never (by rfl) (pui_seqO (by rfl) (pu_var 2)) (pug_name 3 sc.nd (by rfl) (by first | exact .inl rfl | exact .inr rfl) (by exact notIn_of rfl) offN)
   (pus_cons (pus_set 4 (pu_ixO (by rfl) (PuE.g (pu_var 1)) (PuE.g (pu_callO (by rfl) c__law_head.F (hr.mono (by decide)) (by rfl) c__law_head.at_ c__law_head.kp c__law_head.b (pu_cons (pu_var 0) (pu_cons (pu_var 3) pu_nil))))) sc.nd (by rfl) (by first | exact .inl rfl | exact .inr rfl) offN)
  (pus_one (pus_if (put_neO (by rfl) hr.units (PuE.g (pu_var 4)) (PuE.g (pu_callO (by rfl) c__law_zero.F (hr.mono (by decide)) (by rfl) c__law_zero.at_ c__law_zero.kp c__law_zero.b (pu_cons (pu_var 0) pu_nil))))
   (pus_one (pus_set 1 (pu_callO (by rfl) c__law_row_plus.F (hr.mono (by decide)) (by rfl) c__law_row_plus.at_ c__law_row_plus.kp c__law_row_plus.b (pu_cons (pu_var 0) (pu_cons (pu_var 1) (pu_cons (pu_callO (by rfl) c__law_scaled.F (hr.mono (by decide)) (by rfl) c__law_scaled.at_ c__law_scaled.kp c__law_scaled.b (pu_cons (pu_var 0) (pu_cons (pu_callO (by rfl) c__law_less.F (hr.mono (by decide)) (by rfl) c__law_less.at_ c__law_less.kp c__law_less.b (pu_cons (pu_var 0) (pu_cons (pu_var 4) pu_nil))) (pu_cons (pu_var 3) pu_nil)))) pu_nil)))) sc.nd (by rfl) (by first | exact .inl rfl | exact .inr rfl) offN))
   pus_nil))))
  (pus_one (pus_ret (pu_var 1))))⟩
abbrev s__law_room : Stmt := topS 45
abbrev N__law_room : List Str := ["field", "rows", "found", "row", "head", "other", "places", "at"]
theorem sc__law_room : FnScope N__law_room ["field", "rows"] (defScope s__law_room) := ⟨rfl, rfl, rfl, by decide +kernel, rfl, by decide +kernel, by decide +kernel⟩
theorem ok__law_room (F : DefAt K mg "_law_room" s__law_room) (C__law_rest : Cal P w K mg base 5 "_law_rest" ["field", "row", "room"] S__law_rest) (C__law_head : Cal P w K mg base 2 "_law_head" ["field", "row"] S__law_head) (C__law_scaled : Cal P w K mg base 4 "_law_scaled" ["field", "number", "row"] S__law_scaled) (C__law_over : Cal P w K mg base 3 "_law_over" ["field", "number"] S__law_over) (m_sorted : mg "sorted" = none) (m_tuple : mg "tuple" = none) (m_range : mg "range" = none) (m_len : mg "len" = none) : Cal P w K mg base 6 "_law_room" ["field", "rows"] S__law_room := by
  obtain ⟨f__law_rest, d__law_rest, c__law_rest⟩ := C__law_rest
  obtain ⟨f__law_head, d__law_head, c__law_head⟩ := C__law_head
  obtain ⟨f__law_scaled, d__law_scaled, c__law_scaled⟩ := C__law_scaled
  obtain ⟨f__law_over, d__law_over, c__law_over⟩ := C__law_over
  have sc := sc__law_room
  refine fn_pure (N := N__law_room) (T := T__law_room) [] F sc l__law_room (by decide) (fun _ _ _ _ _ _ us hl => match us, hl with | [_, _], _ => rfl) (fun f cd A outer s H G0 H0 E hr => ?_) m__law_room
  exact ⟨_, (pus_cons (pus_set 2 (pu_tup pu_nil) sc.nd (by rfl) (by first | exact .inl rfl | exact .inr rfl) offN)
  (pus_cons (pus_for PassesOwn.never (by rfl) (pui_seqO (by rfl) (pu_var 1)) (pug_name 3 sc.nd (by rfl) (by first | exact .inl rfl | exact .inr rfl) (by exact notIn_of rfl) offN)
   (pus_cons (pus_set 3 (pu_callO (by rfl) c__law_rest.F (hr.mono (by decide)) (by rfl) c__law_rest.at_ c__law_rest.kp c__law_rest.b (pu_cons (pu_var 0) (pu_cons (pu_var 3) (pu_cons (pu_var 2) pu_nil)))) sc.nd (by rfl) (by first | exact .inl rfl | exact .inr rfl) offN)
  (pus_cons (pus_set 4 (pu_callO (by rfl) c__law_head.F (hr.mono (by decide)) (by rfl) c__law_head.at_ c__law_head.kp c__law_head.b (pu_cons (pu_var 0) (pu_cons (pu_var 3) pu_nil))) sc.nd (by rfl) (by first | exact .inl rfl | exact .inr rfl) offN)
  (pus_one (pus_if (put_cmp op_ge ops_ge (PuE.g (pu_var 4)) (PuE.g pu_int) (nomark _))
   (pus_cons (pus_set 3 (pu_callO (by rfl) c__law_scaled.F (hr.mono (by decide)) (by rfl) c__law_scaled.at_ c__law_scaled.kp c__law_scaled.b (pu_cons (pu_var 0) (pu_cons (pu_callO (by rfl) c__law_over.F (hr.mono (by decide)) (by rfl) c__law_over.at_ c__law_over.kp c__law_over.b (pu_cons (pu_var 0) (pu_cons (pu_ixO (by rfl) (PuE.g (pu_var 3)) (PuE.g (pu_var 4))) pu_nil))) (pu_cons (pu_var 3) pu_nil)))) sc.nd (by rfl) (by first | exact .inl rfl | exact .inr rfl) offN)
  (pus_one (pus_set 2 (pu_addO (by rfl) (PuE.g (pu_tupO (by rfl) (by rfl) m_tuple (PuF.g (pu_lc (own := [("other", 5)]) (by rfl) sc.nd (pui_seqO (by rfl) (pu_var 2)) (blkN (N := N__law_room) (sc := defScope s__law_room) (by rfl) (by decide +kernel) (by decide +kernel) (by decide +kernel) (by decide +kernel)) (fun _ _ _ _ _ => by exact (pug_name 5 sc.nd (by rfl) (by first | exact .inl rfl | exact .inr rfl) (by exact notIn_of rfl) offN)) (fun _ _ _ _ _ => by exact puts_nil) (fun _ _ _ _ _ => by exact (pu_callO (by rfl) c__law_rest.F (hr.mono (by decide)) (by rfl) c__law_rest.at_ c__law_rest.kp c__law_rest.b (pu_cons (pu_var 0) (pu_cons (pu_var 5) (pu_cons (pu_tup (pu_cons (pu_var 3) pu_nil)) pu_nil))))) (by decide) offNs)))) (PuE.g (pu_tup (pu_cons (pu_var 3) pu_nil)))) sc.nd (by rfl) (by first | exact .inl rfl | exact .inr rfl) offN)))
   pus_nil)))))
  (pus_cons (pus_set 6 (PuF.en (pu_sortO (by rfl) (by rfl) m_sorted (PuF.en (pu_lc (own := [("at", 7)]) (by rfl) sc.nd (pui_range1 (by rfl) m_range (pu_lenO (by rfl) (by rfl) m_len (PuE.g (pu_var 2)))) (blkN (N := N__law_room) (sc := defScope s__law_room) (by rfl) (by decide +kernel) (by decide +kernel) (by decide +kernel) (by decide +kernel)) (fun _ _ _ _ _ => by exact (pug_name 7 sc.nd (by rfl) (by first | exact .inl rfl | exact .inr rfl) (by exact notIn_of rfl) offN)) (fun _ _ _ _ _ => by exact puts_nil) (fun _ _ _ _ _ => by exact (pu_tup (pu_cons (pu_callO (by rfl) c__law_head.F (hr.mono (by decide)) (by rfl) c__law_head.at_ c__law_head.kp c__law_head.b (pu_cons (pu_var 0) (pu_cons (pu_ixO (by rfl) (PuE.g (pu_var 2)) (PuE.g (pu_var 7))) pu_nil))) (pu_cons (pu_var 7) pu_nil)))) (by decide) offNs)))) sc.nd (by rfl) (by first | exact .inl rfl | exact .inr rfl) offN)
  (pus_one (pus_ret (pu_tupO (by rfl) (by rfl) m_tuple (PuF.g (pu_lc (own := [("head", 4), ("at", 7)]) (by rfl) sc.nd (pui_seqO (by rfl) (pu_var 6)) (blkN (N := N__law_room) (sc := defScope s__law_room) (by rfl) (by decide +kernel) (by decide +kernel) (by decide +kernel) (by decide +kernel)) (fun _ _ _ _ _ => by exact (pug_tupO (by rfl) (by rfl) (pugs_cons (pug_name 4 sc.nd (by rfl) (by first | exact .inl rfl | exact .inr rfl) (by exact notIn_of rfl) offN) (pugs_cons (pug_name 7 sc.nd (by rfl) (by first | exact .inl rfl | exact .inr rfl) (by exact notIn_of rfl) offN) pugs_nil)) (len_cons' (len_cons' len_nil')))) (fun _ _ _ _ _ => by exact puts_nil) (fun _ _ _ _ _ => by exact (pu_ixO (by rfl) (PuE.g (pu_var 2)) (PuE.g (pu_var 7)))) (by decide) offNs))))))))⟩
abbrev s__law_drawn_room : Stmt := topS 46
abbrev N__law_drawn_room : List Str := ["deal", "field", "size", "most"]
theorem sc__law_drawn_room : FnScope N__law_drawn_room ["deal", "field", "size", "most"] (defScope s__law_drawn_room) := ⟨rfl, rfl, rfl, by decide +kernel, rfl, by decide +kernel, by decide +kernel⟩
theorem ok__law_drawn_room (F : DefAt K mg "_law_drawn_room" s__law_drawn_room) (C__law_room : Cal P w K mg base 6 "_law_room" ["field", "rows"] S__law_room) (C__law_rows : CalD P w K mg base 5 "_law_rows" ["deal", "field", "many", "size", "most"] S__law_rows) (C__law_any : CalD P w K mg base 1 "_law_any" ["deal", "bound"] S__law_any) : CalD P w K mg base 7 "_law_drawn_room" ["deal", "field", "size", "most"] S__law_drawn_room := by
  obtain ⟨f__law_room, d__law_room, c__law_room⟩ := C__law_room
  obtain ⟨f__law_rows, d__law_rows, c__law_rows⟩ := C__law_rows
  obtain ⟨f__law_any, d__law_any, c__law_any⟩ := C__law_any
  have sc := sc__law_drawn_room
  refine fn_deal (N := N__law_drawn_room) (T := T__law_drawn_room) [] F sc l__law_drawn_room (by decide) (fun _ _ _ _ _ _ us hl => match us, hl with | [_, _, _, _], _ => rfl) (fun f cd A outer s H G0 H0 E a c hr => ?_) m__law_drawn_room
  exact ⟨_, (pus_one (pus_ret (pu_callO (by rfl) c__law_room.F (hr.mono (by decide)) (by rfl) c__law_room.at_ c__law_room.kp c__law_room.b (pu_cons (pu_var 1) (pu_cons (pu_callDO (by rfl) (by rfl) c__law_rows.F (hr.mono (by decide)) (by rfl) c__law_rows.at_ c__law_rows.kp c__law_rows.b (by rfl) (pu_cons (pu_var 1) (pu_cons (pu_callDO (by rfl) (by rfl) c__law_any.F (hr.mono (by decide)) (by rfl) c__law_any.at_ c__law_any.kp c__law_any.b (by rfl) (pu_cons (pu_addO (by rfl) (PuE.g (pu_var 2)) (PuE.g pu_int)) pu_nil)) (pu_cons (pu_var 2) (pu_cons (pu_var 3) pu_nil))))) pu_nil)))))⟩
abbrev s__law_is_room : Stmt := topS 47
abbrev N__law_is_room : List Str := ["field", "size", "value", "heads", "row", "at", "column", "other"]
theorem sc__law_is_room : FnScope N__law_is_room ["field", "size", "value"] (defScope s__law_is_room) := ⟨rfl, rfl, rfl, by decide +kernel, rfl, by decide +kernel, by decide +kernel⟩
theorem ok__law_is_room (F : DefAt K mg "_law_is_room" s__law_is_room) (C__law_head : Cal P w K mg base 2 "_law_head" ["field", "row"] S__law_head) (C__law_one : Cal P w K mg base 1 "_law_one" ["field"] S__law_one) (C__law_zero : Cal P w K mg base 1 "_law_zero" ["field"] S__law_zero) (m_range : mg "range" = none) (m_len : mg "len" = none) : Cal P w K mg base 3 "_law_is_room" ["field", "size", "value"] S__law_is_room := by
  obtain ⟨f__law_head, d__law_head, c__law_head⟩ := C__law_head
  obtain ⟨f__law_one, d__law_one, c__law_one⟩ := C__law_one
  obtain ⟨f__law_zero, d__law_zero, c__law_zero⟩ := C__law_zero
  have sc := sc__law_is_room
  refine fn_pure (N := N__law_is_room) (T := T__law_is_room) [] F sc l__law_is_room (by decide) (fun _ _ _ _ _ _ us hl => match us, hl with | [_, _, _], _ => rfl) (fun f cd A outer s H G0 H0 E hr => ?_) m__law_is_room
  exact ⟨_, (pus_cons (pus_set 3 (PuF.en (pu_lc (own := [("row", 4)]) (by rfl) sc.nd (pui_seqO (by rfl) (pu_var 2)) (blkN (N := N__law_is_room) (sc := defScope s__law_is_room) (by rfl) (by decide +kernel) (by decide +kernel) (by decide +kernel) (by decide +kernel)) (fun _ _ _ _ _ => by exact (pug_name 4 sc.nd (by rfl) (by first | exact .inl rfl | exact .inr rfl) (by exact notIn_of rfl) offN)) (fun _ _ _ _ _ => by exact puts_nil) (fun _ _ _ _ _ => by exact (pu_callO (by rfl) c__law_head.F (hr.mono (by decide)) (by rfl) c__law_head.at_ c__law_head.kp c__law_head.b (pu_cons (pu_var 0) (pu_cons (pu_var 4) pu_nil)))) (by decide) offNs)) sc.nd (by rfl) (by first | exact .inl rfl | exact .inr rfl) offN)
  (pus_cons (pus_if (put_cmp op_gt ops_gt (PuE.g (pu_lenO (by rfl) (by rfl) m_len (PuF.g (pu_lc (own := [("at", 5)]) (by rfl) sc.nd (pui_range1 (by rfl) m_range (pu_lenO (by rfl) (by rfl) m_len (PuE.g (pu_var 3)))) (blkN (N := N__law_is_room) (sc := defScope s__law_is_room) (by rfl) (by decide +kernel) (by decide +kernel) (by decide +kernel) (by decide +kernel)) (fun _ _ _ _ _ => by exact (pug_name 5 sc.nd (by rfl) (by first | exact .inl rfl | exact .inr rfl) (by exact notIn_of rfl) offN)) (fun _ _ _ _ _ => by exact (puts_one (PuW.pt (puw_or (put_cmp op_lt ops_lt (PuE.g (pu_ixO (by rfl) (PuE.g (pu_var 3)) (PuE.g (pu_var 5)))) (PuE.g pu_int) (nomark _)) (puw_or1 (PuW.pt (puw_and (put_cmp op_gt ops_gt (PuE.g (pu_var 5)) (PuE.g pu_int) (nomark _)) (puw_and1 (put_cmp op_le ops_le (PuE.g (pu_ixO (by rfl) (PuE.g (pu_var 3)) (PuE.g (pu_var 5)))) (PuE.g (pu_ixO (by rfl) (PuE.g (pu_var 3)) (PuE.g (pu_op op_sub ops_sub (PuE.g (pu_var 5)) (PuE.g pu_int))))) (nomark _)))))))))) (fun _ _ _ _ _ => by exact (pu_var 5)) (by decide) offNs)))) (PuE.g pu_int) (nomark _))
   (pus_one (pus_ret pu_bl))
   pus_nil)
  (pus_cons (pus_for PassesOwn.never (by rfl) (pui_range1 (by rfl) m_range (pu_lenO (by rfl) (by rfl) m_len (PuE.g (pu_var 2)))) (pug_name 5 sc.nd (by rfl) (by first | exact .inl rfl | exact .inr rfl) (by exact notIn_of rfl) offN)
   (pus_cons (pus_setLc 6 (own := [("row", 4)]) (by rfl) sc.nd (by rfl) (by rfl) offN (sw_true (by rfl) (by rfl) (by rfl) (by decide +kernel)) (pui_seqO (by rfl) (pu_var 2)) (blkN (N := N__law_is_room) (sc := defScope s__law_is_room) (by rfl) (by decide +kernel) (by decide +kernel) (by decide +kernel) (by decide +kernel)) (fun _ _ _ _ _ => by exact (pug_name 4 sc.nd (by rfl) (by first | exact .inl rfl | exact .inr rfl) (by exact notIn_of rfl) offN)) (fun _ _ _ _ _ => by exact puts_nil) (fun _ _ _ _ _ => by exact (pu_ixO (by rfl) (PuE.g (pu_var 4)) (PuE.g (pu_ixO (by rfl) (PuE.g (pu_var 3)) (PuE.g (pu_var 5)))))) (by decide) offNs)
  (pus_one (pus_if (put_neO (by rfl) hr.units (PuE.g (pu_var 6)) (PuF.g (pu_lc (own := [("other", 7)]) (by rfl) sc.nd (pui_range1 (by rfl) m_range (pu_lenO (by rfl) (by rfl) m_len (PuE.g (pu_var 2)))) (blkN (N := N__law_is_room) (sc := defScope s__law_is_room) (by rfl) (by decide +kernel) (by decide +kernel) (by decide +kernel) (by decide +kernel)) (fun _ _ _ _ _ => by exact (pug_name 7 sc.nd (by rfl) (by first | exact .inl rfl | exact .inr rfl) (by exact notIn_of rfl) offN)) (fun _ _ _ _ _ => by exact puts_nil) (fun _ _ _ _ _ => by exact (pu_ifExp (put_eqO (by rfl) hr.units (PuE.g (pu_var 7)) (PuE.g (pu_var 5))) (pu_callO (by rfl) c__law_one.F (hr.mono (by decide)) (by rfl) c__law_one.at_ c__law_one.kp c__law_one.b (pu_cons (pu_var 0) pu_nil)) (pu_callO (by rfl) c__law_zero.F (hr.mono (by decide)) (by rfl) c__law_zero.at_ c__law_zero.kp c__law_zero.b (pu_cons (pu_var 0) pu_nil)))) (by decide) offNs)))
   (pus_one (pus_ret pu_bl))
   pus_nil))))
  (pus_one (pus_ret pu_bl)))))⟩
abbrev s__law_has_form : Stmt := topS 48
abbrev N__law_has_form : List Str := ["field", "size", "value", "row", "number"]
theorem sc__law_has_form : FnScope N__law_has_form ["field", "size", "value"] (defScope s__law_has_form) := ⟨rfl, rfl, rfl, by decide +kernel, rfl, by decide +kernel, by decide +kernel⟩
theorem ok__law_has_form (F : DefAt K mg "_law_has_form" s__law_has_form) (C__law_is_number : Cal P w K mg base 2 "_law_is_number" ["field", "value"] S__law_is_number) (m_isinstance : mg "isinstance" = none) (m_tuple : mg "tuple" = none) (m_len : mg "len" = none) : Cal P w K mg base 3 "_law_has_form" ["field", "size", "value"] S__law_has_form := by
  obtain ⟨f__law_is_number, d__law_is_number, c__law_is_number⟩ := C__law_is_number
  have sc := sc__law_has_form
  refine fn_pure (N := N__law_has_form) (T := T__law_has_form) [] F sc l__law_has_form (by decide) (fun _ _ _ _ _ _ us hl => match us, hl with | [_, _, _], _ => rfl) (fun f cd A outer s H G0 H0 E hr => ?_) m__law_has_form
  exact ⟨_, (pus_cons (pus_if (put_not (put_val (pu_isiO (by rfl) (by rfl) m_isinstance (by rfl) m_tuple boot_tuple (by decide) (PuE.g (pu_var 2)))))
   (pus_one (pus_ret pu_bl))
   pus_nil)
  (pus_cons (pus_for PassesOwn.never (by rfl) (pui_seqO (by rfl) (pu_var 2)) (pug_name 3 sc.nd (by rfl) (by first | exact .inl rfl | exact .inr rfl) (by exact notIn_of rfl) offN)
   (pus_one (pus_if (PuW.pt (puw_or (put_not (put_val (pu_isiO (by rfl) (by rfl) m_isinstance (by rfl) m_tuple boot_tuple (by decide) (PuE.g (pu_var 3))))) (puw_or (put_neO (by rfl) hr.units (PuE.g (pu_lenO (by rfl) (by rfl) m_len (PuE.g (pu_var 3)))) (PuE.g (pu_var 1))) (puw_or1 (put_cmp op_gt ops_gt (PuE.g (pu_lenO (by rfl) (by rfl) m_len (PuF.g (pu_lc (own := [("number", 4)]) (by rfl) sc.nd (pui_seqO (by rfl) (pu_var 3)) (blkN (N := N__law_has_form) (sc := defScope s__law_has_form) (by rfl) (by decide +kernel) (by decide +kernel) (by decide +kernel) (by decide +kernel)) (fun _ _ _ _ _ => by exact (pug_name 4 sc.nd (by rfl) (by first | exact .inl rfl | exact .inr rfl) (by exact notIn_of rfl) offN)) (fun _ _ _ _ _ => by exact (puts_one (put_not (put_val (pu_callO (by rfl) c__law_is_number.F (hr.mono (by decide)) (by rfl) c__law_is_number.at_ c__law_is_number.kp c__law_is_number.b (pu_cons (pu_var 0) (pu_cons (pu_var 4) pu_nil))))))) (fun _ _ _ _ _ => by exact (pu_var 4)) (by decide) offNs)))) (PuE.g pu_int) (nomark _))))))
   (pus_one (pus_ret pu_bl))
   pus_nil)))
  (pus_one (pus_ret pu_bl))))⟩
abbrev s__law_is_whole : Stmt := topS 49
abbrev N__law_is_whole : List Str := ["value"]
theorem sc__law_is_whole : FnScope N__law_is_whole ["value"] (defScope s__law_is_whole) := ⟨rfl, rfl, rfl, by decide +kernel, rfl, by decide +kernel, by decide +kernel⟩
theorem ok__law_is_whole (F : DefAt K mg "_law_is_whole" s__law_is_whole) (m_isinstance : mg "isinstance" = none) (m_int : mg "int" = none) (m_bool : mg "bool" = none) : Cal P w K mg base 1 "_law_is_whole" ["value"] S__law_is_whole := by
  have sc := sc__law_is_whole
  refine fn_pure (N := N__law_is_whole) (T := T__law_is_whole) [] F sc l__law_is_whole (by decide) (fun _ _ _ _ _ _ us hl => match us, hl with | [_], _ => rfl) (fun f cd A outer s H G0 H0 E hr => ?_) m__law_is_whole
  exact ⟨_, (pus_one (pus_ret (pu_and (pu_isiO (by rfl) (by rfl) m_isinstance (by rfl) m_int boot_int (by decide) (PuE.g (pu_var 0))) (pu_one (pu_not (pu_isiO (by rfl) (by rfl) m_isinstance (by rfl) m_bool boot_bool (by decide) (PuE.g (pu_var 0))))))))⟩
abbrev s__law_is_number : Stmt := topS 50
abbrev N__law_is_number : List Str := ["field", "value"]
theorem sc__law_is_number : FnScope N__law_is_number ["field", "value"] (defScope s__law_is_number) := ⟨rfl, rfl, rfl, by decide +kernel, rfl, by decide +kernel, by decide +kernel⟩
theorem ok__law_is_number (F : DefAt K mg "_law_is_number" s__law_is_number) (C__law_is_whole : Cal P w K mg base 1 "_law_is_whole" ["value"] S__law_is_whole) (C__law_divisor : Cal P w K mg base 1 "_law_divisor" ["one", "other"] S__law_divisor) (m_isinstance : mg "isinstance" = none) (m_len : mg "len" = none) (m_tuple : mg "tuple" = none) : Cal P w K mg base 2 "_law_is_number" ["field", "value"] S__law_is_number := by
  obtain ⟨f__law_is_whole, d__law_is_whole, c__law_is_whole⟩ := C__law_is_whole
  obtain ⟨f__law_divisor, d__law_divisor, c__law_divisor⟩ := C__law_divisor
  have sc := sc__law_is_number
  refine fn_pure (N := N__law_is_number) (T := T__law_is_number) [] F sc l__law_is_number (by decide) (fun _ _ _ _ _ _ us hl => match us, hl with | [_, _], _ => rfl) (fun f cd A outer s H G0 H0 E hr => ?_) m__law_is_number
  exact ⟨_, (pus_cons (pus_if (put_cmp op_gt ops_gt (PuE.g (pu_var 0)) (PuE.g pu_int) (nomark _))
   (pus_one (pus_ret (pu_and (pu_callO (by rfl) c__law_is_whole.F (hr.mono (by decide)) (by rfl) c__law_is_whole.at_ c__law_is_whole.kp c__law_is_whole.b (pu_cons (pu_var 1) pu_nil)) (pu_one (pu_chain op_le op_lt ops_le ops_lt (PuE.g pu_int) (PuE.g (pu_var 1)) (PuE.g (pu_var 0)))))))
   pus_nil)
  (pus_cons (pus_if (PuW.pt (puw_or (put_not (put_val (pu_isiO (by rfl) (by rfl) m_isinstance (by rfl) m_tuple boot_tuple (by decide) (PuE.g (pu_var 1))))) (puw_or (put_neO (by rfl) hr.units (PuE.g (pu_lenO (by rfl) (by rfl) m_len (PuE.g (pu_var 1)))) (PuE.g pu_int)) (puw_or (put_not (put_val (pu_callO (by rfl) c__law_is_whole.F (hr.mono (by decide)) (by rfl) c__law_is_whole.at_ c__law_is_whole.kp c__law_is_whole.b (pu_cons (pu_ixO (by rfl) (PuE.g (pu_var 1)) (PuE.g pu_int)) pu_nil)))) (puw_or1 (put_not (put_val (pu_callO (by rfl) c__law_is_whole.F (hr.mono (by decide)) (by rfl) c__law_is_whole.at_ c__law_is_whole.kp c__law_is_whole.b (pu_cons (pu_ixO (by rfl) (PuE.g (pu_var 1)) (PuE.g pu_int)) pu_nil)))))))))
   (pus_one (pus_ret pu_bl))
   pus_nil)
  (pus_one (pus_ret (pu_and (pu_cmp op_ge ops_ge (PuE.g (pu_ixO (by rfl) (PuE.g (pu_var 1)) (PuE.g pu_int))) (PuE.g pu_int) (nomark _)) (pu_one (pu_eqO (by rfl) hr.units (PuE.g (pu_callO (by rfl) c__law_divisor.F (hr.mono (by decide)) (by rfl) c__law_divisor.at_ c__law_divisor.kp c__law_divisor.b (pu_cons (pu_ixO (by rfl) (PuE.g (pu_var 1)) (PuE.g pu_int)) (pu_cons (pu_ixO (by rfl) (PuE.g (pu_var 1)) (PuE.g pu_int)) pu_nil)))) (PuE.g pu_int))))))))⟩
abbrev s__law_with : Stmt := topS 51
abbrev N__law_with : List Str := ["row", "at", "value"]
theorem sc__law_with : FnScope N__law_with ["row", "at", "value"] (defScope s__law_with) := ⟨rfl, rfl, rfl, by decide +kernel, rfl, by decide +kernel, by decide +kernel⟩
theorem ok__law_with (F : DefAt K mg "_law_with" s__law_with) (m_tuple : mg "tuple" = none) : Cal P w K mg base 1 "_law_with" ["row", "at", "value"] S__law_with := by
  have sc := sc__law_with
  refine fn_pure (N := N__law_with) (T := T__law_with) [] F sc l__law_with (by decide) (fun _ _ _ _ _ _ us hl => match us, hl with | [_, _, _], _ => rfl) (fun f cd A outer s H G0 H0 E hr => ?_) m__law_with
  exact ⟨_, (pus_one (pus_ret (pu_addO (by rfl) (PuE.g (pu_addO (by rfl) (PuE.g (pu_tupO (by rfl) (by rfl) m_tuple (PuE.g (pu_sliceO (by rfl) (PuE.g (pu_var 0)) puo_none (puo_some (pu_var 1)))))) (PuE.g (pu_tup (pu_cons (pu_var 2) pu_nil))))) (PuE.g (pu_tupO (by rfl) (by rfl) m_tuple (PuE.g (pu_sliceO (by rfl) (PuE.g (pu_var 0)) (puo_some (pu_addO (by rfl) (PuE.g (pu_var 1)) (PuE.g pu_int))) puo_none)))))))⟩
abbrev s__law_source : Stmt := topS 52
abbrev N__law_source : List Str := ["field", "table", "room", "size", "many", "rows", "at", "row"]
theorem sc__law_source : FnScope N__law_source ["field", "table", "room"] (defScope s__law_source) := ⟨rfl, rfl, rfl, by decide +kernel, rfl, by decide +kernel, by decide +kernel⟩
theorem ok__law_source (F : DefAt K mg "_law_source" s__law_source) (C__law_rest : Cal P w K mg base 5 "_law_rest" ["field", "row", "room"] S__law_rest) (C__law_unit : Cal P w K mg base 3 "_law_unit" ["field", "size", "at"] S__law_unit) (C__law_room : Cal P w K mg base 6 "_law_room" ["field", "rows"] S__law_room) (C__law_head : Cal P w K mg base 2 "_law_head" ["field", "row"] S__law_head) (m_tuple : mg "tuple" = none) (m_len : mg "len" = none) (m_range : mg "range" = none) : Cal P w K mg base 7 "_law_source" ["field", "table", "room"] S__law_source := by
  obtain ⟨f__law_rest, d__law_rest, c__law_rest⟩ := C__law_rest
  obtain ⟨f__law_unit, d__law_unit, c__law_unit⟩ := C__law_unit
  obtain ⟨f__law_room, d__law_room, c__law_room⟩ := C__law_room
  obtain ⟨f__law_head, d__law_head, c__law_head⟩ := C__law_head
  have sc := sc__law_source
  refine fn_pure (N := N__law_source) (T := T__law_source) [] F sc l__law_source (by decide) (fun _ _ _ _ _ _ us hl => match us, hl with | [_, _, _], _ => rfl) (fun f cd A outer s H G0 H0 E hr => ?_) m__law_source
  exact ⟨_, (pus_cons (pus_asg (pu_tup (pu_cons (pu_lenO (by rfl) (by rfl) m_len (PuE.g (pu_ixO (by rfl) (PuE.g (pu_var 1)) (PuE.g pu_int)))) (pu_cons (pu_lenO (by rfl) (by rfl) m_len (PuE.g (pu_var 1))) pu_nil))) (pug_tupO (by rfl) (by rfl) (pugs_cons (pug_name 3 sc.nd (by rfl) (by first | exact .inl rfl | exact .inr rfl) (by exact notIn_of rfl) offN) (pugs_cons (pug_name 4 sc.nd (by rfl) (by first | exact .inl rfl | exact .inr rfl) (by exact notIn_of rfl) offN) pugs_nil)) (len_cons' (len_cons' len_nil'))))
  (pus_cons (pus_setLc 5 (own := [("at", 6)]) (by rfl) sc.nd (by rfl) (by rfl) offN (sw_true (by rfl) (by rfl) (by rfl) (by decide +kernel)) (pui_range1 (by rfl) m_range (pu_var 4)) (blkN (N := N__law_source) (sc := defScope s__law_source) (by rfl) (by decide +kernel) (by decide +kernel) (by decide +kernel) (by decide +kernel)) (fun _ _ _ _ _ => by exact (pug_name 6 sc.nd (by rfl) (by first | exact .inl rfl | exact .inr rfl) (by exact notIn_of rfl) offN)) (fun _ _ _ _ _ => by exact puts_nil) (fun _ _ _ _ _ => by exact (pu_addO (by rfl) (PuE.g (pu_callO (by rfl) c__law_rest.F (hr.mono (by decide)) (by rfl) c__law_rest.at_ c__law_rest.kp c__law_rest.b (pu_cons (pu_var 0) (pu_cons (pu_ixO (by rfl) (PuE.g (pu_var 1)) (PuE.g (pu_var 6))) (pu_cons (pu_var 2) pu_nil))))) (PuE.g (pu_callO (by rfl) c__law_unit.F (hr.mono (by decide)) (by rfl) c__law_unit.at_ c__law_unit.kp c__law_unit.b (pu_cons (pu_var 0) (pu_cons (pu_var 4) (pu_cons (pu_var 6) pu_nil))))))) (by decide) offNs)
  (pus_one (pus_ret (pu_tupO (by rfl) (by rfl) m_tuple (PuF.g (pu_lc (own := [("row", 7)]) (by rfl) sc.nd (pui_seqO (by rfl) (pu_callO (by rfl) c__law_room.F (hr.mono (by decide)) (by rfl) c__law_room.at_ c__law_room.kp c__law_room.b (pu_cons (pu_var 0) (pu_cons (pu_var 5) pu_nil)))) (blkN (N := N__law_source) (sc := defScope s__law_source) (by rfl) (by decide +kernel) (by decide +kernel) (by decide +kernel) (by decide +kernel)) (fun _ _ _ _ _ => by exact (pug_name 7 sc.nd (by rfl) (by first | exact .inl rfl | exact .inr rfl) (by exact notIn_of rfl) offN)) (fun _ _ _ _ _ => by exact (puts_one (put_cmp op_ge ops_ge (PuE.g (pu_callO (by rfl) c__law_head.F (hr.mono (by decide)) (by rfl) c__law_head.at_ c__law_head.kp c__law_head.b (pu_cons (pu_var 0) (pu_cons (pu_var 7) pu_nil)))) (PuE.g (pu_var 3)) (nomark _)))) (fun _ _ _ _ _ => by exact (pu_sliceO (by rfl) (PuE.g (pu_var 7)) (puo_some (pu_var 3)) puo_none)) (by decide) offNs)))))))⟩
abbrev s__law_nothing : Stmt := topS 53
abbrev N__law_nothing : List Str := ["field", "size", "rows", "row", "at"]
theorem sc__law_nothing : FnScope N__law_nothing ["field", "size", "rows"] (defScope s__law_nothing) := ⟨rfl, rfl, rfl, by decide +kernel, rfl, by decide +kernel, by decide +kernel⟩
theorem ok__law_nothing (F : DefAt K mg "_law_nothing" s__law_nothing) (C__law_source : Cal P w K mg base 7 "_law_source" ["field", "table", "room"] S__law_source) (C__law_units : Cal P w K mg base 4 "_law_units" ["field", "size"] S__law_units) (m_len : mg "len" = none) (m_tuple : mg "tuple" = none) (m_range : mg "range" = none) : Cal P w K mg base 8 "_law_nothing" ["field", "size", "rows"] S__law_nothing := by
  obtain ⟨f__law_source, d__law_source, c__law_source⟩ := C__law_source
  obtain ⟨f__law_units, d__law_units, c__law_units⟩ := C__law_units
  have sc := sc__law_nothing
  refine fn_pure (N := N__law_nothing) (T := T__law_nothing) [] F sc l__law_nothing (by decide) (fun _ _ _ _ _ _ us hl => match us, hl with | [_, _, _], _ => rfl) (fun f cd A outer s H G0 H0 E hr => ?_) m__law_nothing
  exact ⟨_, (pus_cons (pus_if (put_eqO (by rfl) hr.units (PuE.g (pu_lenO (by rfl) (by rfl) m_len (PuE.g (pu_var 2)))) (PuE.g pu_int))
   (pus_one (pus_ret (pu_callO (by rfl) c__law_units.F (hr.mono (by decide)) (by rfl) c__law_units.at_ c__law_units.kp c__law_units.b (pu_cons (pu_var 0) (pu_cons (pu_var 1) pu_nil)))))
   pus_nil)
  (pus_one (pus_ret (pu_callO (by rfl) c__law_source.F (hr.mono (by decide)) (by rfl) c__law_source.at_ c__law_source.kp c__law_source.b (pu_cons (pu_var 0) (pu_cons (pu_tupO (by rfl) (by rfl) m_tuple (PuF.g (pu_lc (own := [("at", 4)]) (by rfl) sc.nd (pui_range1 (by rfl) m_range (pu_var 1)) (blkN (N := N__law_nothing) (sc := defScope s__law_nothing) (by rfl) (by decide +kernel) (by decide +kernel) (by decide +kernel) (by decide +kernel)) (fun _ _ _ _ _ => by exact (pug_name 4 sc.nd (by rfl) (by first | exact .inl rfl | exact .inr rfl) (by exact notIn_of rfl) offN)) (fun _ _ _ _ _ => by exact puts_nil) (fun _ _ _ _ _ => by exact (pu_tupO (by rfl) (by rfl) m_tuple (PuF.g (pu_lc (own := [("row", 3)]) (by rfl) sc.nd (pui_seqO (by rfl) (pu_var 2)) (blkR (by rfl) (by rfl) (by rfl) (by rfl) (by rfl)) (fun _ _ _ _ _ => by exact (pug_name 3 sc.nd (by rfl) (by first | exact .inl rfl | exact .inr rfl) (by exact notIn_of rfl) offN)) (fun _ _ _ _ _ => by exact puts_nil) (fun _ _ _ _ _ => by exact (pu_ixO (by rfl) (PuE.g (pu_var 3)) (PuE.g (pu_var 4)))) (by decide) offNs)))) (by decide) offNs))) (pu_cons (pu_tup pu_nil) pu_nil)))))))⟩
abbrev s__law_dot : Stmt := topS 54
abbrev N__law_dot : List Str := ["one", "other", "found", "at"]
theorem sc__law_dot : FnScope N__law_dot ["one", "other"] (defScope s__law_dot) := ⟨rfl, rfl, rfl, by decide +kernel, rfl, by decide +kernel, by decide +kernel⟩
theorem ok__law_dot (F : DefAt K mg "_law_dot" s__law_dot) (C__law_plus : Cal P w K mg base 3 "_law_plus" ["field", "one", "other"] S__law_plus) (C__law_times : Cal P w K mg base 3 "_law_times" ["field", "one", "other"] S__law_times) (m_range : mg "range" = none) (m_len : mg "len" = none) : Cal P w K mg base 4 "_law_dot" ["one", "other"] S__law_dot := by
  obtain ⟨f__law_plus, d__law_plus, c__law_plus⟩ := C__law_plus
  obtain ⟨f__law_times, d__law_times, c__law_times⟩ := C__law_times
  have sc := sc__law_dot
  refine fn_pure (N := N__law_dot) (T := T__law_dot) [] F sc l__law_dot (by decide) (fun _ _ _ _ _ _ us hl => match us, hl with | [_, _], _ => rfl) (fun f cd A outer s H G0 H0 E hr => ?_) m__law_dot
  exact ⟨_, (pus_cons (pus_set 2 (pu_tup (pu_cons pu_int (pu_cons pu_int pu_nil))) sc.nd (by rfl) (by first | exact .inl rfl | exact .inr rfl) offN)
  (pus_cons (pus_for PassesOwn.never (by rfl) (pui_range1 (by rfl) m_range (pu_lenO (by rfl) (by rfl) m_len (PuE.g (pu_var 0)))) (pug_name 3 sc.nd (by rfl) (by first | exact .inl rfl | exact .inr rfl) (by exact notIn_of rfl) offN)
   (pus_one (pus_set 2 (pu_callO (by rfl) c__law_plus.F (hr.mono (by decide)) (by rfl) c__law_plus.at_ c__law_plus.kp c__law_plus.b (pu_cons pu_int (pu_cons (pu_var 2) (pu_cons (pu_callO (by rfl) c__law_times.F (hr.mono (by decide)) (by rfl) c__law_times.at_ c__law_times.kp c__law_times.b (pu_cons pu_int (pu_cons (pu_ixO (by rfl) (PuE.g (pu_var 0)) (PuE.g (pu_var 3))) (pu_cons (pu_ixO (by rfl) (PuE.g (pu_var 1)) (PuE.g (pu_var 3))) pu_nil)))) pu_nil)))) sc.nd (by rfl) (by first | exact .inl rfl | exact .inr rfl) offN)))
  (pus_one (pus_ret (pu_var 2)))))⟩
abbrev s__law_flat : Stmt := topS 55
abbrev N__law_flat : List Str := ["size", "equations", "room"]
theorem sc__law_flat : FnScope N__law_flat ["size", "equations"] (defScope s__law_flat) := ⟨rfl, rfl, rfl, by decide +kernel, rfl, by decide +kernel, by decide +kernel⟩
theorem ok__law_flat (F : DefAt K mg "_law_flat" s__law_flat) (C__law_room : Cal P w K mg base 6 "_law_room" ["field", "rows"] S__law_room) (C__law_head : Cal P w K mg base 2 "_law_head" ["field", "row"] S__law_head) (m_len : mg "len" = none) : Cal P w K mg base 7 "_law_flat" ["size", "equations"] S__law_flat := by
  obtain ⟨f__law_room, d__law_room, c__law_room⟩ := C__law_room
  obtain ⟨f__law_head, d__law_head, c__law_head⟩ := C__law_head
  have sc := sc__law_flat
  refine fn_pure (N := N__law_flat) (T := T__law_flat) [] F sc l__law_flat (by decide) (fun _ _ _ _ _ _ us hl => match us, hl with | [_, _], _ => rfl) (fun f cd A outer s H G0 H0 E hr => ?_) m__law_flat
  exact ⟨_, (pus_cons (pus_set 2 (pu_callO (by rfl) c__law_room.F (hr.mono (by decide)) (by rfl) c__law_room.at_ c__law_room.kp c__law_room.b (pu_cons pu_int (pu_cons (pu_var 1) pu_nil))) sc.nd (by rfl) (by first | exact .inl rfl | exact .inr rfl) offN)
  (pus_one (pus_ret (pu_ifExp (PuW.pt (puw_and (put_cmp op_gt ops_gt (PuE.g (pu_lenO (by rfl) (by rfl) m_len (PuE.g (pu_var 2)))) (PuE.g pu_int) (nomark _)) (puw_and1 (put_eqO (by rfl) hr.units (PuE.g (pu_callO (by rfl) c__law_head.F (hr.mono (by decide)) (by rfl) c__law_head.at_ c__law_head.kp c__law_head.b (pu_cons pu_int (pu_cons (pu_ixO (by rfl) (PuE.g (pu_var 2)) (PuE.g (pu_neg (PuE.g pu_int)))) pu_nil)))) (PuE.g (pu_var 0)))))) pu_non (pu_var 2)))))⟩
abbrev s__law_flat_through : Stmt := topS 56
abbrev N__law_flat_through : List Str := ["row", "rows", "size", "numbers"]
theorem sc__law_flat_through : FnScope N__law_flat_through ["row", "rows"] (defScope s__law_flat_through) := ⟨rfl, rfl, rfl, by decide +kernel, rfl, by decide +kernel, by decide +kernel⟩
theorem ok__law_flat_through (F : DefAt K mg "_law_flat_through" s__law_flat_through) (C__law_flat : Cal P w K mg base 7 "_law_flat" ["size", "equations"] S__law_flat) (C__law_nothing : Cal P w K mg base 8 "_law_nothing" ["field", "size", "rows"] S__law_nothing) (C__law_dot : Cal P w K mg base 4 "_law_dot" ["one", "other"] S__law_dot) (m_len : mg "len" = none) : Cal P w K mg base 9 "_law_flat_through" ["row", "rows"] S__law_flat_through := by
  obtain ⟨f__law_flat, d__law_flat, c__law_flat⟩ := C__law_flat
  obtain ⟨f__law_nothing, d__law_nothing, c__law_nothing⟩ := C__law_nothing
  obtain ⟨f__law_dot, d__law_dot, c__law_dot⟩ := C__law_dot
  have sc := sc__law_flat_through
  refine fn_pure (N := N__law_flat_through) (T := T__law_flat_through) [] F sc l__law_flat_through (by decide) (fun _ _ _ _ _ _ us hl => match us, hl with | [_, _], _ => rfl) (fun f cd A outer s H G0 H0 E hr => ?_) m__law_flat_through
  exact ⟨_, (pus_cons (pus_set 2 (pu_lenO (by rfl) (by rfl) m_len (PuE.g (pu_var 0))) sc.nd (by rfl) (by first | exact .inl rfl | exact .inr rfl) offN)
  (pus_one (pus_ret (pu_callO (by rfl) c__law_flat.F (hr.mono (by decide)) (by rfl) c__law_flat.at_ c__law_flat.kp c__law_flat.b (pu_cons (pu_var 2) (pu_cons (PuF.en (pu_lc (own := [("numbers", 3)]) (by rfl) sc.nd (pui_seqO (by rfl) (pu_callO (by rfl) c__law_nothing.F (hr.mono (by decide)) (by rfl) c__law_nothing.at_ c__law_nothing.kp c__law_nothing.b (pu_cons pu_int (pu_cons (pu_var 2) (pu_cons (pu_var 1) pu_nil))))) (blkN (N := N__law_flat_through) (sc := defScope s__law_flat_through) (by rfl) (by decide +kernel) (by decide +kernel) (by decide +kernel) (by decide +kernel)) (fun _ _ _ _ _ => by exact (pug_name 3 sc.nd (by rfl) (by first | exact .inl rfl | exact .inr rfl) (by exact notIn_of rfl) offN)) (fun _ _ _ _ _ => by exact puts_nil) (fun _ _ _ _ _ => by exact (pu_addO (by rfl) (PuE.g (pu_var 3)) (PuE.g (pu_tup (pu_cons (pu_callO (by rfl) c__law_dot.F (hr.mono (by decide)) (by rfl) c__law_dot.at_ c__law_dot.kp c__law_dot.b (pu_cons (pu_var 3) (pu_cons (pu_var 0) pu_nil))) pu_nil))))) (by decide) offNs)) pu_nil))))))⟩
abbrev s__law_point : Stmt := topS 57
abbrev N__law_point : List Str := ["row", "at"]
theorem sc__law_point : FnScope N__law_point ["row"] (defScope s__law_point) := ⟨rfl, rfl, rfl, by decide +kernel, rfl, by decide +kernel, by decide +kernel⟩
theorem ok__law_point (F : DefAt K mg "_law_point" s__law_point) (C__law_unit : Cal P w K mg base 3 "_law_unit" ["field", "size", "at"] S__law_unit) (m_tuple : mg "tuple" = none) (m_range : mg "range" = none) (m_len : mg "len" = none) : Cal P w K mg base 4 "_law_point" ["row"] S__law_point := by
  obtain ⟨f__law_unit, d__law_unit, c__law_unit⟩ := C__law_unit
  have sc := sc__law_point
  refine fn_pure (N := N__law_point) (T := T__law_point) [] F sc l__law_point (by decide) (fun _ _ _ _ _ _ us hl => match us, hl with | [_], _ => rfl) (fun f cd A outer s H G0 H0 E hr => ?_) m__law_point
  exact ⟨_, (pus_one (pus_ret (pu_tupO (by rfl) (by rfl) m_tuple (PuF.g (pu_lc (own := [("at", 1)]) (by rfl) sc.nd (pui_range1 (by rfl) m_range (pu_lenO (by rfl) (by rfl) m_len (PuE.g (pu_var 0)))) (blkN (N := N__law_point) (sc := defScope s__law_point) (by rfl) (by decide +kernel) (by decide +kernel) (by decide +kernel) (by decide +kernel)) (fun _ _ _ _ _ => by exact (pug_name 1 sc.nd (by rfl) (by first | exact .inl rfl | exact .inr rfl) (by exact notIn_of rfl) offN)) (fun _ _ _ _ _ => by exact puts_nil) (fun _ _ _ _ _ => by exact (pu_addO (by rfl) (PuE.g (pu_callO (by rfl) c__law_unit.F (hr.mono (by decide)) (by rfl) c__law_unit.at_ c__law_unit.kp c__law_unit.b (pu_cons pu_int (pu_cons (pu_lenO (by rfl) (by rfl) m_len (PuE.g (pu_var 0))) (pu_cons (pu_var 1) pu_nil))))) (PuE.g (pu_tup (pu_cons (pu_ixO (by rfl) (PuE.g (pu_var 0)) (PuE.g (pu_var 1))) pu_nil))))) (by decide) offNs)))))⟩
abbrev s__law_is_small : Stmt := topS 58
abbrev N__law_is_small : List Str := ["flat", "row", "number"]
theorem sc__law_is_small : FnScope N__law_is_small ["flat"] (defScope s__law_is_small) := ⟨rfl, rfl, rfl, by decide +kernel, rfl, by decide +kernel, by decide +kernel⟩
theorem ok__law_is_small (F : DefAt K mg "_law_is_small" s__law_is_small) (m_len : mg "len" = none) (m_abs : mg "abs" = none) : Cal P w K mg base 1 "_law_is_small" ["flat"] S__law_is_small := by
  have sc := sc__law_is_small
  refine fn_pure (N := N__law_is_small) (T := T__law_is_small) [] F sc l__law_is_small (by decide) (fun _ _ _ _ _ _ us hl => match us, hl with | [_], _ => rfl) (fun f cd A outer s H G0 H0 E hr => ?_) m__law_is_small
  exact ⟨_, (pus_cons (pus_for PassesOwn.never (by rfl) (pui_seqO (by rfl) (pu_var 0)) (pug_name 1 sc.nd (by rfl) (by first | exact .inl rfl | exact .inr rfl) (by exact notIn_of rfl) offN)
   (pus_one (pus_if (put_cmp op_gt ops_gt (PuE.g (pu_lenO (by rfl) (by rfl) m_len (PuF.g (pu_lc (own := [("number", 2)]) (by rfl) sc.nd (pui_seqO (by rfl) (pu_var 1)) (blkN (N := N__law_is_small) (sc := defScope s__law_is_small) (by rfl) (by decide +kernel) (by decide +kernel) (by decide +kernel) (by decide +kernel)) (fun _ _ _ _ _ => by exact (pug_name 2 sc.nd (by rfl) (by first | exact .inl rfl | exact .inr rfl) (by exact notIn_of rfl) offN)) (fun _ _ _ _ _ => by exact (puts_one (PuW.pt (puw_or (put_cmp op_gt ops_gt (PuE.g (pu_absO (by rfl) m_abs (PuE.g (pu_ixO (by rfl) (PuE.g (pu_var 2)) (PuE.g pu_int))))) (PuE.g pu_int) (nomark _)) (puw_or1 (put_cmp op_gt ops_gt (PuE.g (pu_ixO (by rfl) (PuE.g (pu_var 2)) (PuE.g pu_int))) (PuE.g pu_int) (nomark _))))))) (fun _ _ _ _ _ => by exact (pu_var 2)) (by decide) offNs)))) (PuE.g pu_int) (nomark _))
   (pus_one (pus_ret pu_bl))
   pus_nil)))
  (pus_one (pus_ret pu_bl)))⟩
abbrev s__law_drawn_flat : Stmt := topS 59
abbrev N__law_drawn_flat : List Str := ["deal", "size", "row", "found"]
theorem sc__law_drawn_flat : FnScope N__law_drawn_flat ["deal", "size"] (defScope s__law_drawn_flat) := ⟨rfl, rfl, rfl, by decide +kernel, rfl, by decide +kernel, by decide +kernel⟩
theorem ok__law_drawn_flat (F : DefAt K mg "_law_drawn_flat" s__law_drawn_flat) (C__law_row : CalD P w K mg base 4 "_law_row" ["deal", "field", "size", "most"] S__law_row) (C__law_flat_through : Cal P w K mg base 9 "_law_flat_through" ["row", "rows"] S__law_flat_through) (C__law_rows : CalD P w K mg base 5 "_law_rows" ["deal", "field", "many", "size", "most"] S__law_rows) (C__law_is_small : Cal P w K mg base 1 "_law_is_small" ["flat"] S__law_is_small) (C__law_any : CalD P w K mg base 1 "_law_any" ["deal", "bound"] S__law_any) (C__law_point : Cal P w K mg base 4 "_law_point" ["row"] S__law_point) : CalD P w K mg base 10 "_law_drawn_flat" ["deal", "size"] S__law_drawn_flat := by
  obtain ⟨f__law_row, d__law_row, c__law_row⟩ := C__law_row
  obtain ⟨f__law_flat_through, d__law_flat_through, c__law_flat_through⟩ := C__law_flat_through
  obtain ⟨f__law_rows, d__law_rows, c__law_rows⟩ := C__law_rows
  obtain ⟨f__law_is_small, d__law_is_small, c__law_is_small⟩ := C__law_is_small
  obtain ⟨f__law_any, d__law_any, c__law_any⟩ := C__law_any
  obtain ⟨f__law_point, d__law_point, c__law_point⟩ := C__law_point
  have sc := sc__law_drawn_flat
  refine fn_deal (N := N__law_drawn_flat) (T := T__law_drawn_flat) [] F sc l__law_drawn_flat (by decide) (fun _ _ _ _ _ _ us hl => match us, hl with | [_, _], _ => rfl) (fun f cd A outer s H G0 H0 E a c hr => ?_) m__law_drawn_flat
  exact ⟨_, (pus_cons (pus_set 2 (pu_callDO (by rfl) (by rfl) c__law_row.F (hr.mono (by decide)) (by rfl) c__law_row.at_ c__law_row.kp c__law_row.b (by rfl) (pu_cons pu_int (pu_cons (pu_var 1) (pu_cons pu_int pu_nil)))) sc.nd (by rfl) (by first | exact .inl rfl | exact .inr rfl) (offS (by decide)))
  (pus_cons (pus_set 3 (pu_callO (by rfl) c__law_flat_through.F (hr.mono (by decide)) (by rfl) c__law_flat_through.at_ c__law_flat_through.kp c__law_flat_through.b (pu_cons (pu_var 2) (pu_cons (pu_callDO (by rfl) (by rfl) c__law_rows.F (hr.mono (by decide)) (by rfl) c__law_rows.at_ c__law_rows.kp c__law_rows.b (by rfl) (pu_cons pu_int (pu_cons (pu_callDO (by rfl) (by rfl) c__law_any.F (hr.mono (by decide)) (by rfl) c__law_any.at_ c__law_any.kp c__law_any.b (by rfl) (pu_cons (pu_addO (by rfl) (PuE.g (pu_var 1)) (PuE.g pu_int)) pu_nil)) (pu_cons (pu_var 1) (pu_cons pu_int pu_nil))))) pu_nil))) sc.nd (by rfl) (by first | exact .inl rfl | exact .inr rfl) (offS (by decide)))
  (pus_one (pus_ret (pu_ifExp (put_val (pu_callO (by rfl) c__law_is_small.F (hr.mono (by decide)) (by rfl) c__law_is_small.at_ c__law_is_small.kp c__law_is_small.b (pu_cons (pu_var 3) pu_nil))) (pu_var 3) (pu_sliceO (by rfl) (PuE.g (pu_callO (by rfl) c__law_point.F (hr.mono (by decide)) (by rfl) c__law_point.at_ c__law_point.kp c__law_point.b (pu_cons (pu_var 2) pu_nil))) puo_none (puo_some (pu_callDO (by rfl) (by rfl) c__law_any.F (hr.mono (by decide)) (by rfl) c__law_any.at_ c__law_any.kp c__law_any.b (by rfl) (pu_cons (pu_addO (by rfl) (PuE.g (pu_var 1)) (PuE.g pu_int)) pu_nil)))))))))⟩
abbrev s__law_is_flat : Stmt := topS 60
abbrev N__law_is_flat : List Str := ["size", "value", "row"]
theorem sc__law_is_flat : FnScope N__law_is_flat ["size", "value"] (defScope s__law_is_flat) := ⟨rfl, rfl, rfl, by decide +kernel, rfl, by decide +kernel, by decide +kernel⟩
theorem ok__law_is_flat (F : DefAt K mg "_law_is_flat" s__law_is_flat) (C__law_has_form : Cal P w K mg base 3 "_law_has_form" ["field", "size", "value"] S__law_has_form) (C__law_is_room : Cal P w K mg base 3 "_law_is_room" ["field", "size", "value"] S__law_is_room) (C__law_head : Cal P w K mg base 2 "_law_head" ["field", "row"] S__law_head) (m_len : mg "len" = none) : Cal P w K mg base 4 "_law_is_flat" ["size", "value"] S__law_is_flat := by
  obtain ⟨f__law_has_form, d__law_has_form, c__law_has_form⟩ := C__law_has_form
  obtain ⟨f__law_is_room, d__law_is_room, c__law_is_room⟩ := C__law_is_room
  obtain ⟨f__law_head, d__law_head, c__law_head⟩ := C__law_head
  have sc := sc__law_is_flat
  refine fn_pure (N := N__law_is_flat) (T := T__law_is_flat) [] F sc l__law_is_flat (by decide) (fun _ _ _ _ _ _ us hl => match us, hl with | [_, _], _ => rfl) (fun f cd A outer s H G0 H0 E hr => ?_) m__law_is_flat
  exact ⟨_, (pus_cons (pus_if (PuW.pt (puw_or (put_not (put_val (pu_callO (by rfl) c__law_has_form.F (hr.mono (by decide)) (by rfl) c__law_has_form.at_ c__law_has_form.kp c__law_has_form.b (pu_cons pu_int (pu_cons (pu_addO (by rfl) (PuE.g (pu_var 0)) (PuE.g pu_int)) (pu_cons (pu_var 1) pu_nil)))))) (puw_or1 (put_not (put_val (pu_callO (by rfl) c__law_is_room.F (hr.mono (by decide)) (by rfl) c__law_is_room.at_ c__law_is_room.kp c__law_is_room.b (pu_cons pu_int (pu_cons (pu_addO (by rfl) (PuE.g (pu_var 0)) (PuE.g pu_int)) (pu_cons (pu_var 1) pu_nil)))))))))
   (pus_one (pus_ret pu_bl))
   pus_nil)
  (pus_one (pus_ret (pu_eqO (by rfl) hr.units (PuE.g (pu_lenO (by rfl) (by rfl) m_len (PuF.g (pu_lc (own := [("row", 2)]) (by rfl) sc.nd (pui_seqO (by rfl) (pu_var 1)) (blkN (N := N__law_is_flat) (sc := defScope s__law_is_flat) (by rfl) (by decide +kernel) (by decide +kernel) (by decide +kernel) (by decide +kernel)) (fun _ _ _ _ _ => by exact (pug_name 2 sc.nd (by rfl) (by first | exact .inl rfl | exact .inr rfl) (by exact notIn_of rfl) offN)) (fun _ _ _ _ _ => by exact (puts_one (put_eqO (by rfl) hr.units (PuE.g (pu_callO (by rfl) c__law_head.F (hr.mono (by decide)) (by rfl) c__law_head.at_ c__law_head.kp c__law_head.b (pu_cons pu_int (pu_cons (pu_var 2) pu_nil)))) (PuE.g (pu_var 0))))) (fun _ _ _ _ _ => by exact (pu_var 2)) (by decide) offNs)))) (PuE.g pu_int)))))⟩
abbrev s__law_bent : Stmt := topS 61
abbrev N__law_bent : List Str := ["deal", "size", "flat", "found", "row", "at", "bent", "other"]
theorem sc__law_bent : FnScope N__law_bent ["deal", "size", "flat"] (defScope s__law_bent) := ⟨rfl, rfl, rfl, by decide +kernel, rfl, by decide +kernel, by decide +kernel⟩
theorem ok__law_bent (F : DefAt K mg "_law_bent" s__law_bent) (C__law_scaled : Cal P w K mg base 4 "_law_scaled" ["field", "number", "row"] S__law_scaled) (C__law_with : Cal P w K mg base 1 "_law_with" ["row", "at", "value"] S__law_with) (C__law_zeros : Cal P w K mg base 2 "_law_zeros" ["field", "size"] S__law_zeros) (C__law_any : CalD P w K mg base 1 "_law_any" ["deal", "bound"] S__law_any) (m_range : mg "range" = none) (m_list : mg "list" = none) (m_len : mg "len" = none) (m_tuple : mg "tuple" = none) : CalD P w K mg base 5 "_law_bent" ["deal", "size", "flat"] S__law_bent := by
  obtain ⟨f__law_scaled, d__law_scaled, c__law_scaled⟩ := C__law_scaled
  obtain ⟨f__law_with, d__law_with, c__law_with⟩ := C__law_with
  obtain ⟨f__law_zeros, d__law_zeros, c__law_zeros⟩ := C__law_zeros
  obtain ⟨f__law_any, d__law_any, c__law_any⟩ := C__law_any
  have sc := sc__law_bent
  refine fn_deal (N := N__law_bent) (T := T__law_bent) [] F sc l__law_bent (by decide) (fun _ _ _ _ _ _ us hl => match us, hl with | [_, _, _], _ => rfl) (fun f cd A outer s H G0 H0 E a c hr => ?_) m__law_bent
  exact ⟨_, (pus_cons (pus_set 3 (PuF.en (pu_lst (pu_cons (PuF.en (pu_listO (by rfl) (by rfl) m_list (PuE.g (pu_var 2)))) (pu_cons (pu_addO (by rfl) (PuE.g (pu_var 2)) (PuE.g (pu_tup (pu_cons (pu_addO (by rfl) (PuE.g (pu_callO (by rfl) c__law_zeros.F (hr.mono (by decide)) (by rfl) c__law_zeros.at_ c__law_zeros.kp c__law_zeros.b (pu_cons pu_int (pu_cons (pu_var 1) pu_nil)))) (PuE.g (pu_tup (pu_cons (pu_tup (pu_cons pu_int (pu_cons pu_int pu_nil))) pu_nil)))) pu_nil)))) (pu_cons (pu_addO (by rfl) (PuE.g (pu_var 2)) (PuE.g (pu_tup (pu_cons (pu_callO (by rfl) c__law_zeros.F (hr.mono (by decide)) (by rfl) c__law_zeros.at_ c__law_zeros.kp c__law_zeros.b (pu_cons pu_int (pu_cons (pu_addO (by rfl) (PuE.g (pu_var 1)) (PuE.g pu_int)) pu_nil))) pu_nil)))) (pu_cons (pu_revTO (by rfl) (PuE.g (pu_var 2))) (pu_cons (pu_addO (by rfl) (PuE.g (pu_var 2)) (PuE.g (pu_sliceO (by rfl) (PuE.g (pu_var 2)) puo_none (puo_some pu_int)))) pu_nil))))))) sc.nd (by rfl) (by first | exact .inl rfl | exact .inr rfl) (offS (by decide)))
  (pus_cons (pus_set 3 (pu_addO (by rfl) (PuE.g (pu_var 3)) (PuF.g (pu_lst (pu_cons (pu_tupO (by rfl) (by rfl) m_tuple (PuF.g (pu_lc (own := [("row", 4)]) (by rfl) sc.nd (pui_seqO (by rfl) (pu_var 2)) (blkN (N := N__law_bent) (sc := defScope s__law_bent) (by rfl) (by decide +kernel) (by decide +kernel) (by decide +kernel) (by decide +kernel)) (fun _ _ _ _ _ => by exact (pug_name 4 sc.nd (by rfl) (by first | exact .inl rfl | exact .inr rfl) (by exact notIn_of rfl) (offS (by decide)))) (fun _ _ _ _ _ => by exact puts_nil) (fun _ _ _ _ _ => by exact (PuF.en (pu_listO (by rfl) (by rfl) m_list (PuE.g (pu_var 4))))) (by decide) (offSs (by decide))))) (pu_cons (pu_tup (pu_cons (pu_var 2) pu_nil)) pu_nil))))) sc.nd (by rfl) (by first | exact .inl rfl | exact .inr rfl) (offS (by decide)))
  (pus_cons (pus_for PassesOwn.never (by rfl) (pui_range1 (by rfl) m_range (pu_lenO (by rfl) (by rfl) m_len (PuE.g (pu_var 2)))) (pug_name 5 sc.nd (by rfl) (by first | exact .inl rfl | exact .inr rfl) (by exact notIn_of rfl) (offS (by decide)))
   (pus_cons (pus_set 4 (pu_ixO (by rfl) (PuE.g (pu_var 2)) (PuE.g (pu_var 5))) sc.nd (by rfl) (by first | exact .inl rfl | exact .inr rfl) (offS (by decide)))
  (pus_cons (pus_set 6 (PuF.en (pu_lst (pu_cons (pu_sliceO (by rfl) (PuE.g (pu_var 4)) puo_none (puo_some (pu_neg (PuE.g pu_int)))) (pu_cons (pu_addO (by rfl) (PuE.g (pu_var 4)) (PuE.g (pu_tup (pu_cons (pu_tup (pu_cons pu_int (pu_cons pu_int pu_nil))) pu_nil)))) (pu_cons (pu_callO (by rfl) c__law_scaled.F (hr.mono (by decide)) (by rfl) c__law_scaled.at_ c__law_scaled.kp c__law_scaled.b (pu_cons pu_int (pu_cons (pu_tup (pu_cons pu_int (pu_cons pu_int pu_nil))) (pu_cons (pu_var 4) pu_nil)))) (pu_cons (pu_callO (by rfl) c__law_with.F (hr.mono (by decide)) (by rfl) c__law_with.at_ c__law_with.kp c__law_with.b (pu_cons (pu_var 4) (pu_cons (pu_callDO (by rfl) (by rfl) c__law_any.F (hr.mono (by decide)) (by rfl) c__law_any.at_ c__law_any.kp c__law_any.b (by rfl) (pu_cons (pu_addO (by rfl) (PuE.g (pu_var 1)) (PuE.g pu_int)) pu_nil)) (pu_cons (pu_tup (pu_cons pu_int (pu_cons pu_int pu_nil))) pu_nil)))) pu_nil)))))) sc.nd (by rfl) (by first | exact .inl rfl | exact .inr rfl) (offS (by decide)))
  (pus_cons (pus_set 6 (pu_addO (by rfl) (PuE.g (pu_var 6)) (PuF.g (pu_lst (pu_cons (pu_callO (by rfl) c__law_with.F (hr.mono (by decide)) (by rfl) c__law_with.at_ c__law_with.kp c__law_with.b (pu_cons (pu_var 4) (pu_cons (pu_var 1) (pu_cons pu_bl pu_nil)))) (pu_cons (pu_callO (by rfl) c__law_with.F (hr.mono (by decide)) (by rfl) c__law_with.at_ c__law_with.kp c__law_with.b (pu_cons (pu_var 4) (pu_cons (pu_var 1) (pu_cons (pu_tup (pu_cons pu_bl (pu_cons pu_int pu_nil))) pu_nil)))) (pu_cons (pu_callO (by rfl) c__law_with.F (hr.mono (by decide)) (by rfl) c__law_with.at_ c__law_with.kp c__law_with.b (pu_cons (pu_var 4) (pu_cons (pu_var 1) (pu_cons (pu_tup (pu_cons pu_int (pu_cons pu_int pu_nil))) pu_nil)))) (pu_cons (pu_callO (by rfl) c__law_with.F (hr.mono (by decide)) (by rfl) c__law_with.at_ c__law_with.kp c__law_with.b (pu_cons (pu_var 4) (pu_cons (pu_var 1) (pu_cons (pu_tup (pu_cons pu_int (pu_cons (pu_op op_sub ops_sub (PuE.g pu_int) (PuE.g pu_int)) pu_nil))) pu_nil)))) pu_nil))))))) sc.nd (by rfl) (by first | exact .inl rfl | exact .inr rfl) (offS (by decide)))
  (pus_cons (pus_set 6 (pu_addO (by rfl) (PuE.g (pu_var 6)) (PuF.g (pu_lst (pu_cons (pu_callO (by rfl) c__law_with.F (hr.mono (by decide)) (by rfl) c__law_with.at_ c__law_with.kp c__law_with.b (pu_cons (pu_var 4) (pu_cons (pu_var 1) (pu_cons (PuF.en (pu_lst (pu_cons pu_int (pu_cons pu_int pu_nil)))) pu_nil)))) (pu_cons (pu_callO (by rfl) c__law_with.F (hr.mono (by decide)) (by rfl) c__law_with.at_ c__law_with.kp c__law_with.b (pu_cons (pu_var 4) (pu_cons (pu_var 1) (pu_cons pu_non pu_nil)))) (pu_cons (pu_callO (by rfl) c__law_with.F (hr.mono (by decide)) (by rfl) c__law_with.at_ c__law_with.kp c__law_with.b (pu_cons (pu_var 4) (pu_cons (pu_callDO (by rfl) (by rfl) c__law_any.F (hr.mono (by decide)) (by rfl) c__law_any.at_ c__law_any.kp c__law_any.b (by rfl) (pu_cons (pu_var 1) pu_nil)) (pu_cons (pu_tup (pu_cons pu_int (pu_cons pu_int pu_nil))) pu_nil)))) (pu_cons pu_non (pu_cons pu_int (pu_cons (pu_tup pu_nil) pu_nil))))))))) sc.nd (by rfl) (by first | exact .inl rfl | exact .inr rfl) (offS (by decide)))
  (pus_one (pus_set 3 (pu_addO (by rfl) (PuE.g (pu_var 3)) (PuF.g (pu_lc (own := [("other", 7)]) (by rfl) sc.nd (pui_seqO (by rfl) (pu_var 6)) (blkN (N := N__law_bent) (sc := defScope s__law_bent) (by rfl) (by decide +kernel) (by decide +kernel) (by decide +kernel) (by decide +kernel)) (fun _ _ _ _ _ => by exact (pug_name 7 sc.nd (by rfl) (by first | exact .inl rfl | exact .inr rfl) (by exact notIn_of rfl) (offS (by decide)))) (fun _ _ _ _ _ => by exact puts_nil) (fun _ _ _ _ _ => by exact (pu_callO (by rfl) c__law_with.F (hr.mono (by decide)) (by rfl) c__law_with.at_ c__law_with.kp c__law_with.b (pu_cons (pu_var 2) (pu_cons (pu_var 5) (pu_cons (pu_var 7) pu_nil))))) (by decide) (offSs (by decide))))) sc.nd (by rfl) (by first | exact .inl rfl | exact .inr rfl) (offS (by decide)))))))))
  (pus_one (pus_ret (pu_var 3))))))⟩
end
end PU
set_option Elab.async false
set_option linter.all false
set_option maxRecDepth 100000
set_option maxHeartbeats 4000000
namespace PU
open PySem PySem.Spec PyProof.Rows L2
section
variable {P : Program} {w : World} {K : PySem.W.Frag} {mg : Str → Option Value} {base : Heap}
abbrev s__law_any : Stmt := topS 22
abbrev N__law_any : List Str := ["deal", "bound", "rest"]
theorem sc__law_any : FnScope N__law_any ["deal", "bound"] (defScope s__law_any) := ⟨rfl, rfl, rfl, by decide +kernel, rfl, by decide +kernel, by decide +kernel⟩
theorem rd0 {K : PySem.W.Frag} {σ : L2.St} {H : Hp} {a c : Addr} {m : Int} {Q : VK} (hs : σ[0]? = some (some (.ref a))) (h : H a = some (.lst [.ref c, .int m])) (hQ : Q (.ref c) H) : tOp (rIx K) (tVar 0) (tC (.int 0)) σ H Q :=
  ⟨_, hs, .inl ⟨a, _, 0, .ref c, rfl, rfl, SqL.of h, by simp, hQ⟩⟩
theorem rd1 {K : PySem.W.Frag} {σ : L2.St} {H : Hp} {a c : Addr} {m : Int} {Q : VK} (hs : σ[0]? = some (some (.ref a))) (h : H a = some (.lst [.ref c, .int m])) (hQ : Q (.int m) H) : tOp (rIx K) (tVar 0) (tC (.int 1)) σ H Q :=
  ⟨_, hs, .inl ⟨a, _, 1, .int m, rfl, rfl, SqL.of h, by simp, hQ⟩⟩
/-- the drawn state as it goes on -/
structure DIv (dd : Dl) (H H' : Hp) (xs : List Int) (m : Int) : Prop where
  ha : H' dd.a = some (.lst [.ref dd.c, .int m])
  hc : H' dd.c = some (.lst (xs.map V.int))
  hl : xs.length ≤ 63
  hm : m.natAbs < 1099511627776
  hs : Same (Hm (some dd) H) (Hm (some dd) H')
theorem DIv.setc {dd : Dl} {H H' : Hp} {xs : List Int} {m : Int} (h : DIv dd H H' xs m) (ne : dd.a ≠ dd.c) (ys : List Int) (hl : ys.length ≤ 63) : DIv dd H (upd H' dd.c (.lst (ys.map V.int))) ys m :=
  ⟨by rw [upd_ne ne]; exact h.ha, upd_same, hl, h.hm, fun b o q => by
    have := h.hs b o q
    rw [Hm_sm] at this ⊢
    split at this
    · cases this
    · rename_i hn
      rw [if_neg hn, upd_ne (fun z => hn (.inr z))]; exact this⟩
theorem DIv.seta {dd : Dl} {H H' : Hp} {xs : List Int} {m : Int} (h : DIv dd H H' xs m) (ne : dd.a ≠ dd.c) (n : Int) (hn : n.natAbs < 1099511627776) : DIv dd H (upd H' dd.a (.lst [.ref dd.c, .int n])) xs n :=
  ⟨upd_same, by rw [upd_ne (Ne.symm ne)]; exact h.hc, h.hl, hn, fun b o q => by
    have := h.hs b o q
    rw [Hm_sm] at this ⊢
    split at this
    · cases this
    · rename_i hn
      rw [if_neg hn, upd_ne (fun z => hn (.inl z))]; exact this⟩
theorem last_get {xs : List Int} (h : xs ≠ []) : (xs.map V.int)[(xs.map V.int).length - 1]? = some (.int (xs.getLast h)) := by
  have hp := List.length_pos_iff.mpr h
  rw [List.length_map, List.getElem?_map, List.getElem?_eq_getElem (by omega), List.getLast_eq_getElem]; rfl
theorem any_loop {K : PySem.W.Frag} {dd : Dl} {H : Hp} {b : V} {D : Ends} (ne : dd.a ≠ dd.c) (hnx : ∀ H' xs m, DIv dd H H' xs m → D.nx [some (.ref dd.a), some b, none] H') (H0 : Hp) (xs0 : List Int) (m0 : Int) (h0 : DIv dd H H0 xs0 m0) :
    tWhile (tAnd (tTest (tOp (rI0 fun i j => .bl (decide (j < i))) (tCB (rLen K) (tCons (tOp (rIx K) (tVar 0) (tC (.int 0))) tNil)) (tC (.int 0)))) (tTest (tOp rEq (tOp (rIx K) (tOp (rIx K) (tVar 0) (tC (.int 0))) (tUn (rU fun i => .int (-i)) (tC (.int 1)))) (tC (.int 0)))))
      (tDrop (tBM0 K "list" rPop (tOp (rIx K) (tVar 0) (tC (.int 0))))) D [some (.ref dd.a), some b, none] H0 := by
  refine ⟨fun k σ' H' => σ' = [some (.ref dd.a), some b, none] ∧ ∃ xs m, k = xs.length ∧ DIv dd H H' xs m, ⟨_, rfl, xs0, m0, rfl, h0⟩, ?_⟩
  rintro k σ' H' ⟨rfl, xs, m, rfl, i⟩
  refine rd0 rfl i.ha ?_
  refine ⟨_, xs.length, rfl, .inl ⟨_, SqL.of i.hc, by simp⟩, _, _, rfl, rfl, _, rfl, ?_⟩
  by_cases hx : xs = []
  · subst hx
    dsimp only
    rw [if_neg (by simp)]
    rw [if_neg (by simp)]
    exact hnx _ _ _ i
  · have hp := List.length_pos_iff.mpr hx
    have hne2 : xs.map V.int ≠ [] := by simpa using hx
    dsimp only
    rw [if_pos (decide_eq_true (by omega))]
    refine rd0 rfl i.ha ?_
    refine ⟨1, rfl, .inl ⟨dd.c, _, -1, .int (xs.getLast hx), rfl, rfl, SqL.of i.hc, by rw [atI_end hne2, List.getLast_map], rfl, _, rfl, ?_⟩⟩
    by_cases hz : xs.getLast hx = 0
    · dsimp only
      rw [if_pos (decide_eq_true (by rw [hz]))]
      refine ⟨fun σ' H' => σ' = [some (.ref dd.a), some b, none] ∧ ∃ ys m, ys.length < xs.length ∧ DIv dd H H' ys m, ?_, ?_⟩
      · rintro σ' H2 ⟨rfl, ys, m', hlt, i2⟩
        exact ⟨_, hlt, rfl, ys, m', rfl, i2⟩
      · refine rd0 rfl i.ha ?_
        refine ⟨.inl ⟨rfl, _, SqL.of i.hc⟩, dd.c, _, .int (xs.getLast hx), rfl, rfl, i.hc, last_get hx, rfl, xs.dropLast, m, by simp; omega, ?_⟩
        have := i.setc ne xs.dropLast (by have := i.hl; simp; omega)
        rwa [List.map_dropLast] at this
    · dsimp only
      rw [if_neg (by rw [decide_eq_true_eq]; intro z; exact hz (V.int.inj z))]
      exact hnx _ _ _ i
theorem ok__law_any (F : DefAt K mg "_law_any" s__law_any) (m_len : mg "len" = none) (m_int : mg "int" = none) : CalD P w K mg base 1 "_law_any" ["deal", "bound"] S__law_any := by
  obtain ⟨f, fd, hm, F⟩ := F
  have sc := sc__law_any
  refine ⟨f, fd, hm, F.kp, F.bindsN (fun _ _ _ _ _ _ us hl => match us, hl with | [_, _], _ => rfl), F.ok (N := N__law_any) sc ?_ ?_⟩
  · rintro vs H Q E ⟨G, ds, R, dd, vs', rfl, _, _, r, hS, _⟩
    have := l__law_any ds R hS
    rw [List.length_cons, r.length, this]; rfl
  rintro cd A outer s H vs Q E hr ⟨G, ds, R, dd, vs', rfl, g1, dl, r, hS, hQ⟩
  match ds, hS with
  | [.int b], hS =>
  obtain ⟨hb1, hb2, hR⟩ := hS
  cases r with
  | cons r1 r2 =>
  cases r2
  cases r1
  refine ⟨_, PSs.nox (X := cxOf CX0 P w K mg base N__law_any "_law_any" (defScope s__law_any) f cd A outer s H E) (pss_cons (ps_while PassesOwn.never (PW.pt (pw_and (pt_cmpR op_gt (pe_callB call_len (by rfl) m_len boot_len (pa_cons (pe_ix ix_seq (pv 0) pe_int (fun _ _ => rfl)) pa_nil)) pe_int (nomark _)) (pw_and1 (pt_cmpR op_eq (pe_ix ix_seq (pe_ix ix_seq (pv 0) pe_int (fun _ _ => rfl)) (pe_un un_neg pe_int) (fun _ _ => rfl)) pe_int (nomark _)))))
      (pss_one (ps_expr (pe_bm0 PySem.F.plainAttrs_list PySem.F.slot_list_pop PySem.F.type_list_pop mt_pop (pe_ix ix_seq (pv 0) pe_int (fun _ _ => rfl))))))
    (pss_cons (ps_if (pt_cmpR op_gt (pe_callB call_len (by rfl) m_len boot_len (pa_cons (pe_ix ix_seq (pv 0) pe_int (fun _ _ => rfl)) pa_nil)) pe_int (nomark _))
      (pss_cons (ps_set (i := 2) sc.nd (by rfl) (.inl rfl) (pe_callTy call_int1 (by rfl) m_int boot_int (pa_cons (pe_bm0 PySem.F.plainAttrs_list PySem.F.slot_list_pop PySem.F.type_list_pop mt_pop (pe_ix ix_seq (pv 0) pe_int (fun _ _ => rfl))) pa_nil)))
        (pss_cons (ps_expr (pe_bm PySem.F.plainAttrs_list PySem.F.slot_list_append PySem.F.type_list_append mt_append (pe_ix ix_seq (pv 0) pe_int (fun _ _ => rfl)) (pa_cons (pe_op op_fdivX (pv 2) (pv 1)) pa_nil)))
          (pss_one (ps_ret (pe_op op_modN (pv 2) (pv 1))))))
      pss_nil)
    (pss_cons (ps_asg (pe_op op_modN (pe_callTy call_int1 (by rfl) m_int boot_int (pa_cons (pe_op op_add (pe_op op_mulX (pe_ix ix_seq (pv 0) pe_int (fun _ _ => rfl)) pe_int) pe_int) pa_nil)) pe_int) (pg_sub (pv 0) pe_int set_list (fun _ => rfl)))
    (pss_one (ps_ret (pe_op op_modN (pe_callTy call_int1 (by rfl) m_int boot_int (pa_cons (pe_op op_fdivX (pe_ix ix_seq (pv 0) pe_int (fun _ _ => rfl)) pe_int) pa_nil)) (pv 1))))))), ?_⟩
  obtain ⟨xs0, m0, k1, k2, k3, k4⟩ := dl.ex
  have bnz : b ≠ 0 := by omega
  have fin : ∀ H' xs m j, DIv dd H H' xs m → 0 ≤ j → j < b → Q (.int j) H' := fun H' xs m j i h1 h2 => by
    refine hQ (.int j) (.int j) G H' (hR j h1 h2) (Same.refl _) (fun x o q => ?_) i.hs (fun _ _ _ => rfl) ⟨dl.ga, dl.gc, dl.ne, xs, m, i.ha, i.hc, i.hl, i.hm⟩ (.int j)
    have n1 : x ≠ dd.a := fun z => by rw [z, dl.ga] at q; cases q
    have n2 : x ≠ dd.c := fun z => by rw [z, dl.gc] at q; cases q
    exact Hm_some (i.hs x o (by rw [Hm_sm, if_neg (fun z => z.elim n1 n2)]; exact g1 x o q))
  have fm : ∀ a : Int, 0 ≤ a.fmod b ∧ a.fmod b < b := fun a => ⟨Int.fmod_nonneg_of_pos _ (by omega), Int.fmod_lt_of_pos _ (by omega)⟩
  have i0 : DIv dd H H xs0 m0 := ⟨k1, k2, k3, k4, Same.refl _⟩
  refine any_loop (b := .int b) dl.ne (fun H' xs m i => ?_) H xs0 m0 i0
  refine rd0 rfl i.ha ?_
  refine ⟨_, xs.length, rfl, .inl ⟨_, SqL.of i.hc, by simp⟩, _, _, rfl, rfl, _, rfl, ?_⟩
  by_cases hx : xs = []
  · subst hx
    rw [if_neg (by simp)]
    have hmul : MulOk m 48271 := by
      have l1 : m.natAbs.log2 < 40 := log2_lt (show m.natAbs < 2 ^ 40 from i.hm) (by omega)
      have l2 : (48271 : Int).natAbs.log2 < 32 := by decide
      unfold MulOk; omega
    have hmod : ∀ a : Int, 0 ≤ a.fmod 2147483647 ∧ a.fmod 2147483647 < 2147483647 := fun a => ⟨Int.fmod_nonneg_of_pos _ (by decide), Int.fmod_lt_of_pos _ (by decide)⟩
    refine rd1 rfl i.ha ?_
    refine ⟨m, 48271, rfl, rfl, hmul, _, _, rfl, rfl, .inl ⟨_, rfl, _, _, rfl, rfl, (by decide : (2147483647 : Int) ≠ 0), ?_⟩⟩
    refine ⟨_, rfl, dd.a, _, 1, 1, rfl, rfl, i.ha, (rfl : ixN 2 1 = some 1), ?_⟩
    have i2 := i.seta dl.ne ((m * 48271 + 31).fmod 2147483647) (by have := hmod (m * 48271 + 31); omega)
    refine rd1 rfl i2.ha ?_
    refine ⟨_, 64, rfl, rfl, ⟨by decide, by decide⟩, .inl ⟨_, rfl, _, rfl, _, b, rfl, rfl, bnz, ?_⟩⟩
    exact fin _ _ _ _ i2 (fm _).1 (fm _).2
  · have hp := List.length_pos_iff.mpr hx
    dsimp only
    rw [if_pos (decide_eq_true (by omega))]
    refine rd0 rfl i.ha ?_
    refine ⟨.inl ⟨rfl, _, SqL.of i.hc⟩, dd.c, _, .int (xs.getLast hx), rfl, rfl, i.hc, last_get hx, .inl ⟨_, rfl, ?_⟩⟩
    have i2 := i.setc dl.ne xs.dropLast (by have := i.hl; simp; omega)
    rw [List.map_dropLast] at i2
    have e2 := i2
    have hc2 := i2.hc
    refine rd0 rfl i2.ha ?_
    refine ⟨.inl ⟨rfl, _, SqL.of hc2⟩, _, rfl, _, rfl, _, b, rfl, rfl, ⟨bnz, ?_⟩, dd.c, _, _, rfl, rfl, hc2, ?_, ?_⟩
    · exact log2_lt (show b.natAbs < 2 ^ 9000 from Nat.lt_of_lt_of_le (show b.natAbs < 2 ^ 40 by omega) (Nat.pow_le_pow_right (by decide) (by decide))) (by decide)
    · have := i.hl; simp [sizeLine_eq]; omega
    · have i3 := i2.setc dl.ne (xs.dropLast ++ [(xs.getLast hx).fdiv b]) (by have := i.hl; simp; omega)
      rw [List.map_append] at i3
      refine ⟨_, rfl, _, rfl, _, b, rfl, rfl, bnz, ?_⟩
      exact fin _ _ _ _ i3 (fm _).1 (fm _).2
end
end PU
set_option Elab.async false
set_option linter.all false
set_option maxRecDepth 100000
set_option maxHeartbeats 4000000
namespace PU
open PySem PySem.Spec PyProof.Rows L2
def T_dealC : TS' := (sSeq (sAsg (xOp dAdd (xC (.int 70001)) (xOp dMul (xC (.int 7919)) (xVar 1))) (gN 5))
  (sSeq (sFor (xSeq (xVar 3)) (gN 4)
   (sAsg (xOp dMod (xOp1 dIntOf (xOp dAdd (xOp dAdd (xOp dMul (xVar 5) (xC (.int 69621))) (xOp dMod (xOp1 dIntOf (xVar 4)) (xC (.int 2147483563)))) (xC (.int 23)))) (xC (.int 2147483647))) (gN 5)))
  (sRet (xLst (xCons (xRevL (xLc (xSeq (xVar 3)) (gN 4) (xB (xOp dGe (xVar 4) (xOp dPow (xC (.int 10)) (xC (.int 18))))) (xVar 4) [4])) (xCons (xVar 5) xNil))))))
theorem m_dealC (cells : List Int) (most : Int) (a : Option D) (h63 : cells.length ≤ 63) (R : D → Prop) (hR : ∀ (xs : List Int) (m : Int), xs.length ≤ 63 → m.natAbs < 1099511627776 → R (.lst [.lst (xs.map D.int), .int m])) :
    T_dealC { nx := fun _ => False, rt := R } [none, some (.int 800), some (.int most), some (.lst (cells.map D.int)), a, none] := by
  have hmul : ∀ a b : Int, a.natAbs < 4294967296 → b.natAbs < 4294967296 → dMul (.int a) (.int b) = some (.int (a * b)) := fun a b h1 h2 => by
    have l1 : a.natAbs.log2 < 32 := log2_lt (by omega) (by omega)
    have l2 : b.natAbs.log2 < 32 := log2_lt (by omega) (by omega)
    have : MulOk a b := by unfold MulOk; omega
    simp [dMul, this]
  simp [T_dealC, hmul 7919 800 (by decide) (by decide)]
  refine forL_cnt (P := fun i ρ => ∃ mx y, ρ = [none, some (.int 800), some (.int most), some (.lst (cells.map D.int)), y, some (.int mx)] ∧ mx.natAbs < 4294967296) (fun i hi ρ hP D' hD h1 => ?_) (fun ρ' hP => ?_) ⟨_, _, rfl, by omega⟩
  · obtain ⟨mx, y, rfl, hmx⟩ := hP
    simp [hmul mx 69621 hmx (by decide), dMod]
    refine h1 _ ⟨_, _, rfl, ?_⟩
    have hp : ∀ a : Int, 0 ≤ a.fmod 2147483647 ∧ a.fmod 2147483647 < 2147483647 := fun a => ⟨Int.fmod_nonneg_of_pos _ (by decide), Int.fmod_lt_of_pos _ (by decide)⟩
    have := hp (mx * 69621 + (cells[i]'(by simpa using hi)).fmod 2147483563 + 23)
    omega
  · obtain ⟨mx, y, rfl, hmx⟩ := hP
    have e1 : dPow (.int 10) (.int 18) = some (.int (10 ^ 18)) := by simp [dPow]
    simp
    refine lcLoop_plain (p := fun x => match x with | .int i => decide ((10 : Int) ^ 18 ≤ i) | _ => false) (f := fun x => x) (fun x hx k k2 h1 h2 => ?_) ?_
    · obtain ⟨i, _, rfl⟩ := List.mem_map.mp hx
      simp only [wipe', gN_ap, xB_ap, xOp_ap, xVar_ap, xC_ap, List.set_cons_succ, List.set_cons_zero, List.getElem?_cons_succ, List.getElem?_cons_zero, getW_some, e1, ok_some, dGe_ii, isB_bl]
      by_cases h : (10 : Int) ^ 18 ≤ i
      · rw [decide_eq_true h, if_pos rfl]; exact h1 (decide_eq_true h)
      · rw [decide_eq_false h, if_neg Bool.false_ne_true]; exact h2 (decide_eq_false h)
    · obtain ⟨xs, hxs⟩ := all_int (ys := ([] ++ (((cells.map D.int).filter fun x : D => match x with | .int i => decide ((10 : Int) ^ 18 ≤ i) | _ => false).map fun x => x)).reverse) fun y hy => by
        rw [List.mem_reverse, List.nil_append, List.map_id'] at hy
        obtain ⟨i, _, rfl⟩ := List.mem_map.mp (List.mem_filter.mp hy).1
        exact ⟨i, rfl⟩
      have hlen : xs.length ≤ 63 := by
        have := congrArg List.length hxs
        simp only [List.length_reverse, List.nil_append, List.map_id', List.length_map] at this
        have h3 := List.length_filter_le (fun x : D => match x with | .int i => decide ((10 : Int) ^ 18 ≤ i) | _ => false) (cells.map D.int)
        simp only [List.length_map] at h3
        omega
      have := hR xs mx hlen (by omega)
      rw [← hxs] at this
      simpa using this
section
variable {P : Program} {w : World} {K : PySem.W.Frag} {mg : Str → Option Value} {base : Heap}
def spDeal (K : PySem.W.Frag) : Sp := fun vs H Q _ => ∃ (a : Addr) (ns : List Int), vs = [.ref a, .int 800] ∧ SqL K H a (ns.map V.int) ∧
  ∀ (H' : Hp) (da dc : Addr) (xs : List Int) (m : Int), da ≠ dc → H' da = some (.lst [.ref dc, .int m]) → H' dc = some (.lst (xs.map V.int)) → xs.length ≤ 63 → m.natAbs < 1099511627776 → Q (.ref da) H'
theorem rd_seq_asg {te : TE} {i : Nat} {ts : TS} {D : Ends} {σ : L2.St} {H : Hp} (h : te σ H fun v H1 => ts D (σ.set i (some v)) H1) : tSeq (tAsg te (gName i)) ts D σ H := h
theorem var_pu {B : Bs} (i : Nat) (hi : i ∉ B.ow) : Pu B (RE B) (tVar i) (xVar i) := fun G H σ ρ R Q E hT k => by
  obtain ⟨d, h1, h2⟩ := getW_iff hT
  obtain ⟨v, h3, h4⟩ := E.pur i d h1 hi
  exact ⟨v, h3, k d v G H h2 (.refl E) h4⟩
theorem int_pu {B : Bs} (i : Int) : Pu B (RE B) (tC (.int i)) (xC (.int i)) := fun G H σ ρ R Q E hT k => k _ _ G H hT (.refl E) (.int i)
theorem rpl_ints (K : PySem.W.Frag) (G : Hp) : ∀ ns : List Int, RpL K G (ns.map V.int) (ns.map D.int)
  | [] => .nil
  | n :: ns => .cons (.int n) (rpl_ints K G ns)
theorem rpl_ints_v {K : PySem.W.Frag} {G : Hp} : ∀ {ns : List Int} {vs : List V}, RpL K G vs (ns.map D.int) → vs = ns.map V.int
  | [], vs, h => by cases h; rfl
  | n :: ns, vs, h => by
    cases h with
    | cons h1 h2 => cases h1; rw [rpl_ints_v h2]; rfl
abbrev s__law_deal : Stmt := topS 21
abbrev N__law_deal : List Str := ["script", "salt", "most", "cells", "cell", "mix"]
theorem sc__law_deal : FnScope N__law_deal ["script", "salt"] (defScope s__law_deal) := ⟨rfl, rfl, rfl, by decide +kernel, rfl, by decide +kernel, by decide +kernel⟩
theorem ok__law_deal (F : DefAt K mg "_law_deal" s__law_deal) (m_int : mg "int" = none) (m_abs : mg "abs" = none) : ∃ f fd, CalI P w K mg base 1 "_law_deal" ["script", "salt"] (spDeal K) f fd := by
  obtain ⟨f, fd, hm, F⟩ := F
  have sc := sc__law_deal
  refine ⟨f, fd, hm, F.kp, F.bindsN (fun _ _ _ _ _ _ us hl => match us, hl with | [_, _], _ => rfl), F.ok (N := N__law_deal) sc ?_ ?_⟩
  · rintro vs H Q E ⟨a, ns, rfl, _⟩; rfl
  rintro cd A outer s H vs Q E hr ⟨a, ns, rfl, hS, hQ⟩
  refine ⟨_, PSs.nox (PuSs.ps (X := cxD P w K mg base N__law_deal "_law_deal" s__law_deal f cd A outer s H E) (B := ⟨K, none, [], fun _ => none, H⟩) (TS := T__law_deal) (pus_cons (pus_set 2 (pu_mulO (by rfl) (PuE.g (pu_mulO (by rfl) (PuE.g (pu_mulO (by rfl) (PuE.g (pu_mulO (by rfl) (PuE.g (pu_mulO (by rfl) (PuE.g (pu_op op_pow ops_pow (PuE.g pu_int) (PuE.g pu_int))) (PuE.g (pu_op op_pow ops_pow (PuE.g pu_int) (PuE.g pu_int))))) (PuE.g (pu_op op_pow ops_pow (PuE.g pu_int) (PuE.g pu_int))))) (PuE.g (pu_op op_pow ops_pow (PuE.g pu_int) (PuE.g pu_int))))) (PuE.g (pu_op op_pow ops_pow (PuE.g pu_int) (PuE.g pu_int))))) (PuE.g (pu_op op_pow ops_pow (PuE.g pu_int) (PuE.g pu_int)))) sc.nd (by rfl) (by first | exact .inl rfl | exact .inr rfl) offN)
  (pus_cons (pus_setLc 3 (own := [("cell", 4)]) (by rfl) sc.nd (by rfl) (by rfl) offN (sw_true (by rfl) (by rfl) (by rfl) (by decide +kernel)) (pui_seqO (by rfl) (pu_sliceO (by rfl) (PuE.g (pu_var 0)) puo_none (puo_some pu_int))) (blkN (N := N__law_deal) (sc := defScope s__law_deal) (by rfl) (by decide +kernel) (by decide +kernel) (by decide +kernel) (by decide +kernel)) (fun _ _ _ _ _ => by exact (pug_name 4 sc.nd (by rfl) (by first | exact .inl rfl | exact .inr rfl) (by exact notIn_of rfl) offN)) (fun _ _ _ _ _ => by exact puts_nil) (fun _ _ _ _ _ => by exact (pu_op op_modN ops_mod (PuE.g (pu_intO (by rfl) m_int (PuE.g (pu_absO (by rfl) m_abs (PuE.g (pu_intO (by rfl) m_int (PuE.g (pu_var 4)))))))) (PuE.g (pu_var 2)))) (by decide) offNs)
  (pus_cons (pus_set 5 (pu_addO (by rfl) (PuE.g pu_int) (PuE.g (pu_mulO (by rfl) (PuE.g pu_int) (PuE.g (pu_var 1))))) sc.nd (by rfl) (by first | exact .inl rfl | exact .inr rfl) offN)
  (pus_cons (pus_for PassesOwn.never (by rfl) (pui_seqO (by rfl) (pu_var 3)) (pug_name 4 sc.nd (by rfl) (by first | exact .inl rfl | exact .inr rfl) (by exact notIn_of rfl) offN)
   (pus_one (pus_set 5 (pu_op op_modN ops_mod (PuE.g (pu_intO (by rfl) m_int (PuE.g (pu_addO (by rfl) (PuE.g (pu_addO (by rfl) (PuE.g (pu_mulO (by rfl) (PuE.g (pu_var 5)) (PuE.g pu_int))) (PuE.g (pu_op op_modN ops_mod (PuE.g (pu_intO (by rfl) m_int (PuE.g (pu_var 4)))) (PuE.g pu_int))))) (PuE.g pu_int))))) (PuE.g pu_int)) sc.nd (by rfl) (by first | exact .inl rfl | exact .inr rfl) offN)))
  (pus_one (pus_ret (PuF.en (pu_lst (pu_cons (PuF.en (pu_revLO (by rfl) (PuF.g (pu_lc (own := [("cell", 4)]) (by rfl) sc.nd (pui_seqO (by rfl) (pu_var 3)) (blkN (N := N__law_deal) (sc := defScope s__law_deal) (by rfl) (by decide +kernel) (by decide +kernel) (by decide +kernel) (by decide +kernel)) (fun _ _ _ _ _ => by exact (pug_name 4 sc.nd (by rfl) (by first | exact .inl rfl | exact .inr rfl) (by exact notIn_of rfl) offN)) (fun _ _ _ _ _ => by exact (puts_one (put_cmp op_ge ops_ge (PuE.g (pu_var 4)) (PuE.g (pu_op op_pow ops_pow (PuE.g pu_int) (PuE.g pu_int))) (nomark _)))) (fun _ _ _ _ _ => by exact (pu_var 4)) (by decide) offNs)))) (pu_cons (pu_var 5) pu_nil))))))))))), ?_⟩
  have E0 : EnvR ⟨K, none, [], fun _ => none, H⟩ (fun _ => none) H [some (.ref a), some (.int 800), none, none, none, none] [none, some (.int 800), none, none, none, none] := by
    refine ⟨rfl, Same.refl _, (fun b o q => nomatch q), Same.refl _, (fun _ _ _ => rfl), (fun i d h _ => ?_), (fun i d h hi => absurd hi (by simp)), (fun i j p hi => absurd hi (by simp)), (fun d h => nomatch h)⟩
    match i, h with
    | 0, h => simp at h
    | 1, h => simp at h; subst h; exact ⟨_, rfl, .int _⟩
    | 2, h => simp at h
    | 3, h => simp at h
    | 4, h => simp at h
    | 5, h => simp at h
    | i + 6, h => simp at h
  have pw : Pu ⟨K, none, [], fun _ => none, H⟩ (RG ⟨K, none, [], fun _ => none, H⟩) (tOp (rI CPow fun i j => .int (i ^ j.toNat)) (tC (.int 10)) (tC (.int 64))) (xOp dPow (xC (.int 10)) (xC (.int 64))) := Pu.g (op_pu ops_pow (Pu.g (int_pu 10)) (Pu.g (int_pu 64)))
  have om := ops_mul (X := cxD P w K mg base N__law_deal "_law_deal" s__law_deal f cd A outer s H E) (B := ⟨K, none, [], fun _ => none, H⟩) rfl
  refine rd_seq_asg ?_
  refine (op_pu om (Pu.g (op_pu om (Pu.g (op_pu om (Pu.g (op_pu om (Pu.g (op_pu om pw pw)) pw)) pw)) pw)) pw) _ H _ _ (fun d => ∃ most : Int, most ≠ 0 ∧ d = .int most) _ E0 ?_ ?_
  · have e1 : dPow (.int 10) (.int 64) = some (.int (10 ^ 64)) := by simp [dPow]
    have mk : ∀ a b : Int, a.natAbs.log2 + b.natAbs.log2 < 1000000 → dMul (.int a) (.int b) = some (.int (a * b)) := fun a b h => by
      have : MulOk a b := h
      simp [dMul, this]
    simp only [xOp_ap, xC_ap, e1, ok_some]
    rw [mk _ _ (by decide +kernel), ok_some, mk _ _ (by decide +kernel), ok_some, mk _ _ (by decide +kernel), ok_some, mk _ _ (by decide +kernel), ok_some, mk _ _ (by decide +kernel), ok_some]
    exact ⟨_, by decide, rfl⟩
  rintro d v G1 H1 ⟨most, hmost, rfl⟩ s1 r1
  have E1 := (E0.step s1).set (i := 2) (v := v) (d := .int most) (by simp) r1 (fun x h => by cases h)
  simp only [List.set_cons_succ, List.set_cons_zero] at E1
  have hS1 : SqL K H1 a (ns.map V.int) := s1.hh.seq hS
  have hc63 : (cutD (ns.map D.int) none (some 63)).length ≤ 63 := by
    have hcl := cutD_len (ns.map D.int) none (some 63)
    by_cases h : 63 ≤ (ns.map D.int).length
    · rw [show (some (63 : Int)) = some ((63 : Nat) : Int) from rfl, cut_take _ _ h]; simp; omega
    · omega
  refine rd_seq_asg ?_
  refine lc_at (w := false) (g := gName 4) (ds0 := cutD (ns.map D.int) none (some 63)) (g' := gN 4) (tt' := xYes) (te' := xOp dMod (xOp1 dIntOf (xOp1 dAbs (xOp1 dIntOf (xVar 4)))) (xVar 2)) (vs := [4]) (sl := [4]) E1 (fun Q k => ?_) (fun G H σ ρ v d R Q E r hT k => k _ _ hT (E.set (by simp) r fun x h => by cases h) (by simp) fun j hj => List.getElem?_set_ne (fun e => hj (by simp [e])))
    (puts_nil (X := cxD P w K mg base N__law_deal "_law_deal" s__law_deal f cd A outer s H E)).pu (op_pu ops_mod (Pu.g (call1_pu cs_int (Pu.g (call1_pu cs_abs (Pu.g (call1_pu cs_int (Pu.g (var_pu 4 (by simp))))))))) (Pu.g (var_pu 2 (by simp)))) (fun j hj => hj) offNs ?_ (fun d => ∃ cells : List Int, d = .lst (cells.map D.int) ∧ cells.length ≤ 63) _ ?_ ?_
  · refine ⟨.ref a, rfl, 63, rfl, .inl ⟨a, _, rfl, hS1, fun p hp => ?_⟩⟩
    refine ⟨p, _, rfl, .inl ⟨SqL.of upd_same, fun hl => ?_⟩⟩
    exact k _ _ _ (E1.stpNew _ hp) (itr_lst rfl ((rpl_ints K _ ns).cut none (some 63)) fun G' H' a1 a2 _ => a2 _ _ (a1 _ _ upd_same))
  · exact k1000 (by omega)
  · refine lcLoop_any (P := fun d => ∃ i : Int, d = .int i) (fun x hx k hk => ?_) fun ys hl hy => ?_
    · have hx' := List.mem_of_mem_drop (List.mem_of_mem_take hx)
      obtain ⟨i, _, rfl⟩ := List.mem_map.mp hx'
      simp [wipe', dMod, hmost]
      exact hk _ ⟨_, rfl⟩
    · obtain ⟨cells, rfl⟩ := all_int hy
      simp only [List.length_map] at hl
      exact ⟨cells, rfl, by omega⟩
  rintro d v2 G2 H2 ⟨cells, rfl, hcl⟩ s2 ⟨p, us, ds, rfl, hds, h1, h2, h3, h4⟩
  cases hds
  have s3 : Stp ⟨K, none, [], fun _ => none, H⟩ G1 H1 (upd G2 p (.lst us)) H2 := by
    refine ⟨s2.gg.trans (same_new h2), fun b o hb => ?_, s2.hh, fun b o hb => ?_, fun d hd => nomatch hd⟩
    · by_cases e : b = p
      · subst e; rw [upd_same] at hb; rw [h3]; exact hb
      · rw [upd_ne e] at hb; exact s2.gh b o hb
    · rw [upd_ne (ne_of_none hb h1)]
      exact s2.fr b o hb
  have E2 := (E1.step s3).set (i := 3) (v := .ref p) (d := .lst (cells.map D.int)) (by simp) (.lst upd_same (h4.mono (same_new h2))) (fun x h => nomatch h)
  simp only [List.set_cons_succ, List.set_cons_zero] at E2
  refine PuSs.pu (X := cxD P w K mg base N__law_deal "_law_deal" s__law_deal f cd A outer s H E) (B := ⟨K, none, [], fun _ => none, H⟩) (sts := (defBody s__law_deal).drop 2) (TS := T_dealC) (pus_cons (pus_set 5 (pu_addO (by rfl) (PuE.g pu_int) (PuE.g (pu_mulO (by rfl) (PuE.g pu_int) (PuE.g (pu_var 1))))) sc.nd (by rfl) (by first | exact .inl rfl | exact .inr rfl) offN)
  (pus_cons (pus_for PassesOwn.never (by rfl) (pui_seqO (by rfl) (pu_var 3)) (pug_name 4 sc.nd (by rfl) (by first | exact .inl rfl | exact .inr rfl) (by exact notIn_of rfl) offN)
   (pus_one (pus_set 5 (pu_op op_modN ops_mod (PuE.g (pu_intO (by rfl) m_int (PuE.g (pu_addO (by rfl) (PuE.g (pu_addO (by rfl) (PuE.g (pu_mulO (by rfl) (PuE.g (pu_var 5)) (PuE.g pu_int))) (PuE.g (pu_op op_modN ops_mod (PuE.g (pu_intO (by rfl) m_int (PuE.g (pu_var 4)))) (PuE.g pu_int))))) (PuE.g pu_int))))) (PuE.g pu_int)) sc.nd (by rfl) (by first | exact .inl rfl | exact .inr rfl) offN)))
  (pus_one (pus_ret (PuF.en (pu_lst (pu_cons (PuF.en (pu_revLO (by rfl) (PuF.g (pu_lc (own := [("cell", 4)]) (by rfl) sc.nd (pui_seqO (by rfl) (pu_var 3)) (blkN (N := N__law_deal) (sc := defScope s__law_deal) (by rfl) (by decide +kernel) (by decide +kernel) (by decide +kernel) (by decide +kernel)) (fun _ _ _ _ _ => by exact (pug_name 4 sc.nd (by rfl) (by first | exact .inl rfl | exact .inr rfl) (by exact notIn_of rfl) offN)) (fun _ _ _ _ _ => by exact (puts_one (put_cmp op_ge ops_ge (PuE.g (pu_var 4)) (PuE.g (pu_op op_pow ops_pow (PuE.g pu_int) (PuE.g pu_int))) (nomark _)))) (fun _ _ _ _ _ => by exact (pu_var 4)) (by decide) offNs)))) (pu_cons (pu_var 5) pu_nil)))))))) _ H2 _ _ _ { nx := fun _ => False, rt := fun d => ∃ (xs : List Int) (m : Int), d = .lst [.lst (xs.map D.int), .int m] ∧ xs.length ≤ 63 ∧ m.natAbs < 1099511627776 } E2 (m_dealC cells most none hcl _ fun xs m h5 h6 => ⟨xs, m, rfl, h5, h6⟩) ⟨fun _ _ _ _ z _ _ => z.elim, fun _ _ _ _ z _ _ => z.elim, fun _ _ _ _ z _ _ => z.elim, fun d v G' H' hd xt rv => ?_⟩
  obtain ⟨xs, m, rfl, h5, h6⟩ := hd
  obtain ⟨da, ws, rfl, g1, g2⟩ := rv.lst'
  cases g2 with
  | cons g2 g3 =>
  cases g3 with
  | cons g3 g4 =>
  cases g4
  cases g3
  obtain ⟨dc, zs, rfl, g5, g6⟩ := g2.lst'
  have := rpl_ints_v g6
  subst this
  refine hQ H' da dc xs m (fun z => ?_) (xt.gh _ _ g1) (xt.gh _ _ g5) h5 h6
  rw [z, g5] at g1
  have := HO.lst.inj (Option.some.inj g1)
  cases xs <;> simp at this
end
end PU
set_option Elab.async false
set_option linter.all false
set_option maxRecDepth 100000
set_option maxHeartbeats 4000000
namespace PU
open PySem PySem.Spec PyProof.Rows L2
section
variable {P : Program} {w : World} {K : PySem.W.Frag} {mg : Str → Option Value} {base : Heap}
abbrev s_law : Stmt := topS 62
abbrev N_law : List Str := ["script", "deal", "pairs", "turn", "size", "flat", "value", "room"]
theorem sc_law : FnScope N_law ["script"] (defScope s_law) := ⟨rfl, rfl, rfl, by decide +kernel, rfl, by decide +kernel, by decide +kernel⟩
def spLaw (K : PySem.W.Frag) : Sp := fun vs H Q _ => ∃ (a : Addr) (ns : List Int), vs = [.ref a] ∧ SqL K H a (ns.map V.int) ∧ ∀ H', Q (.bl true) H'
theorem ok_law {f : Addr} {fd : FuncData} (F : FunD K "law" "law" (defArgs s_law) (defBody s_law) (defScope s_law) [] [] f fd) (C__law_deal : ∃ f fd, CalI P w K mg base 1 "_law_deal" ["script", "salt"] (spDeal K) f fd) (C__law_all : Cal P w K mg base 3 "_law_all" ["pairs"] S__law_all) (C__law_drawn_flat : CalD P w K mg base 10 "_law_drawn_flat" ["deal", "size"] S__law_drawn_flat) (C__law_bent : CalD P w K mg base 5 "_law_bent" ["deal", "size", "flat"] S__law_bent) (C__law_drawn_room : CalD P w K mg base 7 "_law_drawn_room" ["deal", "field", "size", "most"] S__law_drawn_room) (C__law_any : CalD P w K mg base 1 "_law_any" ["deal", "bound"] S__law_any) (C__law_point : Cal P w K mg base 4 "_law_point" ["row"] S__law_point) (C__law_row : CalD P w K mg base 4 "_law_row" ["deal", "field", "size", "most"] S__law_row) (C_is_flat : ∃ f fd, CalI P w K mg base 6 "is_flat" ["size", "value"] (spW K S_is_flat) f fd ∧ FunD K "is_flat" "is_flat" (defArgs s_is_flat) (defBody s_is_flat) (defScope s_is_flat) [] [] f fd) (C__law_is_flat : Cal P w K mg base 4 "_law_is_flat" ["size", "value"] S__law_is_flat) (C__law_zeros : Cal P w K mg base 2 "_law_zeros" ["field", "size"] S__law_zeros) (m_range : mg "range" = none) (m_len : mg "len" = none) : FnOk P w K mg base CX0 11 f fd ["script"] (spLaw K) := by
  obtain ⟨f__law_deal, d__law_deal, c__law_deal⟩ := C__law_deal
  obtain ⟨f__law_all, d__law_all, c__law_all⟩ := C__law_all
  obtain ⟨f__law_drawn_flat, d__law_drawn_flat, c__law_drawn_flat⟩ := C__law_drawn_flat
  obtain ⟨f__law_bent, d__law_bent, c__law_bent⟩ := C__law_bent
  obtain ⟨f__law_drawn_room, d__law_drawn_room, c__law_drawn_room⟩ := C__law_drawn_room
  obtain ⟨f__law_any, d__law_any, c__law_any⟩ := C__law_any
  obtain ⟨f__law_point, d__law_point, c__law_point⟩ := C__law_point
  obtain ⟨f__law_row, d__law_row, c__law_row⟩ := C__law_row
  obtain ⟨f_is_flat, d_is_flat, c_is_flat, F_is_flat⟩ := C_is_flat
  obtain ⟨f__law_is_flat, d__law_is_flat, c__law_is_flat⟩ := C__law_is_flat
  obtain ⟨f__law_zeros, d__law_zeros, c__law_zeros⟩ := C__law_zeros
  have kb_is_flat := kbn_of (ps := ["size", "value"]) ["value", "size"] [1, 0] F_is_flat (fun _ _ _ _ _ _ ws hl => match ws, hl with | [_, _], _ => rfl)
  have sc := sc_law
  refine F.ok (N := N_law) sc (fun vs H Q E h => ?_) (fun cd A outer s H vs Q E hr h => ?_)
  · obtain ⟨a, ns, rfl, _⟩ := h; rfl
  obtain ⟨a, ns, rfl, hS, hQ⟩ := h
  refine ⟨_, PSs.nox (X := cxOf CX0 P w K mg base N_law "law" (defScope s_law) f cd A outer s H E) (pss_cons (ps_set (i := 1) sc.nd (by rfl) (by first | exact .inl rfl | exact .inr rfl) (pe_call c__law_deal.F (hr.mono (by decide)) (by rfl) c__law_deal.at_ c__law_deal.kp c__law_deal.b .nil pass0 (pa_cons (pv 0) (pa_cons pe_int pa_nil))))
    (PuSs.ps (X := cxD P w K mg base N_law "law" s_law f cd A outer s H E) (B := ⟨K, some ⟨1, 0, 0⟩, [2], fun _ => none, fun _ => none⟩) (TS := T_lawr) (pus_cons (pus_setF 2 (pu_lst pu_nil) sc.nd (by rfl) (by first | exact .inl rfl | exact .inr rfl) (offS (by decide)))
  (pus_cons (pus_for PassesOwn.never (by rfl) (pui_range1 (by rfl) m_range pu_int) (pug_name 3 sc.nd (by rfl) (by first | exact .inl rfl | exact .inr rfl) (by exact notIn_of rfl) (offS (by decide)))
   (pus_cons (pus_set 4 (pu_addO (by rfl) (PuE.g pu_int) (PuE.g (pu_callDO (dd := ⟨1, 0, 0⟩) (by rfl) (by rfl) c__law_any.F (hr.mono (by decide)) (by rfl) c__law_any.at_ c__law_any.kp c__law_any.b (by rfl) (pu_cons pu_int pu_nil)))) sc.nd (by rfl) (by first | exact .inl rfl | exact .inr rfl) (offS (by decide)))
  (pus_cons (pus_set 5 (pu_callDO (dd := ⟨1, 0, 0⟩) (by rfl) (by rfl) c__law_drawn_flat.F (hr.mono (by decide)) (by rfl) c__law_drawn_flat.at_ c__law_drawn_flat.kp c__law_drawn_flat.b (by rfl) (pu_cons (pu_var 4) pu_nil)) sc.nd (by rfl) (by first | exact .inl rfl | exact .inr rfl) (offS (by decide)))
  (pus_cons (pus_set 5 (pu_ifExp (PuW.pt (puw_or (put_cmp op_gt ops_gt (PuE.g (pu_lenO (by rfl) (by rfl) m_len (PuE.g (pu_var 5)))) (PuE.g pu_int) (nomark _)) (puw_or1 (put_cmp op_gt ops_gt (PuE.g (pu_var 3)) (PuE.g pu_int) (nomark _))))) (pu_var 5) (pu_callO (by rfl) c__law_point.F (hr.mono (by decide)) (by rfl) c__law_point.at_ c__law_point.kp c__law_point.b (pu_cons (pu_callDO (dd := ⟨1, 0, 0⟩) (by rfl) (by rfl) c__law_row.F (hr.mono (by decide)) (by rfl) c__law_row.at_ c__law_row.kp c__law_row.b (by rfl) (pu_cons pu_int (pu_cons (pu_var 4) (pu_cons pu_int pu_nil)))) pu_nil))) sc.nd (by rfl) (by first | exact .inl rfl | exact .inr rfl) (offS (by decide)))
  (pus_cons (pus_setF 2 (pu_addF (pu_own 2) (PuF.g (pu_lst (pu_cons (pu_tup (pu_cons (pu_callO (by rfl) c_is_flat.F (hr.mono (by decide)) (by rfl) c_is_flat.at_ c_is_flat.kp c_is_flat.b (pu_cons (pu_var 4) (pu_cons (pu_var 5) pu_nil))) (pu_cons pu_bl pu_nil))) (pu_cons (pu_tup (pu_cons (pu_callK [1, 0] c_is_flat.F (hr.mono (by decide)) (by rfl) c_is_flat.at_ c_is_flat.kp kb_is_flat (puk_cons (pu_var 5) (puk_cons (pu_var 4) puk_nil)) (by rfl)) (pu_cons pu_bl pu_nil))) (pu_cons (pu_tup (pu_cons (pu_callO (by rfl) c_is_flat.F (hr.mono (by decide)) (by rfl) c_is_flat.at_ c_is_flat.kp c_is_flat.b (pu_cons (pu_var 4) (pu_cons (pu_tup pu_nil) pu_nil))) (pu_cons pu_bl pu_nil))) pu_nil)))))) sc.nd (by rfl) (by first | exact .inl rfl | exact .inr rfl) (offS (by decide)))
  (pus_cons (pus_setF 2 (pu_addF (pu_own 2) (PuF.g (pu_lst (pu_cons (pu_tup (pu_cons (pu_callO (by rfl) c_is_flat.F (hr.mono (by decide)) (by rfl) c_is_flat.at_ c_is_flat.kp c_is_flat.b (pu_cons (pu_addO (by rfl) (PuE.g (pu_var 4)) (PuE.g pu_int)) (pu_cons (pu_var 5) pu_nil))) (pu_cons (pu_eqO (by rfl) hr.units (PuE.g (pu_lenO (by rfl) (by rfl) m_len (PuE.g (pu_var 5)))) (PuE.g pu_int)) pu_nil))) (pu_cons (pu_tup (pu_cons (pu_callO (by rfl) c_is_flat.F (hr.mono (by decide)) (by rfl) c_is_flat.at_ c_is_flat.kp c_is_flat.b (pu_cons (pu_var 4) (pu_cons (pu_tup (pu_cons (pu_addO (by rfl) (PuE.g (pu_callO (by rfl) c__law_zeros.F (hr.mono (by decide)) (by rfl) c__law_zeros.at_ c__law_zeros.kp c__law_zeros.b (pu_cons pu_int (pu_cons (pu_var 4) pu_nil)))) (PuE.g (pu_tup (pu_cons (pu_tup (pu_cons pu_int (pu_cons pu_int pu_nil))) pu_nil)))) pu_nil)) pu_nil))) (pu_cons pu_bl pu_nil))) pu_nil))))) sc.nd (by rfl) (by first | exact .inl rfl | exact .inr rfl) (offS (by decide)))
  (pus_cons (pus_for PassesOwn.never (by rfl) (pui_seqO (by rfl) (pu_callDO (dd := ⟨1, 0, 0⟩) (by rfl) (by rfl) c__law_bent.F (hr.mono (by decide)) (by rfl) c__law_bent.at_ c__law_bent.kp c__law_bent.b (by rfl) (pu_cons (pu_var 4) (pu_cons (pu_var 5) pu_nil)))) (pug_name 6 sc.nd (by rfl) (by first | exact .inl rfl | exact .inr rfl) (by exact notIn_of rfl) (offS (by decide)))
   (pus_one (pus_appendE 2 (pu_tup (pu_cons (pu_callO (by rfl) c_is_flat.F (hr.mono (by decide)) (by rfl) c_is_flat.at_ c_is_flat.kp c_is_flat.b (pu_cons (pu_var 4) (pu_cons (pu_var 6) pu_nil))) (pu_cons (pu_callO (by rfl) c__law_is_flat.F (hr.mono (by decide)) (by rfl) c__law_is_flat.at_ c__law_is_flat.kp c__law_is_flat.b (pu_cons (pu_var 4) (pu_cons (pu_var 6) pu_nil))) pu_nil))))))
  (pus_cons (pus_for PassesOwn.never (by rfl) (pui_seqO (by rfl) (PuF.en (pu_lst (pu_cons pu_non (pu_cons pu_int (pu_cons pu_bl (pu_cons pu_str (pu_cons (PuF.en (pu_lst pu_nil)) (pu_cons (pu_tup (pu_cons (pu_tup pu_nil) pu_nil)) (pu_cons (pu_tup (pu_cons (pu_tup pu_nil) (pu_cons (pu_tup pu_nil) pu_nil))) (pu_cons (pu_tup (pu_cons pu_non pu_nil)) (pu_cons (pu_tup (pu_cons pu_int pu_nil)) (pu_cons (pu_tup (pu_cons pu_str pu_nil)) pu_nil))))))))))))) (pug_name 6 sc.nd (by rfl) (by first | exact .inl rfl | exact .inr rfl) (by exact notIn_of rfl) (offS (by decide)))
   (pus_one (pus_appendE 2 (pu_tup (pu_cons (pu_callO (by rfl) c_is_flat.F (hr.mono (by decide)) (by rfl) c_is_flat.at_ c_is_flat.kp c_is_flat.b (pu_cons (pu_var 4) (pu_cons (pu_var 6) pu_nil))) (pu_cons pu_bl pu_nil))))))
  (pus_cons (pus_set 7 (pu_callDO (dd := ⟨1, 0, 0⟩) (by rfl) (by rfl) c__law_drawn_room.F (hr.mono (by decide)) (by rfl) c__law_drawn_room.at_ c__law_drawn_room.kp c__law_drawn_room.b (by rfl) (pu_cons pu_int (pu_cons (pu_addO (by rfl) (PuE.g (pu_var 4)) (PuE.g pu_int)) (pu_cons pu_int pu_nil)))) sc.nd (by rfl) (by first | exact .inl rfl | exact .inr rfl) (offS (by decide)))
  (pus_one (pus_appendE 2 (pu_tup (pu_cons (pu_callO (by rfl) c_is_flat.F (hr.mono (by decide)) (by rfl) c_is_flat.at_ c_is_flat.kp c_is_flat.b (pu_cons (pu_var 4) (pu_cons (pu_var 7) pu_nil))) (pu_cons (pu_callO (by rfl) c__law_is_flat.F (hr.mono (by decide)) (by rfl) c__law_is_flat.at_ c__law_is_flat.kp c__law_is_flat.b (pu_cons (pu_var 4) (pu_cons (pu_var 7) pu_nil))) pu_nil))))))))))))))
  (pus_one (pus_ret (pu_callO (by rfl) c__law_all.F (hr.mono (by decide)) (by rfl) c__law_all.at_ c__law_all.kp c__law_all.b (pu_cons (pu_var 2) pu_nil)))))))), ?_⟩
  refine rd_seq_asg ?_
  refine ⟨_, rfl, ?_⟩
  refine ⟨a, ns, rfl, hS, fun H1 da dc xs m hne h1 h2 h3 h4 => ?_⟩
  have E0 : EnvR ⟨K, some ⟨1, da, dc⟩, [2], fun _ => none, H1⟩ (fun _ => none) H1 [some (.ref a), some (.ref da), none, none, none, none, none, none] [none, none, none, none, none, none, none, none] := by
    have nn : ∀ (i : Nat) (d : D), ([none, none, none, none, none, none, none, none] : PEnv)[i]? ≠ some (some d) := fun i d h => by
      match i, h with
      | 0, h => simp at h
      | 1, h => simp at h
      | 2, h => simp at h
      | 3, h => simp at h
      | 4, h => simp at h
      | 5, h => simp at h
      | 6, h => simp at h
      | 7, h => simp at h
      | i + 8, h => simp at h
    refine ⟨rfl, Same.refl _, (fun b o q => nomatch q), Same.refl _, (fun _ _ _ => rfl), (fun i d h _ => absurd h (nn i d)), (fun i d h _ => absurd h (nn i d)), (fun i j p hi hj ei => ?_), (fun d h => ?_)⟩
    · obtain ⟨d, ei⟩ := ei; exact absurd ei (nn i d)
    · cases h
      exact ⟨⟨rfl, rfl, hne, xs, m, h1, h2, h3, h4⟩, rfl, rfl, by show H1 da ≠ none; rw [h1]; simp, by show H1 dc ≠ none; rw [h2]; simp⟩
  refine PuSs.pu (X := cxD P w K mg base N_law "law" s_law f cd A outer s H E) (B := ⟨K, some ⟨1, da, dc⟩, [2], fun _ => none, H1⟩) (sts := (defBody s_law).drop 1) (TS := T_lawr) (pus_cons (pus_setF 2 (pu_lst pu_nil) sc.nd (by rfl) (by first | exact .inl rfl | exact .inr rfl) (offS (by decide)))
  (pus_cons (pus_for PassesOwn.never (by rfl) (pui_range1 (by rfl) m_range pu_int) (pug_name 3 sc.nd (by rfl) (by first | exact .inl rfl | exact .inr rfl) (by exact notIn_of rfl) (offS (by decide)))
   (pus_cons (pus_set 4 (pu_addO (by rfl) (PuE.g pu_int) (PuE.g (pu_callDO (dd := ⟨1, da, dc⟩) (by rfl) (by rfl) c__law_any.F (hr.mono (by decide)) (by rfl) c__law_any.at_ c__law_any.kp c__law_any.b (by rfl) (pu_cons pu_int pu_nil)))) sc.nd (by rfl) (by first | exact .inl rfl | exact .inr rfl) (offS (by decide)))
  (pus_cons (pus_set 5 (pu_callDO (dd := ⟨1, da, dc⟩) (by rfl) (by rfl) c__law_drawn_flat.F (hr.mono (by decide)) (by rfl) c__law_drawn_flat.at_ c__law_drawn_flat.kp c__law_drawn_flat.b (by rfl) (pu_cons (pu_var 4) pu_nil)) sc.nd (by rfl) (by first | exact .inl rfl | exact .inr rfl) (offS (by decide)))
  (pus_cons (pus_set 5 (pu_ifExp (PuW.pt (puw_or (put_cmp op_gt ops_gt (PuE.g (pu_lenO (by rfl) (by rfl) m_len (PuE.g (pu_var 5)))) (PuE.g pu_int) (nomark _)) (puw_or1 (put_cmp op_gt ops_gt (PuE.g (pu_var 3)) (PuE.g pu_int) (nomark _))))) (pu_var 5) (pu_callO (by rfl) c__law_point.F (hr.mono (by decide)) (by rfl) c__law_point.at_ c__law_point.kp c__law_point.b (pu_cons (pu_callDO (dd := ⟨1, da, dc⟩) (by rfl) (by rfl) c__law_row.F (hr.mono (by decide)) (by rfl) c__law_row.at_ c__law_row.kp c__law_row.b (by rfl) (pu_cons pu_int (pu_cons (pu_var 4) (pu_cons pu_int pu_nil)))) pu_nil))) sc.nd (by rfl) (by first | exact .inl rfl | exact .inr rfl) (offS (by decide)))
  (pus_cons (pus_setF 2 (pu_addF (pu_own 2) (PuF.g (pu_lst (pu_cons (pu_tup (pu_cons (pu_callO (by rfl) c_is_flat.F (hr.mono (by decide)) (by rfl) c_is_flat.at_ c_is_flat.kp c_is_flat.b (pu_cons (pu_var 4) (pu_cons (pu_var 5) pu_nil))) (pu_cons pu_bl pu_nil))) (pu_cons (pu_tup (pu_cons (pu_callK [1, 0] c_is_flat.F (hr.mono (by decide)) (by rfl) c_is_flat.at_ c_is_flat.kp kb_is_flat (puk_cons (pu_var 5) (puk_cons (pu_var 4) puk_nil)) (by rfl)) (pu_cons pu_bl pu_nil))) (pu_cons (pu_tup (pu_cons (pu_callO (by rfl) c_is_flat.F (hr.mono (by decide)) (by rfl) c_is_flat.at_ c_is_flat.kp c_is_flat.b (pu_cons (pu_var 4) (pu_cons (pu_tup pu_nil) pu_nil))) (pu_cons pu_bl pu_nil))) pu_nil)))))) sc.nd (by rfl) (by first | exact .inl rfl | exact .inr rfl) (offS (by decide)))
  (pus_cons (pus_setF 2 (pu_addF (pu_own 2) (PuF.g (pu_lst (pu_cons (pu_tup (pu_cons (pu_callO (by rfl) c_is_flat.F (hr.mono (by decide)) (by rfl) c_is_flat.at_ c_is_flat.kp c_is_flat.b (pu_cons (pu_addO (by rfl) (PuE.g (pu_var 4)) (PuE.g pu_int)) (pu_cons (pu_var 5) pu_nil))) (pu_cons (pu_eqO (by rfl) hr.units (PuE.g (pu_lenO (by rfl) (by rfl) m_len (PuE.g (pu_var 5)))) (PuE.g pu_int)) pu_nil))) (pu_cons (pu_tup (pu_cons (pu_callO (by rfl) c_is_flat.F (hr.mono (by decide)) (by rfl) c_is_flat.at_ c_is_flat.kp c_is_flat.b (pu_cons (pu_var 4) (pu_cons (pu_tup (pu_cons (pu_addO (by rfl) (PuE.g (pu_callO (by rfl) c__law_zeros.F (hr.mono (by decide)) (by rfl) c__law_zeros.at_ c__law_zeros.kp c__law_zeros.b (pu_cons pu_int (pu_cons (pu_var 4) pu_nil)))) (PuE.g (pu_tup (pu_cons (pu_tup (pu_cons pu_int (pu_cons pu_int pu_nil))) pu_nil)))) pu_nil)) pu_nil))) (pu_cons pu_bl pu_nil))) pu_nil))))) sc.nd (by rfl) (by first | exact .inl rfl | exact .inr rfl) (offS (by decide)))
  (pus_cons (pus_for PassesOwn.never (by rfl) (pui_seqO (by rfl) (pu_callDO (dd := ⟨1, da, dc⟩) (by rfl) (by rfl) c__law_bent.F (hr.mono (by decide)) (by rfl) c__law_bent.at_ c__law_bent.kp c__law_bent.b (by rfl) (pu_cons (pu_var 4) (pu_cons (pu_var 5) pu_nil)))) (pug_name 6 sc.nd (by rfl) (by first | exact .inl rfl | exact .inr rfl) (by exact notIn_of rfl) (offS (by decide)))
   (pus_one (pus_appendE 2 (pu_tup (pu_cons (pu_callO (by rfl) c_is_flat.F (hr.mono (by decide)) (by rfl) c_is_flat.at_ c_is_flat.kp c_is_flat.b (pu_cons (pu_var 4) (pu_cons (pu_var 6) pu_nil))) (pu_cons (pu_callO (by rfl) c__law_is_flat.F (hr.mono (by decide)) (by rfl) c__law_is_flat.at_ c__law_is_flat.kp c__law_is_flat.b (pu_cons (pu_var 4) (pu_cons (pu_var 6) pu_nil))) pu_nil))))))
  (pus_cons (pus_for PassesOwn.never (by rfl) (pui_seqO (by rfl) (PuF.en (pu_lst (pu_cons pu_non (pu_cons pu_int (pu_cons pu_bl (pu_cons pu_str (pu_cons (PuF.en (pu_lst pu_nil)) (pu_cons (pu_tup (pu_cons (pu_tup pu_nil) pu_nil)) (pu_cons (pu_tup (pu_cons (pu_tup pu_nil) (pu_cons (pu_tup pu_nil) pu_nil))) (pu_cons (pu_tup (pu_cons pu_non pu_nil)) (pu_cons (pu_tup (pu_cons pu_int pu_nil)) (pu_cons (pu_tup (pu_cons pu_str pu_nil)) pu_nil))))))))))))) (pug_name 6 sc.nd (by rfl) (by first | exact .inl rfl | exact .inr rfl) (by exact notIn_of rfl) (offS (by decide)))
   (pus_one (pus_appendE 2 (pu_tup (pu_cons (pu_callO (by rfl) c_is_flat.F (hr.mono (by decide)) (by rfl) c_is_flat.at_ c_is_flat.kp c_is_flat.b (pu_cons (pu_var 4) (pu_cons (pu_var 6) pu_nil))) (pu_cons pu_bl pu_nil))))))
  (pus_cons (pus_set 7 (pu_callDO (dd := ⟨1, da, dc⟩) (by rfl) (by rfl) c__law_drawn_room.F (hr.mono (by decide)) (by rfl) c__law_drawn_room.at_ c__law_drawn_room.kp c__law_drawn_room.b (by rfl) (pu_cons pu_int (pu_cons (pu_addO (by rfl) (PuE.g (pu_var 4)) (PuE.g pu_int)) (pu_cons pu_int pu_nil)))) sc.nd (by rfl) (by first | exact .inl rfl | exact .inr rfl) (offS (by decide)))
  (pus_one (pus_appendE 2 (pu_tup (pu_cons (pu_callO (by rfl) c_is_flat.F (hr.mono (by decide)) (by rfl) c_is_flat.at_ c_is_flat.kp c_is_flat.b (pu_cons (pu_var 4) (pu_cons (pu_var 7) pu_nil))) (pu_cons (pu_callO (by rfl) c__law_is_flat.F (hr.mono (by decide)) (by rfl) c__law_is_flat.at_ c__law_is_flat.kp c__law_is_flat.b (pu_cons (pu_var 4) (pu_cons (pu_var 7) pu_nil))) pu_nil))))))))))))))
  (pus_one (pus_ret (pu_callO (by rfl) c__law_all.F (hr.mono (by decide)) (by rfl) c__law_all.at_ c__law_all.kp c__law_all.b (pu_cons (pu_var 2) pu_nil)))))) _ H1 _ _ _ { nx := fun _ => False, rt := fun d => d = .bl true } E0 m_lawr ⟨fun _ _ _ _ z _ _ => z.elim, fun _ _ _ _ z _ _ => z.elim, fun _ _ _ _ z _ _ => z.elim, fun d v G' H' hd xt rv => ?_⟩
  subst hd
  cases rv
  exact hQ H'
end
end PU
set_option Elab.async false
set_option linter.all false
set_option maxRecDepth 100000
set_option maxHeartbeats 0
namespace PU
open PySem PySem.Spec PyProof.Rows L2
def d_is_integer : He.DefD := ⟨("is_integer", none), "is_integer", "is_integer", defArgs s_is_integer, defBody s_is_integer, defScope s_is_integer, [], []⟩
def d_is_number : He.DefD := ⟨("is_number", none), "is_number", "is_number", defArgs s_is_number, defBody s_is_number, defScope s_is_number, [], []⟩
def d_is_tuple : He.DefD := ⟨("is_tuple", none), "is_tuple", "is_tuple", defArgs s_is_tuple, defBody s_is_tuple, defScope s_is_tuple, [], []⟩
def d_common_divisor : He.DefD := ⟨("common_divisor", none), "common_divisor", "common_divisor", defArgs s_common_divisor, defBody s_common_divisor, defScope s_common_divisor, [], []⟩
def d_is_fraction : He.DefD := ⟨("is_fraction", none), "is_fraction", "is_fraction", defArgs s_is_fraction, defBody s_is_fraction, defScope s_is_fraction, [], []⟩
def d_is_number_of : He.DefD := ⟨("is_number_of", none), "is_number_of", "is_number_of", defArgs s_is_number_of, defBody s_is_number_of, defScope s_is_number_of, [], []⟩
def d_one_of : He.DefD := ⟨("one_of", none), "one_of", "one_of", defArgs s_one_of, defBody s_one_of, defScope s_one_of, [], []⟩
def d_is_zero : He.DefD := ⟨("is_zero", none), "is_zero", "is_zero", defArgs s_is_zero, defBody s_is_zero, defScope s_is_zero, [], []⟩
def d_head_of : He.DefD := ⟨("head_of", none), "head_of", "head_of", defArgs s_head_of, defBody s_head_of, defScope s_head_of, [], []⟩
def d_is_row_of : He.DefD := ⟨("is_row_of", none), "is_row_of", "is_row_of", defArgs s_is_row_of, defBody s_is_row_of, defScope s_is_row_of, [], []⟩
def d_are_heads_right : He.DefD := ⟨("are_heads_right", none), "are_heads_right", "are_heads_right", defArgs s_are_heads_right, defBody s_are_heads_right, defScope s_are_heads_right, [], []⟩
def d_is_room : He.DefD := ⟨("is_room", none), "is_room", "is_room", defArgs s_is_room, defBody s_is_room, defScope s_is_room, [], []⟩
def d_is_false : He.DefD := ⟨("is_false", none), "is_false", "is_false", defArgs s_is_false, defBody s_is_false, defScope s_is_false, [], []⟩
def d_is_flat : He.DefD := ⟨("is_flat", none), "is_flat", "is_flat", defArgs s_is_flat, defBody s_is_flat, defScope s_is_flat, [], []⟩
def d__law_deal : He.DefD := ⟨("_law_deal", none), "_law_deal", "_law_deal", defArgs s__law_deal, defBody s__law_deal, defScope s__law_deal, [], []⟩
def d__law_any : He.DefD := ⟨("_law_any", none), "_law_any", "_law_any", defArgs s__law_any, defBody s__law_any, defScope s__law_any, [], []⟩
def d__law_of : He.DefD := ⟨("_law_of", none), "_law_of", "_law_of", defArgs s__law_of, defBody s__law_of, defScope s__law_of, [], []⟩
def d__law_is_kind : He.DefD := ⟨("_law_is_kind", none), "_law_is_kind", "_law_is_kind", defArgs s__law_is_kind, defBody s__law_is_kind, defScope s__law_is_kind, [], []⟩
def d__law_same : He.DefD := ⟨("_law_same", none), "_law_same", "_law_same", defArgs s__law_same, defBody s__law_same, defScope s__law_same, [], []⟩
def d__law_all : He.DefD := ⟨("_law_all", none), "_law_all", "_law_all", defArgs s__law_all, defBody s__law_all, defScope s__law_all, [], []⟩
def d__law_divisor : He.DefD := ⟨("_law_divisor", none), "_law_divisor", "_law_divisor", defArgs s__law_divisor, defBody s__law_divisor, defScope s__law_divisor, [], []⟩
def d__law_fraction : He.DefD := ⟨("_law_fraction", none), "_law_fraction", "_law_fraction", defArgs s__law_fraction, defBody s__law_fraction, defScope s__law_fraction, [], []⟩
def d__law_zero : He.DefD := ⟨("_law_zero", none), "_law_zero", "_law_zero", defArgs s__law_zero, defBody s__law_zero, defScope s__law_zero, [], []⟩
def d__law_one : He.DefD := ⟨("_law_one", none), "_law_one", "_law_one", defArgs s__law_one, defBody s__law_one, defScope s__law_one, [], []⟩
def d__law_plus : He.DefD := ⟨("_law_plus", none), "_law_plus", "_law_plus", defArgs s__law_plus, defBody s__law_plus, defScope s__law_plus, [], []⟩
def d__law_less : He.DefD := ⟨("_law_less", none), "_law_less", "_law_less", defArgs s__law_less, defBody s__law_less, defScope s__law_less, [], []⟩
def d__law_times : He.DefD := ⟨("_law_times", none), "_law_times", "_law_times", defArgs s__law_times, defBody s__law_times, defScope s__law_times, [], []⟩
def d__law_over : He.DefD := ⟨("_law_over", none), "_law_over", "_law_over", defArgs s__law_over, defBody s__law_over, defScope s__law_over, [], []⟩
def d__law_number : He.DefD := ⟨("_law_number", none), "_law_number", "_law_number", defArgs s__law_number, defBody s__law_number, defScope s__law_number, [], []⟩
def d__law_row : He.DefD := ⟨("_law_row", none), "_law_row", "_law_row", defArgs s__law_row, defBody s__law_row, defScope s__law_row, [], []⟩
def d__law_rows : He.DefD := ⟨("_law_rows", none), "_law_rows", "_law_rows", defArgs s__law_rows, defBody s__law_rows, defScope s__law_rows, [], []⟩
def d__law_zeros : He.DefD := ⟨("_law_zeros", none), "_law_zeros", "_law_zeros", defArgs s__law_zeros, defBody s__law_zeros, defScope s__law_zeros, [], []⟩
def d__law_unit : He.DefD := ⟨("_law_unit", none), "_law_unit", "_law_unit", defArgs s__law_unit, defBody s__law_unit, defScope s__law_unit, [], []⟩
def d__law_units : He.DefD := ⟨("_law_units", none), "_law_units", "_law_units", defArgs s__law_units, defBody s__law_units, defScope s__law_units, [], []⟩
def d__law_row_plus : He.DefD := ⟨("_law_row_plus", none), "_law_row_plus", "_law_row_plus", defArgs s__law_row_plus, defBody s__law_row_plus, defScope s__law_row_plus, [], []⟩
def d__law_scaled : He.DefD := ⟨("_law_scaled", none), "_law_scaled", "_law_scaled", defArgs s__law_scaled, defBody s__law_scaled, defScope s__law_scaled, [], []⟩
def d__law_head : He.DefD := ⟨("_law_head", none), "_law_head", "_law_head", defArgs s__law_head, defBody s__law_head, defScope s__law_head, [], []⟩
def d__law_rest : He.DefD := ⟨("_law_rest", none), "_law_rest", "_law_rest", defArgs s__law_rest, defBody s__law_rest, defScope s__law_rest, [], []⟩
def d__law_room : He.DefD := ⟨("_law_room", none), "_law_room", "_law_room", defArgs s__law_room, defBody s__law_room, defScope s__law_room, [], []⟩
def d__law_drawn_room : He.DefD := ⟨("_law_drawn_room", none), "_law_drawn_room", "_law_drawn_room", defArgs s__law_drawn_room, defBody s__law_drawn_room, defScope s__law_drawn_room, [], []⟩
def d__law_is_room : He.DefD := ⟨("_law_is_room", none), "_law_is_room", "_law_is_room", defArgs s__law_is_room, defBody s__law_is_room, defScope s__law_is_room, [], []⟩
def d__law_has_form : He.DefD := ⟨("_law_has_form", none), "_law_has_form", "_law_has_form", defArgs s__law_has_form, defBody s__law_has_form, defScope s__law_has_form, [], []⟩
def d__law_is_whole : He.DefD := ⟨("_law_is_whole", none), "_law_is_whole", "_law_is_whole", defArgs s__law_is_whole, defBody s__law_is_whole, defScope s__law_is_whole, [], []⟩
def d__law_is_number : He.DefD := ⟨("_law_is_number", none), "_law_is_number", "_law_is_number", defArgs s__law_is_number, defBody s__law_is_number, defScope s__law_is_number, [], []⟩
def d__law_with : He.DefD := ⟨("_law_with", none), "_law_with", "_law_with", defArgs s__law_with, defBody s__law_with, defScope s__law_with, [], []⟩
def d__law_source : He.DefD := ⟨("_law_source", none), "_law_source", "_law_source", defArgs s__law_source, defBody s__law_source, defScope s__law_source, [], []⟩
def d__law_nothing : He.DefD := ⟨("_law_nothing", none), "_law_nothing", "_law_nothing", defArgs s__law_nothing, defBody s__law_nothing, defScope s__law_nothing, [], []⟩
def d__law_dot : He.DefD := ⟨("_law_dot", none), "_law_dot", "_law_dot", defArgs s__law_dot, defBody s__law_dot, defScope s__law_dot, [], []⟩
def d__law_flat : He.DefD := ⟨("_law_flat", none), "_law_flat", "_law_flat", defArgs s__law_flat, defBody s__law_flat, defScope s__law_flat, [], []⟩
def d__law_flat_through : He.DefD := ⟨("_law_flat_through", none), "_law_flat_through", "_law_flat_through", defArgs s__law_flat_through, defBody s__law_flat_through, defScope s__law_flat_through, [], []⟩
def d__law_point : He.DefD := ⟨("_law_point", none), "_law_point", "_law_point", defArgs s__law_point, defBody s__law_point, defScope s__law_point, [], []⟩
def d__law_is_small : He.DefD := ⟨("_law_is_small", none), "_law_is_small", "_law_is_small", defArgs s__law_is_small, defBody s__law_is_small, defScope s__law_is_small, [], []⟩
def d__law_drawn_flat : He.DefD := ⟨("_law_drawn_flat", none), "_law_drawn_flat", "_law_drawn_flat", defArgs s__law_drawn_flat, defBody s__law_drawn_flat, defScope s__law_drawn_flat, [], []⟩
def d__law_is_flat : He.DefD := ⟨("_law_is_flat", none), "_law_is_flat", "_law_is_flat", defArgs s__law_is_flat, defBody s__law_is_flat, defScope s__law_is_flat, [], []⟩
def d__law_bent : He.DefD := ⟨("_law_bent", none), "_law_bent", "_law_bent", defArgs s__law_bent, defBody s__law_bent, defScope s__law_bent, [], []⟩
def d_law : He.DefD := ⟨("law", none), "law", "law", defArgs s_law, defBody s_law, defScope s_law, [], []⟩
def fnL : List He.DefD := ([d_is_integer, d_is_number, d_is_tuple, d_common_divisor, d_is_fraction, d_is_number_of, d_one_of, d_is_zero, d_head_of, d_is_row_of, d_are_heads_right, d_is_room, d_is_false, d_is_flat, d__law_deal, d__law_any, d__law_of, d__law_is_kind, d__law_same, d__law_all, d__law_divisor, d__law_fraction, d__law_zero, d__law_one, d__law_plus] : List He.DefD) ++ ([d__law_less, d__law_times, d__law_over, d__law_number, d__law_row, d__law_rows, d__law_zeros, d__law_unit, d__law_units, d__law_row_plus, d__law_scaled, d__law_head, d__law_rest, d__law_room, d__law_drawn_room, d__law_is_room, d__law_has_form, d__law_is_whole, d__law_is_number, d__law_with, d__law_source, d__law_nothing, d__law_dot, d__law_flat, d__law_flat_through] : List He.DefD) ++ ([d__law_point, d__law_is_small, d__law_drawn_flat, d__law_is_flat, d__law_bent, d_law] : List He.DefD)
def faL : List He.Fa := ([.glo "is_integer", .glo "is_number", .glo "is_tuple", .glo "common_divisor", .glo "is_fraction", .glo "is_number_of", .glo "one_of", .glo "is_zero", .glo "head_of", .glo "is_row_of", .glo "are_heads_right", .glo "is_room", .glo "is_false", .glo "is_flat", .glo "_law_deal", .glo "_law_any", .glo "_law_of", .glo "_law_is_kind", .glo "_law_same", .glo "_law_all", .glo "_law_divisor", .glo "_law_fraction", .glo "_law_zero", .glo "_law_one", .glo "_law_plus"] : List He.Fa) ++ ([.glo "_law_less", .glo "_law_times", .glo "_law_over", .glo "_law_number", .glo "_law_row", .glo "_law_rows", .glo "_law_zeros", .glo "_law_unit", .glo "_law_units", .glo "_law_row_plus", .glo "_law_scaled", .glo "_law_head", .glo "_law_rest", .glo "_law_room", .glo "_law_drawn_room", .glo "_law_is_room", .glo "_law_has_form", .glo "_law_is_whole", .glo "_law_is_number", .glo "_law_with", .glo "_law_source", .glo "_law_nothing", .glo "_law_dot", .glo "_law_flat", .glo "_law_flat_through"] : List He.Fa) ++ ([.glo "_law_point", .glo "_law_is_small", .glo "_law_drawn_flat", .glo "_law_is_flat", .glo "_law_bent", .glo "law", .free "isinstance", .free "int", .free "bool", .free "tuple", .free "len", .free "abs", .free "enumerate", .free "range", .free "str", .free "list", .free "dict", .free "sorted", .int "FIELD" 0] : List He.Fa)
abbrev RR : PySem.W.OpenRow := PySem.W.OpenLaw.row PySem.Challenge.rw_holdrooms_k00_flats_have_one_form
abbrev hkL : PySem.W.Hook := He.hookD 4 faL fnL
def obL (s : PySem.W.SharedT) : He.AlD := He.obsDG 4 faL fnL (HandSHeadRun.getT s)
theorem obL_eq (s : PySem.W.SharedT) : obL s = hkL.obs s.abs := He.obsDG_eq (HandSHeadRun.getT_eq s)
def looseL : List PySem.Str := (["is_integer", "is_number", "is_tuple", "common_divisor", "is_fraction", "is_number_of", "one_of", "is_zero", "head_of", "is_row_of", "are_heads_right", "is_room", "is_false", "is_flat", "_law_deal", "_law_any", "_law_of", "_law_is_kind", "_law_same", "_law_all", "_law_divisor", "_law_fraction", "_law_zero", "_law_one", "_law_plus"] : List PySem.Str) ++ (["_law_less", "_law_times", "_law_over", "_law_number", "_law_row", "_law_rows", "_law_zeros", "_law_unit", "_law_units", "_law_row_plus", "_law_scaled", "_law_head", "_law_rest", "_law_room", "_law_drawn_room", "_law_is_room", "_law_has_form", "_law_is_whole", "_law_is_number", "_law_with", "_law_source", "_law_nothing", "_law_dot", "_law_flat", "_law_flat_through"] : List PySem.Str) ++ (["_law_point", "_law_is_small", "_law_drawn_flat", "_law_is_flat", "_law_bent", "FIELD"] : List PySem.Str)
theorem runL (w : World) : HandSHeadRun.RunEq RR (PySem.W.view RR.prog [62]) hkL obL 4000 looseL w := by
  intro os
  kernel_rfl
theorem factsL {P : Program} {w : World} {K : PySem.W.Frag} {h : Heap} {mg : Str → Option Value} {f : Addr} (X : K.In h) (G : h.Ns mainGlobals mg) (hfa : mg ("law" : Str) = some (.ref f)) (c : He.SaysD faL fnL K) :
    ∃ fd : FuncData, (∀ (s : Shared) (v : Value), BindsTo s fd ⟨[v], []⟩ [("script", v)]) ∧ ∀ base : Heap, K.In base → base.Ns mainGlobals mg → FnOk P w K mg base CX0 11 f fd ["script"] (spLaw K) := by
  obtain ⟨fd_is_integer, F_is_integer⟩ := c.def_ 0 (d := d_is_integer) rfl
  have D_is_integer : DefAt K mg "is_integer" s_is_integer := ⟨_, _, He.glo_ok X G (c.fact 0 (f := .glo "is_integer") rfl), F_is_integer⟩
  obtain ⟨fd_is_number, F_is_number⟩ := c.def_ 1 (d := d_is_number) rfl
  have D_is_number : DefAt K mg "is_number" s_is_number := ⟨_, _, He.glo_ok X G (c.fact 1 (f := .glo "is_number") rfl), F_is_number⟩
  obtain ⟨fd_is_tuple, F_is_tuple⟩ := c.def_ 2 (d := d_is_tuple) rfl
  have D_is_tuple : DefAt K mg "is_tuple" s_is_tuple := ⟨_, _, He.glo_ok X G (c.fact 2 (f := .glo "is_tuple") rfl), F_is_tuple⟩
  obtain ⟨fd_common_divisor, F_common_divisor⟩ := c.def_ 3 (d := d_common_divisor) rfl
  have D_common_divisor : DefAt K mg "common_divisor" s_common_divisor := ⟨_, _, He.glo_ok X G (c.fact 3 (f := .glo "common_divisor") rfl), F_common_divisor⟩
  obtain ⟨fd_is_fraction, F_is_fraction⟩ := c.def_ 4 (d := d_is_fraction) rfl
  have D_is_fraction : DefAt K mg "is_fraction" s_is_fraction := ⟨_, _, He.glo_ok X G (c.fact 4 (f := .glo "is_fraction") rfl), F_is_fraction⟩
  obtain ⟨fd_is_number_of, F_is_number_of⟩ := c.def_ 5 (d := d_is_number_of) rfl
  have D_is_number_of : DefAt K mg "is_number_of" s_is_number_of := ⟨_, _, He.glo_ok X G (c.fact 5 (f := .glo "is_number_of") rfl), F_is_number_of⟩
  obtain ⟨fd_one_of, F_one_of⟩ := c.def_ 6 (d := d_one_of) rfl
  have D_one_of : DefAt K mg "one_of" s_one_of := ⟨_, _, He.glo_ok X G (c.fact 6 (f := .glo "one_of") rfl), F_one_of⟩
  obtain ⟨fd_is_zero, F_is_zero⟩ := c.def_ 7 (d := d_is_zero) rfl
  have D_is_zero : DefAt K mg "is_zero" s_is_zero := ⟨_, _, He.glo_ok X G (c.fact 7 (f := .glo "is_zero") rfl), F_is_zero⟩
  obtain ⟨fd_head_of, F_head_of⟩ := c.def_ 8 (d := d_head_of) rfl
  have D_head_of : DefAt K mg "head_of" s_head_of := ⟨_, _, He.glo_ok X G (c.fact 8 (f := .glo "head_of") rfl), F_head_of⟩
  obtain ⟨fd_is_row_of, F_is_row_of⟩ := c.def_ 9 (d := d_is_row_of) rfl
  have D_is_row_of : DefAt K mg "is_row_of" s_is_row_of := ⟨_, _, He.glo_ok X G (c.fact 9 (f := .glo "is_row_of") rfl), F_is_row_of⟩
  obtain ⟨fd_are_heads_right, F_are_heads_right⟩ := c.def_ 10 (d := d_are_heads_right) rfl
  have D_are_heads_right : DefAt K mg "are_heads_right" s_are_heads_right := ⟨_, _, He.glo_ok X G (c.fact 10 (f := .glo "are_heads_right") rfl), F_are_heads_right⟩
  obtain ⟨fd_is_room, F_is_room⟩ := c.def_ 11 (d := d_is_room) rfl
  have D_is_room : DefAt K mg "is_room" s_is_room := ⟨_, _, He.glo_ok X G (c.fact 11 (f := .glo "is_room") rfl), F_is_room⟩
  obtain ⟨fd_is_false, F_is_false⟩ := c.def_ 12 (d := d_is_false) rfl
  have D_is_false : DefAt K mg "is_false" s_is_false := ⟨_, _, He.glo_ok X G (c.fact 12 (f := .glo "is_false") rfl), F_is_false⟩
  obtain ⟨fd_is_flat, F_is_flat⟩ := c.def_ 13 (d := d_is_flat) rfl
  have D_is_flat : DefAt K mg "is_flat" s_is_flat := ⟨_, _, He.glo_ok X G (c.fact 13 (f := .glo "is_flat") rfl), F_is_flat⟩
  obtain ⟨fd__law_deal, F__law_deal⟩ := c.def_ 14 (d := d__law_deal) rfl
  have D__law_deal : DefAt K mg "_law_deal" s__law_deal := ⟨_, _, He.glo_ok X G (c.fact 14 (f := .glo "_law_deal") rfl), F__law_deal⟩
  obtain ⟨fd__law_any, F__law_any⟩ := c.def_ 15 (d := d__law_any) rfl
  have D__law_any : DefAt K mg "_law_any" s__law_any := ⟨_, _, He.glo_ok X G (c.fact 15 (f := .glo "_law_any") rfl), F__law_any⟩
  obtain ⟨fd__law_of, F__law_of⟩ := c.def_ 16 (d := d__law_of) rfl
  have D__law_of : DefAt K mg "_law_of" s__law_of := ⟨_, _, He.glo_ok X G (c.fact 16 (f := .glo "_law_of") rfl), F__law_of⟩
  obtain ⟨fd__law_is_kind, F__law_is_kind⟩ := c.def_ 17 (d := d__law_is_kind) rfl
  have D__law_is_kind : DefAt K mg "_law_is_kind" s__law_is_kind := ⟨_, _, He.glo_ok X G (c.fact 17 (f := .glo "_law_is_kind") rfl), F__law_is_kind⟩
  obtain ⟨fd__law_same, F__law_same⟩ := c.def_ 18 (d := d__law_same) rfl
  have D__law_same : DefAt K mg "_law_same" s__law_same := ⟨_, _, He.glo_ok X G (c.fact 18 (f := .glo "_law_same") rfl), F__law_same⟩
  obtain ⟨fd__law_all, F__law_all⟩ := c.def_ 19 (d := d__law_all) rfl
  have D__law_all : DefAt K mg "_law_all" s__law_all := ⟨_, _, He.glo_ok X G (c.fact 19 (f := .glo "_law_all") rfl), F__law_all⟩
  obtain ⟨fd__law_divisor, F__law_divisor⟩ := c.def_ 20 (d := d__law_divisor) rfl
  have D__law_divisor : DefAt K mg "_law_divisor" s__law_divisor := ⟨_, _, He.glo_ok X G (c.fact 20 (f := .glo "_law_divisor") rfl), F__law_divisor⟩
  obtain ⟨fd__law_fraction, F__law_fraction⟩ := c.def_ 21 (d := d__law_fraction) rfl
  have D__law_fraction : DefAt K mg "_law_fraction" s__law_fraction := ⟨_, _, He.glo_ok X G (c.fact 21 (f := .glo "_law_fraction") rfl), F__law_fraction⟩
  obtain ⟨fd__law_zero, F__law_zero⟩ := c.def_ 22 (d := d__law_zero) rfl
  have D__law_zero : DefAt K mg "_law_zero" s__law_zero := ⟨_, _, He.glo_ok X G (c.fact 22 (f := .glo "_law_zero") rfl), F__law_zero⟩
  obtain ⟨fd__law_one, F__law_one⟩ := c.def_ 23 (d := d__law_one) rfl
  have D__law_one : DefAt K mg "_law_one" s__law_one := ⟨_, _, He.glo_ok X G (c.fact 23 (f := .glo "_law_one") rfl), F__law_one⟩
  obtain ⟨fd__law_plus, F__law_plus⟩ := c.def_ 24 (d := d__law_plus) rfl
  have D__law_plus : DefAt K mg "_law_plus" s__law_plus := ⟨_, _, He.glo_ok X G (c.fact 24 (f := .glo "_law_plus") rfl), F__law_plus⟩
  obtain ⟨fd__law_less, F__law_less⟩ := c.def_ 25 (d := d__law_less) rfl
  have D__law_less : DefAt K mg "_law_less" s__law_less := ⟨_, _, He.glo_ok X G (c.fact 25 (f := .glo "_law_less") rfl), F__law_less⟩
  obtain ⟨fd__law_times, F__law_times⟩ := c.def_ 26 (d := d__law_times) rfl
  have D__law_times : DefAt K mg "_law_times" s__law_times := ⟨_, _, He.glo_ok X G (c.fact 26 (f := .glo "_law_times") rfl), F__law_times⟩
  obtain ⟨fd__law_over, F__law_over⟩ := c.def_ 27 (d := d__law_over) rfl
  have D__law_over : DefAt K mg "_law_over" s__law_over := ⟨_, _, He.glo_ok X G (c.fact 27 (f := .glo "_law_over") rfl), F__law_over⟩
  obtain ⟨fd__law_number, F__law_number⟩ := c.def_ 28 (d := d__law_number) rfl
  have D__law_number : DefAt K mg "_law_number" s__law_number := ⟨_, _, He.glo_ok X G (c.fact 28 (f := .glo "_law_number") rfl), F__law_number⟩
  obtain ⟨fd__law_row, F__law_row⟩ := c.def_ 29 (d := d__law_row) rfl
  have D__law_row : DefAt K mg "_law_row" s__law_row := ⟨_, _, He.glo_ok X G (c.fact 29 (f := .glo "_law_row") rfl), F__law_row⟩
  obtain ⟨fd__law_rows, F__law_rows⟩ := c.def_ 30 (d := d__law_rows) rfl
  have D__law_rows : DefAt K mg "_law_rows" s__law_rows := ⟨_, _, He.glo_ok X G (c.fact 30 (f := .glo "_law_rows") rfl), F__law_rows⟩
  obtain ⟨fd__law_zeros, F__law_zeros⟩ := c.def_ 31 (d := d__law_zeros) rfl
  have D__law_zeros : DefAt K mg "_law_zeros" s__law_zeros := ⟨_, _, He.glo_ok X G (c.fact 31 (f := .glo "_law_zeros") rfl), F__law_zeros⟩
  obtain ⟨fd__law_unit, F__law_unit⟩ := c.def_ 32 (d := d__law_unit) rfl
  have D__law_unit : DefAt K mg "_law_unit" s__law_unit := ⟨_, _, He.glo_ok X G (c.fact 32 (f := .glo "_law_unit") rfl), F__law_unit⟩
  obtain ⟨fd__law_units, F__law_units⟩ := c.def_ 33 (d := d__law_units) rfl
  have D__law_units : DefAt K mg "_law_units" s__law_units := ⟨_, _, He.glo_ok X G (c.fact 33 (f := .glo "_law_units") rfl), F__law_units⟩
  obtain ⟨fd__law_row_plus, F__law_row_plus⟩ := c.def_ 34 (d := d__law_row_plus) rfl
  have D__law_row_plus : DefAt K mg "_law_row_plus" s__law_row_plus := ⟨_, _, He.glo_ok X G (c.fact 34 (f := .glo "_law_row_plus") rfl), F__law_row_plus⟩
  obtain ⟨fd__law_scaled, F__law_scaled⟩ := c.def_ 35 (d := d__law_scaled) rfl
  have D__law_scaled : DefAt K mg "_law_scaled" s__law_scaled := ⟨_, _, He.glo_ok X G (c.fact 35 (f := .glo "_law_scaled") rfl), F__law_scaled⟩
  obtain ⟨fd__law_head, F__law_head⟩ := c.def_ 36 (d := d__law_head) rfl
  have D__law_head : DefAt K mg "_law_head" s__law_head := ⟨_, _, He.glo_ok X G (c.fact 36 (f := .glo "_law_head") rfl), F__law_head⟩
  obtain ⟨fd__law_rest, F__law_rest⟩ := c.def_ 37 (d := d__law_rest) rfl
  have D__law_rest : DefAt K mg "_law_rest" s__law_rest := ⟨_, _, He.glo_ok X G (c.fact 37 (f := .glo "_law_rest") rfl), F__law_rest⟩
  obtain ⟨fd__law_room, F__law_room⟩ := c.def_ 38 (d := d__law_room) rfl
  have D__law_room : DefAt K mg "_law_room" s__law_room := ⟨_, _, He.glo_ok X G (c.fact 38 (f := .glo "_law_room") rfl), F__law_room⟩
  obtain ⟨fd__law_drawn_room, F__law_drawn_room⟩ := c.def_ 39 (d := d__law_drawn_room) rfl
  have D__law_drawn_room : DefAt K mg "_law_drawn_room" s__law_drawn_room := ⟨_, _, He.glo_ok X G (c.fact 39 (f := .glo "_law_drawn_room") rfl), F__law_drawn_room⟩
  obtain ⟨fd__law_is_room, F__law_is_room⟩ := c.def_ 40 (d := d__law_is_room) rfl
  have D__law_is_room : DefAt K mg "_law_is_room" s__law_is_room := ⟨_, _, He.glo_ok X G (c.fact 40 (f := .glo "_law_is_room") rfl), F__law_is_room⟩
  obtain ⟨fd__law_has_form, F__law_has_form⟩ := c.def_ 41 (d := d__law_has_form) rfl
  have D__law_has_form : DefAt K mg "_law_has_form" s__law_has_form := ⟨_, _, He.glo_ok X G (c.fact 41 (f := .glo "_law_has_form") rfl), F__law_has_form⟩
  obtain ⟨fd__law_is_whole, F__law_is_whole⟩ := c.def_ 42 (d := d__law_is_whole) rfl
  have D__law_is_whole : DefAt K mg "_law_is_whole" s__law_is_whole := ⟨_, _, He.glo_ok X G (c.fact 42 (f := .glo "_law_is_whole") rfl), F__law_is_whole⟩
  obtain ⟨fd__law_is_number, F__law_is_number⟩ := c.def_ 43 (d := d__law_is_number) rfl
  have D__law_is_number : DefAt K mg "_law_is_number" s__law_is_number := ⟨_, _, He.glo_ok X G (c.fact 43 (f := .glo "_law_is_number") rfl), F__law_is_number⟩
  obtain ⟨fd__law_with, F__law_with⟩ := c.def_ 44 (d := d__law_with) rfl
  have D__law_with : DefAt K mg "_law_with" s__law_with := ⟨_, _, He.glo_ok X G (c.fact 44 (f := .glo "_law_with") rfl), F__law_with⟩
  obtain ⟨fd__law_source, F__law_source⟩ := c.def_ 45 (d := d__law_source) rfl
  have D__law_source : DefAt K mg "_law_source" s__law_source := ⟨_, _, He.glo_ok X G (c.fact 45 (f := .glo "_law_source") rfl), F__law_source⟩
  obtain ⟨fd__law_nothing, F__law_nothing⟩ := c.def_ 46 (d := d__law_nothing) rfl
  have D__law_nothing : DefAt K mg "_law_nothing" s__law_nothing := ⟨_, _, He.glo_ok X G (c.fact 46 (f := .glo "_law_nothing") rfl), F__law_nothing⟩
  obtain ⟨fd__law_dot, F__law_dot⟩ := c.def_ 47 (d := d__law_dot) rfl
  have D__law_dot : DefAt K mg "_law_dot" s__law_dot := ⟨_, _, He.glo_ok X G (c.fact 47 (f := .glo "_law_dot") rfl), F__law_dot⟩
  obtain ⟨fd__law_flat, F__law_flat⟩ := c.def_ 48 (d := d__law_flat) rfl
  have D__law_flat : DefAt K mg "_law_flat" s__law_flat := ⟨_, _, He.glo_ok X G (c.fact 48 (f := .glo "_law_flat") rfl), F__law_flat⟩
  obtain ⟨fd__law_flat_through, F__law_flat_through⟩ := c.def_ 49 (d := d__law_flat_through) rfl
  have D__law_flat_through : DefAt K mg "_law_flat_through" s__law_flat_through := ⟨_, _, He.glo_ok X G (c.fact 49 (f := .glo "_law_flat_through") rfl), F__law_flat_through⟩
  obtain ⟨fd__law_point, F__law_point⟩ := c.def_ 50 (d := d__law_point) rfl
  have D__law_point : DefAt K mg "_law_point" s__law_point := ⟨_, _, He.glo_ok X G (c.fact 50 (f := .glo "_law_point") rfl), F__law_point⟩
  obtain ⟨fd__law_is_small, F__law_is_small⟩ := c.def_ 51 (d := d__law_is_small) rfl
  have D__law_is_small : DefAt K mg "_law_is_small" s__law_is_small := ⟨_, _, He.glo_ok X G (c.fact 51 (f := .glo "_law_is_small") rfl), F__law_is_small⟩
  obtain ⟨fd__law_drawn_flat, F__law_drawn_flat⟩ := c.def_ 52 (d := d__law_drawn_flat) rfl
  have D__law_drawn_flat : DefAt K mg "_law_drawn_flat" s__law_drawn_flat := ⟨_, _, He.glo_ok X G (c.fact 52 (f := .glo "_law_drawn_flat") rfl), F__law_drawn_flat⟩
  obtain ⟨fd__law_is_flat, F__law_is_flat⟩ := c.def_ 53 (d := d__law_is_flat) rfl
  have D__law_is_flat : DefAt K mg "_law_is_flat" s__law_is_flat := ⟨_, _, He.glo_ok X G (c.fact 53 (f := .glo "_law_is_flat") rfl), F__law_is_flat⟩
  obtain ⟨fd__law_bent, F__law_bent⟩ := c.def_ 54 (d := d__law_bent) rfl
  have D__law_bent : DefAt K mg "_law_bent" s__law_bent := ⟨_, _, He.glo_ok X G (c.fact 54 (f := .glo "_law_bent") rfl), F__law_bent⟩
  obtain ⟨fd_law, F_law⟩ := c.def_ 55 (d := d_law) rfl
  have m_isinstance : mg "isinstance" = none := He.free_ok X G (c.fact 56 (f := .free "isinstance") rfl)
  have m_int : mg "int" = none := He.free_ok X G (c.fact 57 (f := .free "int") rfl)
  have m_bool : mg "bool" = none := He.free_ok X G (c.fact 58 (f := .free "bool") rfl)
  have m_tuple : mg "tuple" = none := He.free_ok X G (c.fact 59 (f := .free "tuple") rfl)
  have m_len : mg "len" = none := He.free_ok X G (c.fact 60 (f := .free "len") rfl)
  have m_abs : mg "abs" = none := He.free_ok X G (c.fact 61 (f := .free "abs") rfl)
  have m_enumerate : mg "enumerate" = none := He.free_ok X G (c.fact 62 (f := .free "enumerate") rfl)
  have m_range : mg "range" = none := He.free_ok X G (c.fact 63 (f := .free "range") rfl)
  have m_str : mg "str" = none := He.free_ok X G (c.fact 64 (f := .free "str") rfl)
  have m_list : mg "list" = none := He.free_ok X G (c.fact 65 (f := .free "list") rfl)
  have m_dict : mg "dict" = none := He.free_ok X G (c.fact 66 (f := .free "dict") rfl)
  have m_sorted : mg "sorted" = none := He.free_ok X G (c.fact 67 (f := .free "sorted") rfl)
  have G_FIELD : GlI mg "FIELD" 0 := by obtain ⟨t, e⟩ := He.int_ok X G (c.fact 68 (f := .int "FIELD" 0) rfl); exact ⟨_, e, t, rfl⟩
  have e := hfa.symm.trans (He.glo_ok X G (c.fact 55 (f := .glo "law") rfl))
  cases e
  have b := FunD.bindsA (ps := ["script"]) F_law fun _ _ _ _ _ _ us hl => match us, hl with | [_], _ => rfl
  refine ⟨fd_law, fun s v => b s [v] rfl, fun base _ _ => ?_⟩
  have C__law_deal := ok__law_deal (P := P) (w := w) (base := base) D__law_deal m_int m_abs
  have C__law_is_kind := ok__law_is_kind (P := P) (w := w) (base := base) D__law_is_kind m_isinstance m_str m_int m_bool
  have C__law_same := ok__law_same (P := P) (w := w) (base := base) D__law_same C__law_is_kind m_len m_isinstance m_tuple m_range m_list m_dict
  have C__law_all := ok__law_all (P := P) (w := w) (base := base) D__law_all C__law_same m_len
  have C__law_zero := ok__law_zero (P := P) (w := w) (base := base) D__law_zero
  have C__law_any := ok__law_any (P := P) (w := w) (base := base) D__law_any m_len m_int
  have C__law_divisor := ok__law_divisor (P := P) (w := w) (base := base) D__law_divisor m_abs m_int
  have C__law_fraction := ok__law_fraction (P := P) (w := w) (base := base) D__law_fraction C__law_divisor m_int
  have C__law_of := ok__law_of (P := P) (w := w) (base := base) D__law_of C__law_any m_len
  have C__law_number := ok__law_number (P := P) (w := w) (base := base) D__law_number C__law_any C__law_fraction C__law_of
  have C__law_row := ok__law_row (P := P) (w := w) (base := base) D__law_row C__law_zero C__law_number C__law_any m_tuple m_range
  have C__law_head := ok__law_head (P := P) (w := w) (base := base) D__law_head C__law_zero m_range m_len
  have C__law_plus := ok__law_plus (P := P) (w := w) (base := base) D__law_plus C__law_fraction m_int
  have C__law_row_plus := ok__law_row_plus (P := P) (w := w) (base := base) D__law_row_plus C__law_plus m_tuple m_range m_len
  have C__law_times := ok__law_times (P := P) (w := w) (base := base) D__law_times C__law_fraction m_int
  have C__law_scaled := ok__law_scaled (P := P) (w := w) (base := base) D__law_scaled C__law_times m_tuple
  have C__law_less := ok__law_less (P := P) (w := w) (base := base) D__law_less m_int
  have C__law_rest := ok__law_rest (P := P) (w := w) (base := base) D__law_rest C__law_head C__law_zero C__law_row_plus C__law_scaled C__law_less
  have C__law_over := ok__law_over (P := P) (w := w) (base := base) D__law_over C__law_fraction m_range m_int
  have C__law_room := ok__law_room (P := P) (w := w) (base := base) D__law_room C__law_rest C__law_head C__law_scaled C__law_over m_sorted m_tuple m_range m_len
  have C__law_flat := ok__law_flat (P := P) (w := w) (base := base) D__law_flat C__law_room C__law_head m_len
  have C__law_zeros := ok__law_zeros (P := P) (w := w) (base := base) D__law_zeros C__law_zero
  have C__law_one := ok__law_one (P := P) (w := w) (base := base) D__law_one
  have C__law_unit := ok__law_unit (P := P) (w := w) (base := base) D__law_unit C__law_zeros C__law_one
  have C__law_source := ok__law_source (P := P) (w := w) (base := base) D__law_source C__law_rest C__law_unit C__law_room C__law_head m_tuple m_len m_range
  have C__law_units := ok__law_units (P := P) (w := w) (base := base) D__law_units C__law_unit m_tuple m_range
  have C__law_nothing := ok__law_nothing (P := P) (w := w) (base := base) D__law_nothing C__law_source C__law_units m_len m_tuple m_range
  have C__law_dot := ok__law_dot (P := P) (w := w) (base := base) D__law_dot C__law_plus C__law_times m_range m_len
  have C__law_flat_through := ok__law_flat_through (P := P) (w := w) (base := base) D__law_flat_through C__law_flat C__law_nothing C__law_dot m_len
  have C__law_rows := ok__law_rows (P := P) (w := w) (base := base) D__law_rows C__law_row m_tuple m_range
  have C__law_is_small := ok__law_is_small (P := P) (w := w) (base := base) D__law_is_small m_len m_abs
  have C__law_point := ok__law_point (P := P) (w := w) (base := base) D__law_point C__law_unit m_tuple m_range m_len
  have C__law_drawn_flat := ok__law_drawn_flat (P := P) (w := w) (base := base) D__law_drawn_flat C__law_row C__law_flat_through C__law_rows C__law_is_small C__law_any C__law_point
  have C__law_with := ok__law_with (P := P) (w := w) (base := base) D__law_with m_tuple
  have C__law_bent := ok__law_bent (P := P) (w := w) (base := base) D__law_bent C__law_scaled C__law_with C__law_zeros C__law_any m_range m_list m_len m_tuple
  have C__law_drawn_room := ok__law_drawn_room (P := P) (w := w) (base := base) D__law_drawn_room C__law_room C__law_rows C__law_any
  have C_is_zero := ok_is_zero (P := P) (w := w) (base := base) D_is_zero
  have C_head_of := ok_head_of (P := P) (w := w) (base := base) D_head_of C_is_zero m_enumerate
  have C_one_of := ok_one_of (P := P) (w := w) (base := base) D_one_of
  have C_are_heads_right := ok_are_heads_right (P := P) (w := w) (base := base) D_are_heads_right C_one_of C_is_zero m_enumerate m_range m_len
  have C_is_tuple := ok_is_tuple (P := P) (w := w) (base := base) D_is_tuple m_isinstance m_tuple m_len
  have C_is_integer := ok_is_integer (P := P) (w := w) (base := base) D_is_integer m_isinstance m_int m_bool
  have C_common_divisor := ok_common_divisor (P := P) (w := w) (base := base) D_common_divisor m_abs
  have C_is_fraction := ok_is_fraction (P := P) (w := w) (base := base) D_is_fraction C_is_tuple C_is_integer C_common_divisor
  have C_is_number := ok_is_number (P := P) (w := w) (base := base) D_is_number C_is_integer
  have C_is_number_of := ok_is_number_of (P := P) (w := w) (base := base) D_is_number_of C_is_fraction C_is_number
  have C_is_row_of := ok_is_row_of (P := P) (w := w) (base := base) D_is_row_of C_is_tuple C_is_number_of
  have C_is_room := ok_is_room (P := P) (w := w) (base := base) D_is_room C_head_of C_are_heads_right C_is_row_of m_isinstance m_tuple
  have C_is_false := ok_is_false (P := P) (w := w) (base := base) D_is_false C_head_of m_len G_FIELD
  have C_is_flat := ok_is_flat (P := P) (w := w) (base := base) D_is_flat C_is_room C_is_false G_FIELD
  have C__law_is_whole := ok__law_is_whole (P := P) (w := w) (base := base) D__law_is_whole m_isinstance m_int m_bool
  have C__law_is_number := ok__law_is_number (P := P) (w := w) (base := base) D__law_is_number C__law_is_whole C__law_divisor m_isinstance m_len m_tuple
  have C__law_has_form := ok__law_has_form (P := P) (w := w) (base := base) D__law_has_form C__law_is_number m_isinstance m_tuple m_len
  have C__law_is_room := ok__law_is_room (P := P) (w := w) (base := base) D__law_is_room C__law_head C__law_one C__law_zero m_range m_len
  have C__law_is_flat := ok__law_is_flat (P := P) (w := w) (base := base) D__law_is_flat C__law_has_form C__law_is_room C__law_head m_len
  exact ok_law F_law C__law_deal C__law_all C__law_drawn_flat C__law_bent C__law_drawn_room C__law_any C__law_point C__law_row C_is_flat C__law_is_flat C__law_zeros m_range m_len
end PU
open PySem PySem.W PySem.Calls PyProof.Rows
theorem PySem.Challenge.cw_holdrooms_k00_flats_have_one_form_holds : PySem.Challenge.rw_holdrooms_k00_flats_have_one_form.Holds := by
  w_on; o_law
  refine HandSHeadRun.head_any (r := OpenLaw.row PySem.Challenge.rw_holdrooms_k00_flats_have_one_form) (q := view (OpenLaw.row PySem.Challenge.rw_holdrooms_k00_flats_have_one_form).prog [62]) (H := PU.hkL) (ob := PU.obL) (M := 4000) (loose := PU.looseL) (d := HandSHeadRun.topDef (OpenLaw.row PySem.Challenge.rw_holdrooms_k00_flats_have_one_form).prog 62) (kwd := []) PU.obL_eq
    (by kernel_rfl) (fun s => by kernel_rfl) PU.runL (by kernel_rfl) (by kernel_rfl) (by kernel_rfl) (by rfl) (by first | assumption | decide +kernel) (by decide +kernel) ⟨rfl, rfl, rfl, rfl, rfl, by decide +kernel⟩ ?hw ?hc
  case hw => w_witness2
  case hc =>
    refine L2.walk_ofE (l := PySem.Challenge.rw_holdrooms_k00_flats_have_one_form) (n := 63) (k := 11) (x := "script") (CX := L2.CX0) rfl (by decide) (by kernel_rfl) ⟨rfl, by decide, by decide⟩ ?F (fun _ _ _ _ z => z)
    intro w mg fa h Y G hmg0
    obtain ⟨K, KX, c⟩ := Y
    have hmg : mg ("law" : PySem.Str) = some (.ref fa) := by
      have e : (HandSHeadRun.topDef (OpenLaw.row PySem.Challenge.rw_holdrooms_k00_flats_have_one_form).prog 62).name = ("law" : PySem.Str) := by kernel_rfl
      rw [← e]
      exact hmg0
    obtain ⟨fd, hb, hF⟩ := PU.factsL (P := (PySem.Challenge.rw_holdrooms_k00_flats_have_one_form).prog) (w := w) KX G hmg c
    exact ⟨K, fd, PU.spLaw K, KX, hb, fun H a ns hl _ hS => ⟨a, ns, rfl, hS, fun _ => rfl⟩, hF⟩
