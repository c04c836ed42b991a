import PyProof.Rows.All
import Wide.All
import OpenK.AllK
import Wide.FinOn
import KE.SortData
import HandS.ForMost
import HandS.ForExc
import HandS.Deep
import HandS.StrMore
import HandS.IsInst
import HandS.Wide
import PyProof.StrOps2
import HandS.Defaults
import HandS.HeadHook2
import HandS.HeadHook3
import KE.KStateDown
import HandS.Head0
import HandS.Head1
import HandS.Head2
import HandS.TupSets
import KE.KeyNested
import KE.KDictKeyed
import KE.BitLaws
import HandS.WideBits
import HandS.Walk
import HandS.EndBits
import PySem.Challenge.RW_riderboard_k48_whole_games_anew
set_option Elab.async false
set_option linter.all false
set_option maxRecDepth 100000
set_option maxHeartbeats 2000000
set_option autoImplicit false
/-! DV1: the data layer. A value is told by its data (PyData); the heap I of the data that stand still lies within the heap H. -/
namespace RB
open PySem PySem.Spec L2

abbrev D := PyData
abbrev KF := PySem.W.Frag

/-! ### heaps of data -/
/-- the data's heap I within H grows to I' within H' and takes in no old object of H that was not data -/
structure Step (I H I' H' : Hp) : Prop where
  h : Same H H'
  i : Same I I'
  s : Same I' H'
  n : ∀ a, I a = none → H a ≠ none → I' a = none
theorem Step.refl {I H : Hp} (s : Same I H) : Step I H I H := ⟨Same.refl _, Same.refl _, s, fun _ h _ => h⟩
theorem same_ne {H H' : Hp} (h : Same H H') {a : Addr} (n : H a ≠ none) : H' a ≠ none := by
  cases e : H a with
  | none => exact absurd e n
  | some o => rw [h a o e]; simp
theorem Step.trans {I H I1 H1 I2 H2 : Hp} (a : Step I H I1 H1) (b : Step I1 H1 I2 H2) : Step I H I2 H2 :=
  ⟨a.h.trans b.h, a.i.trans b.i, b.s, fun x hi hh => b.n x (a.n x hi hh) (same_ne a.h hh)⟩
theorem same_upd {H : Hp} {p : Addr} {o : HO} (hp : H p = none) : Same H (upd H p o) := fun b u e => by
  rw [upd_ne (ne_of_none e hp)]; exact e
/-- a new object of data -/
theorem Step.new {I H : Hp} (s : Same I H) {p : Addr} {o : HO} (hp : H p = none) : Step I H (upd I p o) (upd H p o) where
  h := same_upd hp
  i := same_upd (s.free hp)
  s := fun b u e => by
    by_cases hb : b = p
    · subst hb; rw [upd_same] at e; rw [upd_same]; exact e
    · rw [upd_ne hb] at e; rw [upd_ne hb]; exact s b u e
  n := fun a hi hh => by
    have : a ≠ p := fun z => hh (by rw [z]; exact hp)
    rw [upd_ne this]; exact hi

theorem rd_mono {H H' : Hp} {a : Addr} {u : HO} (e : Same H H') (h : Rd H a u) : Rd H' a u := by
  rcases h with h | ⟨o, h⟩
  · exact .inl (e a _ h)
  · exact .inr ⟨o, e a _ h⟩
/-- a mover's fields -/
def movF (i j k : Int) : List (Str × V) := [("dx", .int i), ("dy", .int j), ("most", .int k)]
/-- a mover of the class at C, as data -/
abbrev movD (C : Addr) (i j k : Int) : D := .dict [(.int ((C : Nat) : Int), .tuple [.int i, .int j, .int k])]
mutual
/-- the value v is the data d within I; the script (read alone) is the data dict [(list, none)] -/
inductive Dv (I : Hp) : V → D → Prop
  | non : Dv I .non .none
  | bl (b : Bool) : Dv I (.bl b) (.bool b)
  | int (i : Int) : Dv I (.int i) (.int i)
  | str (x : Str) : Dv I (.str x) (.str x)
  | lst {a : Addr} {xs : List V} {ds : List D} : I a = some (.lst xs) → DvAll I xs ds → Dv I (.ref a) (.list ds)
  | tup {a : Addr} {xs : List V} {ds : List D} : I a = some (.tup xs) → DvAll I xs ds → Dv I (.ref a) (.tuple ds)
  | scr {a : Addr} {ns : List Int} : Rd I a (.lst (ns.map V.int)) → Dv I (.ref a) (.dict [(.list (ns.map .int), .none)])
  | mov {a C dx : Addr} {i j k : Int} : I a = some (.ins C dx (movF i j k)) → Dv I (.ref a) (movD C i j k)
inductive DvAll (I : Hp) : List V → List D → Prop
  | nil : DvAll I [] []
  | cons {v : V} {vs : List V} {d : D} {ds : List D} : Dv I v d → DvAll I vs ds → DvAll I (v :: vs) (d :: ds)
end
mutual
theorem dv_mono {H H' : Hp} (e : Same H H') : ∀ {v : V} {d : D}, Dv H v d → Dv H' v d
  | _, _, .non => .non
  | _, _, .bl b => .bl b
  | _, _, .int i => .int i
  | _, _, .str x => .str x
  | _, _, .lst h a => .lst (e _ _ h) (dvs_mono e a)
  | _, _, .tup h a => .tup (e _ _ h) (dvs_mono e a)
  | _, _, .scr h => .scr (rd_mono e h)
  | _, _, .mov h => .mov (e _ _ h)
theorem dvs_mono {H H' : Hp} (e : Same H H') : ∀ {vs : List V} {ds : List D}, DvAll H vs ds → DvAll H' vs ds
  | _, _, .nil => .nil
  | _, _, .cons h t => .cons (dv_mono e h) (dvs_mono e t)
end
mutual
/-- data without a dict in it -/
def plainD : D → Bool
  | .none | .bool _ | .int _ | .str _ => true
  | .list xs => plainDs xs
  | .tuple xs => plainDs xs
  | .dict _ => false
def plainDs : List D → Bool
  | [] => true
  | d :: r => plainD d && plainDs r
end
mutual
theorem dp_of {K : KF} {I : Hp} : ∀ {v : V} {d : D}, Dv I v d → plainD d = true → Dp K I v d
  | _, _, .non, _ => .non
  | _, _, .bl b, _ => .bl b
  | _, _, .int i, _ => .int i
  | _, _, .str x, _ => .str x
  | _, _, .lst h a, p => .lst (.inl (.inl h)) (dps_of a (by simpa [plainD] using p))
  | _, _, .tup h a, p => .tup (.inl (.inl h)) (dps_of a (by simpa [plainD] using p))
  | _, _, .scr h, p => by simp [plainD] at p
  | _, _, .mov h, p => by simp [plainD] at p
theorem dps_of {K : KF} {I : Hp} : ∀ {vs : List V} {ds : List D}, DvAll I vs ds → plainDs ds = true → DpAll K I vs ds
  | _, _, .nil, _ => .nil
  | _, _, .cons h t, p => by
    simp only [plainDs, Bool.and_eq_true] at p
    exact .cons (dp_of h p.1) (dps_of t p.2)
end
section
variable {H : Hp}
theorem dvs_len : ∀ {vs : List V} {ds : List D}, DvAll H vs ds → vs.length = ds.length
  | _, _, .nil => rfl
  | _, _, .cons _ t => by rw [List.length_cons, List.length_cons, dvs_len t]
theorem dvs_get : ∀ {vs : List V} {ds : List D} {i : Nat} {v : V}, DvAll H vs ds → vs[i]? = some v → ∃ d, ds[i]? = some d ∧ Dv H v d
  | _, _, _, _, .nil, e => by simp at e
  | _, _, 0, _, .cons h _, e => by simp at e; subst e; exact ⟨_, rfl, h⟩
  | _, _, i + 1, v, .cons _ t, e => by
    obtain ⟨d, h1, h2⟩ := dvs_get (i := i) (v := v) t (by simpa using e)
    exact ⟨d, by simpa using h1, h2⟩
theorem dvs_get' {vs : List V} {ds : List D} {i : Nat} {d : D} (h : DvAll H vs ds) (e : ds[i]? = some d) : ∃ v, vs[i]? = some v ∧ Dv H v d := by
  have hl := dvs_len h
  obtain ⟨hi, _⟩ := List.getElem?_eq_some_iff.mp e
  obtain ⟨d', h1, h2⟩ := dvs_get h (List.getElem?_eq_getElem (show i < vs.length by omega))
  rw [e] at h1; cases h1
  exact ⟨_, List.getElem?_eq_getElem (show i < vs.length by omega), h2⟩
theorem dvs_app : ∀ {vs ws : List V} {ds es : List D}, DvAll H vs ds → DvAll H ws es → DvAll H (vs ++ ws) (ds ++ es)
  | _, _, _, _, .nil, s => s
  | _, _, _, _, .cons h t, s => .cons h (dvs_app t s)
theorem dvs_one {v : V} {d : D} (h : Dv H v d) : DvAll H [v] [d] := .cons h .nil
theorem dvs_drop : ∀ {vs : List V} {ds : List D} (n : Nat), DvAll H vs ds → DvAll H (vs.drop n) (ds.drop n)
  | _, _, 0, h => h
  | _, _, _ + 1, .nil => .nil
  | _, _, n + 1, .cons _ t => dvs_drop n t
theorem dvs_take : ∀ {vs : List V} {ds : List D} (n : Nat), DvAll H vs ds → DvAll H (vs.take n) (ds.take n)
  | _, _, 0, _ => .nil
  | _, _, _ + 1, .nil => .nil
  | _, _, n + 1, .cons h t => .cons h (dvs_take n t)
theorem dv_int {v : V} {i : Int} (h : Dv H v (.int i)) : v = .int i := by cases h; rfl
theorem dv_bl {v : V} {b : Bool} (h : Dv H v (.bool b)) : v = .bl b := by cases h; rfl
theorem dv_str {v : V} {x : Str} (h : Dv H v (.str x)) : v = .str x := by cases h; rfl
theorem dv_non {v : V} (h : Dv H v .none) : v = .non := by cases h; rfl
theorem dv_lst {v : V} {ds : List D} (h : Dv H v (.list ds)) : ∃ a xs, v = .ref a ∧ H a = some (.lst xs) ∧ DvAll H xs ds := by
  cases h with
  | lst h a => exact ⟨_, _, rfl, h, a⟩
theorem dv_tup {v : V} {ds : List D} (h : Dv H v (.tuple ds)) : ∃ a xs, v = .ref a ∧ H a = some (.tup xs) ∧ DvAll H xs ds := by
  cases h with
  | tup h a => exact ⟨_, _, rfl, h, a⟩
theorem dv_newL {I : Hp} {p : Addr} {vs : List V} {ds : List D} (hp : I p = none) (h : DvAll I vs ds) : Dv (upd I p (.lst vs)) (.ref p) (.list ds) := .lst upd_same (dvs_mono (same_upd hp) h)
theorem dv_newT {I : Hp} {p : Addr} {vs : List V} {ds : List D} (hp : I p = none) (h : DvAll I vs ds) : Dv (upd I p (.tup vs)) (.ref p) (.tuple ds) := .tup upd_same (dvs_mono (same_upd hp) h)
end

/-! ### slots -/
/-- a game's fields -/
def gameF (rv : V) (kl pl : Addr) : List (Str × V) := [("rules", rv), ("kept", .ref kl), ("played", .ref pl)]
/-- what a slot is known to hold: nothing, data, a list of the frame's own, a game that stands still here (its class, rules, kept places, played texts) -/
inductive SD where
  | no
  | im (d : D)
  | ow (ds : List D)
  | gm (C g kl pl : Addr) (r : D) (ks ts : List D)
abbrev Sl := List SD
def SlotOk (H0 I H : Hp) (o : Option V) : SD → Prop
  | .no => True
  | .im d => ∃ v, o = some v ∧ Dv I v d
  | .ow ds => ∃ a vs, o = some (.ref a) ∧ H0 a = none ∧ I a = none ∧ H a = some (.lst vs) ∧ DvAll I vs ds
  | .gm C g kl pl r ks ts => ∃ (dx : Addr) (rv : V) (vs us : List V), o = some (.ref g) ∧ H0 g = some (.ins C dx (gameF rv kl pl)) ∧ H0 kl = some (.lst vs) ∧ H0 pl = some (.lst us) ∧ Dv I rv r ∧ DvAll I vs ks ∧ DvAll I us ts
structure StOk (H0 I H : Hp) (σ : St) (ρ : Sl) : Prop where
  len : σ.length = ρ.length
  get : ∀ (i : Nat) (s : SD), ρ[i]? = some s → ∃ o, σ[i]? = some o ∧ SlotOk H0 I H o s
  apart : ∀ (i j : Nat) (a : Addr) (ds es : List D), i ≠ j → ρ[i]? = some (.ow ds) → ρ[j]? = some (.ow es) → σ[i]? = some (some (.ref a)) → σ[j]? ≠ some (some (.ref a))
/-- the state within a def's body: I0, H0 the heaps at its entry -/
structure Bd (I0 H0 : Hp) (σ : St) (ρ : Sl) (I H : Hp) : Prop where
  st : Step I0 H0 I H
  ok : StOk H0 I H σ ρ
section
variable {I0 H0 I H I' H' : Hp} {σ : St} {ρ : Sl}
theorem SlotOk.mono {o : Option V} {s : SD} (h : SlotOk H0 I H o s) (t : Step I H I' H') : SlotOk H0 I' H' o s := by
  cases s with
  | no => trivial
  | im d => obtain ⟨v, e, p⟩ := h; exact ⟨v, e, dv_mono t.i p⟩
  | ow ds =>
    obtain ⟨a, vs, e, h0, hi, hh, p⟩ := h
    exact ⟨a, vs, e, h0, t.n a hi (by rw [hh]; simp), t.h a _ hh, dvs_mono t.i p⟩
  | gm C g kl pl r ks ts =>
    obtain ⟨dx, rv, vs, us, e, h1, h2, h3, d1, d2, d3⟩ := h
    exact ⟨dx, rv, vs, us, e, h1, h2, h3, dv_mono t.i d1, dvs_mono t.i d2, dvs_mono t.i d3⟩
theorem Bd.step (b : Bd I0 H0 σ ρ I H) (t : Step I H I' H') : Bd I0 H0 σ ρ I' H' where
  st := b.st.trans t
  ok := ⟨b.ok.len, fun i s e => let ⟨o, e1, h⟩ := b.ok.get i s e; ⟨o, e1, h.mono t⟩, b.ok.apart⟩
theorem Bd.sub (b : Bd I0 H0 σ ρ I H) : Same I H := b.st.s
theorem Bd.refl (b : Bd I0 H0 σ ρ I H) : Step I H I H := Step.refl b.sub
theorem Bd.im {i : Nat} {d : D} (b : Bd I0 H0 σ ρ I H) (e : ρ[i]? = some (.im d)) : ∃ v, σ[i]? = some (some v) ∧ Dv I v d := by
  obtain ⟨o, e1, v, rfl, p⟩ := b.ok.get i _ e
  exact ⟨v, e1, p⟩
theorem Bd.ow {i : Nat} {ds : List D} (b : Bd I0 H0 σ ρ I H) (e : ρ[i]? = some (.ow ds)) : ∃ a vs, σ[i]? = some (some (.ref a)) ∧ H0 a = none ∧ I a = none ∧ H a = some (.lst vs) ∧ DvAll I vs ds := by
  obtain ⟨o, e1, a, vs, rfl, p⟩ := b.ok.get i _ e
  exact ⟨a, vs, e1, p⟩
/-- a slot takes data -/
theorem Bd.set {i : Nat} {v : V} {d : D} (b : Bd I0 H0 σ ρ I H) (p : Dv I v d) : Bd I0 H0 (σ.set i (some v)) (ρ.set i (.im d)) I H where
  st := b.st
  ok := by
    refine ⟨by simpa using b.ok.len, fun j s e => ?_, fun j k a ds es hne e1 e2 e3 => ?_⟩
    · by_cases hj : i = j
      · subst hj
        have hl : i < ρ.length := by
          have := (List.getElem?_eq_some_iff.mp e).1
          simpa using this
        rw [List.getElem?_set_self hl] at e
        cases e
        exact ⟨some v, by rw [List.getElem?_set_self (by rw [b.ok.len]; exact hl)], v, rfl, p⟩
      · rw [List.getElem?_set_ne hj] at e
        obtain ⟨o, h1, h2⟩ := b.ok.get j s e
        exact ⟨o, by rw [List.getElem?_set_ne hj]; exact h1, h2⟩
    · have n1 : i ≠ j := fun z => by
        subst z
        have hl := (List.getElem?_eq_some_iff.mp e1).1
        rw [List.getElem?_set_self (by simpa using hl)] at e1
        cases e1
      have n2 : i ≠ k := fun z => by
        subst z
        have hl := (List.getElem?_eq_some_iff.mp e2).1
        rw [List.getElem?_set_self (by simpa using hl)] at e2
        cases e2
      rw [List.getElem?_set_ne n1] at e1 e3
      rw [List.getElem?_set_ne n2] at e2 ⊢
      exact b.ok.apart j k a ds es hne e1 e2 e3
/-- a slot takes a new list of the frame's own -/
theorem Bd.setOw {i : Nat} {a : Addr} {vs : List V} {ds : List D} (b : Bd I0 H0 σ ρ I H) (h0 : H0 a = none) (hi : I a = none) (hh : H a = some (.lst vs)) (p : DvAll I vs ds)
    (new : ∀ (j : Nat) es, ρ[j]? = some (.ow es) → i ≠ j → σ[j]? ≠ some (some (.ref a))) : Bd I0 H0 (σ.set i (some (.ref a))) (ρ.set i (.ow ds)) I H where
  st := b.st
  ok := by
    refine ⟨by simpa using b.ok.len, fun j s e => ?_, fun j k c xs es hne e1 e2 e3 => ?_⟩
    · by_cases hj : i = j
      · subst hj
        have hl : i < ρ.length := by
          have := (List.getElem?_eq_some_iff.mp e).1
          simpa using this
        rw [List.getElem?_set_self hl] at e
        cases e
        exact ⟨_, by rw [List.getElem?_set_self (by rw [b.ok.len]; exact hl)], a, vs, rfl, h0, hi, hh, p⟩
      · rw [List.getElem?_set_ne hj] at e
        obtain ⟨o, h1, h2⟩ := b.ok.get j s e
        exact ⟨o, by rw [List.getElem?_set_ne hj]; exact h1, h2⟩
    · by_cases hj : i = j
      · subst hj
        have hl : i < ρ.length := by simpa using (List.getElem?_eq_some_iff.mp e1).1
        rw [List.getElem?_set_self (by rw [b.ok.len]; exact hl)] at e3
        rw [List.getElem?_set_ne hne] at e2 ⊢
        cases e3
        exact new k es e2 hne
      · by_cases hk : i = k
        · subst hk
          have hl : i < ρ.length := by simpa using (List.getElem?_eq_some_iff.mp e2).1
          rw [List.getElem?_set_self (by rw [b.ok.len]; exact hl)]
          rw [List.getElem?_set_ne hj] at e1 e3
          intro z
          cases z
          exact new j xs e1 hj e3
        · rw [List.getElem?_set_ne hj] at e1 e3
          rw [List.getElem?_set_ne hk] at e2 ⊢
          exact b.ok.apart j k c xs es hne e1 e2 e3
/-- the list in slot i changes -/
theorem Bd.mut {i : Nat} {a : Addr} {vs ws : List V} {ds es : List D} (b : Bd I0 H0 σ ρ I H) (e : ρ[i]? = some (.ow ds)) (ea : σ[i]? = some (some (.ref a))) (hh : H a = some (.lst vs)) (p : DvAll I ws es) :
    Bd I0 H0 σ (ρ.set i (.ow es)) I (upd H a (.lst ws)) := by
  obtain ⟨a', vs', e1, h0, hi, hh', _⟩ := b.ow e
  rw [ea] at e1; cases e1
  have hl : i < ρ.length := (List.getElem?_eq_some_iff.mp e).1
  refine ⟨⟨fun c o q => ?_, b.st.i, fun c o q => ?_, b.st.n⟩, ⟨by simpa using b.ok.len, fun j s q => ?_, fun j k c xs zs hne q1 q2 q3 => ?_⟩⟩
  · rw [upd_ne (fun z => by subst z; rw [h0] at q; cases q)]; exact b.st.h c o q
  · rw [upd_ne (fun z => by subst z; rw [hi] at q; cases q)]; exact b.st.s c o q
  · by_cases hj : i = j
    · subst hj
      rw [List.getElem?_set_self hl] at q
      cases q
      exact ⟨_, ea, a, ws, rfl, h0, hi, upd_same, p⟩
    · rw [List.getElem?_set_ne hj] at q
      obtain ⟨o, h1, h2⟩ := b.ok.get j s q
      refine ⟨o, h1, ?_⟩
      cases s with
      | no => trivial
      | im d => exact h2
      | gm C g kl pl r ks ts => exact h2
      | ow xs =>
        obtain ⟨c, us, rfl, g0, gi, gh, gp⟩ := h2
        have hne : c ≠ a := fun z => by
          subst z
          exact b.ok.apart i j c ds xs hj e q ea h1
        exact ⟨c, us, rfl, g0, gi, by rw [upd_ne hne]; exact gh, gp⟩
  · have f : ∀ (m : Nat) (xs : List D), (ρ.set i (.ow es))[m]? = some (SD.ow xs) → ∃ ys, ρ[m]? = some (SD.ow ys) := fun m xs q => by
      by_cases hm : i = m
      · subst hm; exact ⟨ds, e⟩
      · rw [List.getElem?_set_ne hm] at q; exact ⟨xs, q⟩
    obtain ⟨x1, r1⟩ := f j xs q1
    obtain ⟨x2, r2⟩ := f k zs q2
    exact b.ok.apart j k c x1 x2 hne r1 r2 q3
/-- a list of the frame's own stands still from here on -/
theorem Bd.frz {i : Nat} {ds : List D} (b : Bd I0 H0 σ ρ I H) (e : ρ[i]? = some (.ow ds)) : ∃ I', Bd I0 H0 σ (ρ.set i (.im (.list ds))) I' H ∧ Same I I' := by
  obtain ⟨a, vs, e1, h0, hi, hh, p⟩ := b.ow e
  have hl : i < ρ.length := (List.getElem?_eq_some_iff.mp e).1
  have hs : Same I (upd I a (.lst vs)) := same_upd hi
  refine ⟨upd I a (.lst vs), ⟨⟨b.st.h, b.st.i.trans hs, fun c o q => ?_, fun c hc hn => ?_⟩, ⟨by simpa using b.ok.len, fun j s q => ?_, fun j k c xs zs hne q1 q2 q3 => ?_⟩⟩, hs⟩
  · by_cases hc : c = a
    · subst hc; rw [upd_same] at q; cases q; exact hh
    · rw [upd_ne hc] at q; exact b.st.s c o q
  · rw [upd_ne (fun z => hn (by rw [z]; exact h0))]; exact b.st.n c hc hn
  · by_cases hj : i = j
    · subst hj
      rw [List.getElem?_set_self hl] at q
      cases q
      exact ⟨_, e1, .ref a, rfl, dv_newL hi p⟩
    · rw [List.getElem?_set_ne hj] at q
      obtain ⟨o, h1, h2⟩ := b.ok.get j s q
      refine ⟨o, h1, ?_⟩
      cases s with
      | no => trivial
      | im d => obtain ⟨v, r, z⟩ := h2; exact ⟨v, r, dv_mono hs z⟩
      | gm C g kl pl r ks ts =>
        obtain ⟨dx, rv, vs, us, e, h1, h2, h3, d1, d2, d3⟩ := h2
        exact ⟨dx, rv, vs, us, e, h1, h2, h3, dv_mono hs d1, dvs_mono hs d2, dvs_mono hs d3⟩
      | ow xs =>
        obtain ⟨c, us, rfl, g0, gi, gh, gp⟩ := h2
        have hne : c ≠ a := fun z => by
          subst z
          exact b.ok.apart i j c ds xs hj e q e1 h1
        exact ⟨c, us, rfl, g0, by rw [upd_ne hne]; exact gi, gh, dvs_mono hs gp⟩
  · have f : ∀ (m : Nat) (xs : List D), (ρ.set i (.im (.list ds)))[m]? = some (SD.ow xs) → ρ[m]? = some (SD.ow xs) := fun m xs q => by
      by_cases hm : i = m
      · subst hm; rw [List.getElem?_set_self hl] at q; cases q
      · rw [List.getElem?_set_ne hm] at q; exact q
    exact b.ok.apart j k c xs zs hne (f j xs q1) (f k zs q2) q3
end
def frz1 (i : Nat) (ρ : Sl) : Sl := match ρ[i]? with
  | some (.ow ds) => ρ.set i (.im (.list ds))
  | _ => ρ
def frz : List Nat → Sl → Sl
  | [], ρ => ρ
  | i :: r, ρ => frz r (frz1 i ρ)
theorem Bd.frz1 {I0 H0 I H : Hp} {σ : St} {ρ : Sl} (b : Bd I0 H0 σ ρ I H) (i : Nat) : ∃ I', Bd I0 H0 σ (RB.frz1 i ρ) I' H ∧ Same I I' := by
  unfold RB.frz1
  split
  · rename_i ds e
    exact b.frz e
  · exact ⟨I, b, Same.refl _⟩
theorem Bd.frzs {I0 H0 H : Hp} {σ : St} : ∀ (is : List Nat) {ρ : Sl} {I : Hp}, Bd I0 H0 σ ρ I H → ∃ I', Bd I0 H0 σ (RB.frz is ρ) I' H ∧ Same I I'
  | [], _, I, b => ⟨I, b, Same.refl _⟩
  | i :: r, _, _, b => by
    obtain ⟨I1, b1, s1⟩ := b.frz1 i
    obtain ⟨I2, b2, s2⟩ := Bd.frzs r b1
    exact ⟨I2, b2, s1.trans s2⟩
end RB
set_option Elab.async false
set_option linter.all false
set_option maxRecDepth 100000
set_option maxHeartbeats 2000000
set_option autoImplicit false
/-! DV2: expressions over data. -/
namespace RB
open PySem PySem.Spec L2

section
variable {X : Cx}
theorem PE.imp {e : Expr} {t t' : TE} (h : PE X e t) (k : ∀ σ H Q, t' σ H Q → t σ H Q) : PE X e t' := ⟨fun pins s σ H Q I q => h.run pins s σ H Q I (k σ H Q q)⟩
theorem PT.imp {e : Expr} {t t' : TT} (h : PT X e t) (k : ∀ σ H Q, t' σ H Q → t σ H Q) : PT X e t' := ⟨fun pins s σ H Q I q => h.run pins s σ H Q I (k σ H Q q)⟩
theorem PW.imp {e : Expr} {t t' : TT} (h : PW X e t) (k : ∀ σ H Q, t' σ H Q → t σ H Q) : PW X e t' := ⟨fun wh pins s σ H Q I q => h.run wh pins s σ H Q I (k σ H Q q)⟩
theorem PA.imp {es : List Expr} {t t' : TA} (h : PA X es t) (k : ∀ σ H Q, t' σ H Q → t σ H Q) : PA X es t' := ⟨fun pos pins s σ H Q I q => h.run pos pins s σ H Q I (k σ H Q q)⟩
theorem PO.imp {e : Option Expr} {t t' : TO} (h : PO X e t) (k : ∀ σ H Q, t' σ H Q → t σ H Q) : PO X e t' := ⟨fun pins s σ H Q I q => h.run pins s σ H Q I (k σ H Q q)⟩
end

def rd (I0 H0 : Hp) (ρ : Sl) (d : D) : TE := fun σ H Q => ∃ I, Bd I0 H0 σ ρ I H ∧ ∀ v H' I', Step I H I' H' → Dv I' v d → Q v H'
def rdT (I0 H0 : Hp) (ρ : Sl) (b : Bool) : TT := fun σ H Q => ∃ I, Bd I0 H0 σ ρ I H ∧ ∀ H' I', Step I H I' H' → Q b H'
def rdA (I0 H0 : Hp) (ρ : Sl) (ds : List D) : TA := fun σ H Q => ∃ I, Bd I0 H0 σ ρ I H ∧ ∀ vs H' I', Step I H I' H' → DvAll I' vs ds → Q vs H'
def rdO (I0 H0 : Hp) (ρ : Sl) (o : Option Int) : TO := fun σ H Q => ∃ I, Bd I0 H0 σ ρ I H ∧ ∀ H' I', Step I H I' H' → Q o H'
abbrev FE := Sl → Option D
abbrev FT := Sl → Option Bool
abbrev FA := Sl → Option (List D)
abbrev FO := Sl → Option (Option Int)
structure DE (X : Cx) (e : Expr) (f : FE) : Prop where
  run : ∀ (ρ : Sl) (d : D), f ρ = some d → ∀ I0 H0, PE X e (rd I0 H0 ρ d)
structure DT (X : Cx) (e : Expr) (f : FT) : Prop where
  run : ∀ (ρ : Sl) (b : Bool), f ρ = some b → ∀ I0 H0, PT X e (rdT I0 H0 ρ b)
structure DW (X : Cx) (e : Expr) (f : FT) : Prop where
  run : ∀ (ρ : Sl) (b : Bool), f ρ = some b → ∀ I0 H0, PW X e (rdT I0 H0 ρ b)
structure DA (X : Cx) (es : List Expr) (f : FA) : Prop where
  run : ∀ (ρ : Sl) (ds : List D), f ρ = some ds → ∀ I0 H0, PA X es (rdA I0 H0 ρ ds)
structure DO (X : Cx) (e : Option Expr) (f : FO) : Prop where
  run : ∀ (ρ : Sl) (o : Option Int), f ρ = some o → ∀ I0 H0, PO X e (rdO I0 H0 ρ o)

/-! ### what expressions give, over slots -/
def litE (d : D) : FE := fun _ => some d
def varE (i : Nat) : FE := fun ρ => match ρ[i]? with
  | some (.im d) => some d
  | _ => none
/-- what stands in a slot, the frame's own list too: to be looked at alone -/
def ownE (i : Nat) : FE := fun ρ => match ρ[i]? with
  | some (.im d) => some d
  | some (.ow ds) => some (.list ds)
  | _ => none
def binE (g : D → D → Option D) (f h : FE) : FE := fun ρ => (f ρ).bind fun x => (h ρ).bind fun y => g x y
def unE (g : D → Option D) (f : FE) : FE := fun ρ => (f ρ).bind g
def asB : D → Option Bool
  | .bool b => some b
  | _ => none
def asI : D → Option Int
  | .int i => some i
  | _ => none
def tstT (f : FE) : FT := fun ρ => (f ρ).bind asB
def binT (g : D → D → Option D) (f h : FE) : FT := tstT (binE g f h)
def andT (f g : FT) : FT := fun ρ => (f ρ).bind fun b => if b = true then g ρ else some false
def orT (f g : FT) : FT := fun ρ => (f ρ).bind fun b => if b = true then some true else g ρ
def notT (f : FT) : FT := fun ρ => (f ρ).map fun b => !b
def andE (f g : FE) : FE := fun ρ => (tstT f ρ).bind fun b => if b = true then g ρ else some (.bool false)
def orE (f g : FE) : FE := fun ρ => (tstT f ρ).bind fun b => if b = true then some (.bool true) else g ρ
def notE (f : FE) : FE := fun ρ => (tstT f ρ).map fun b => .bool (!b)
def nilA : FA := fun _ => some []
def consA (f : FE) (g : FA) : FA := fun ρ => (f ρ).bind fun d => (g ρ).map fun ds => d :: ds
def lineA (f : FA) : FA := fun ρ => (f ρ).bind fun ds => if ds.length ≤ sizeLine then some ds else none
def tupE (f : FA) : FE := fun ρ => (lineA f ρ).map .tuple
def lstE (f : FA) : FE := fun ρ => (lineA f ρ).map .list
def callE (g : List D → Option D) (f : FA) : FE := fun ρ => (f ρ).bind g
def noneO : FO := fun _ => some none
def someO (f : FE) : FO := fun ρ => (f ρ).bind fun d => (asI d).map some
def slE (f : FE) (l h : FO) (g : D → Option Int → Option Int → Option D) : FE := fun ρ => (f ρ).bind fun d => (l ρ).bind fun a => (h ρ).bind fun b => g d a b
def chainT (g g' : D → D → Option D) (f h k : FE) : FT := fun ρ => (f ρ).bind fun x => (h ρ).bind fun y => (g x y).bind fun z => (asB z).bind fun b =>
  if b = true then (k ρ).bind fun w => (g' y w).bind asB else some false

/-! ### names, constants -/
section
variable {X : Cx} {pos : Pos}
theorem de_int {i : Int} {j : Nat} : DE X (.Constant (.int i) j pos) (litE (.int i)) := ⟨fun ρ d h I0 H0 => PE.imp pe_int fun σ H Q ⟨I, b, q⟩ => by cases h; exact q _ _ _ b.refl (.int i)⟩
theorem de_bl {i : Bool} {j : Nat} : DE X (.Constant (.bool i) j pos) (litE (.bool i)) := ⟨fun ρ d h I0 H0 => PE.imp pe_bl fun σ H Q ⟨I, b, q⟩ => by cases h; exact q _ _ _ b.refl (.bl i)⟩
theorem de_non {j : Nat} : DE X (.Constant .none j pos) (litE .none) := ⟨fun ρ d h I0 H0 => PE.imp pe_non fun σ H Q ⟨I, b, q⟩ => by cases h; exact q _ _ _ b.refl .non⟩
theorem de_str {z : Str} {j : Nat} : DE X (.Constant (.str z) j pos) (litE (.str z)) := ⟨fun ρ d h I0 H0 => PE.imp pe_str fun σ H Q ⟨I, b, q⟩ => by cases h; exact q _ _ _ b.refl (.str z)⟩
theorem de_var (i : Nat) {x : Str} (hN : X.N[i]? = some x := by rfl) (hv : Vis X.env.scope x := by first | exact Or.inl rfl | exact Or.inr (Or.inl rfl) | exact Or.inr (Or.inr rfl)) (hd : (x == ("__debug__" : Str)) = false := by decide)
    (hcd : (x == ("__classdict__" : Str)) = false := by decide) : DE X (.Name x pos) (varE i) := ⟨fun ρ d h I0 H0 => PE.imp (pe_var hN hv hd hcd) fun σ H Q ⟨I, b, q⟩ => by
  unfold varE at h
  split at h
  · rename_i d' e
    cases h
    obtain ⟨v, e1, p⟩ := b.im e
    exact ⟨v, e1, q v H I b.refl p⟩
  · cases h⟩
theorem de_gstr {x z : Str} {t : Tok} (hg : Gl X x) (hm : X.mg x = some (.str z t)) (hd : (x == ("__debug__" : Str)) = false := by decide) : DE X (.Name x pos) (litE (.str z)) :=
  ⟨fun ρ d h I0 H0 => PE.imp (pe_glob hg hm (v := .str z) ⟨t, rfl⟩ hd) fun σ H Q ⟨I, b, q⟩ => by cases h; exact q _ _ _ b.refl (.str z)⟩

/-! ### two places -/
/-- what r asks, from data -/
def OpD (X : Cx) (f : Value → Value → Sem Value) (g : D → D → Option D) : Prop := ∀ x y d, g x y = some d →
  ∃ r : R2, OpR X f r ∧ ∀ (I H : Hp) (vx vy : V) (Q : VK), Same I H → Dv I vx x → Dv I vy y → (∀ v H' I', Step I H I' H' → Dv I' v d → Q v H') → r vx vy H Q
variable {a b c : Expr} {f g h : FE}
theorem bind_some {α β : Type} {o : Option α} {k : α → Option β} {y : β} (e : o.bind k = some y) : ∃ x, o = some x ∧ k x = some y := Option.bind_eq_some_iff.mp e
theorem map_some' {α β : Type} {o : Option α} {k : α → β} {y : β} (e : o.map k = some y) : ∃ x, o = some x ∧ k x = y := Option.map_eq_some_iff.mp e
theorem bin_rd {I0 H0 : Hp} {ρ : Sl} {x y d : D} {r : R2} {σ : L2.St} {H : Hp} {Q : VK} (k : ∀ (I H : Hp) (vx vy : V) (Q : VK), Same I H → Dv I vx x → Dv I vy y → (∀ v H' I', Step I H I' H' → Dv I' v d → Q v H') → r vx vy H Q)
    (q : rd I0 H0 ρ d σ H Q) : tOp r (rd I0 H0 ρ x) (rd I0 H0 ρ y) σ H Q := by
  obtain ⟨I, b, q⟩ := q
  exact ⟨I, b, fun v1 H1 I1 s1 d1 => ⟨I1, b.step s1, fun v2 H2 I2 s2 d2 => k I2 H2 v1 v2 Q s2.s (dv_mono s2.i d1) d2 fun v H' I' s3 d3 => q v H' I' ((s1.trans s2).trans s3) d3⟩⟩
theorem de_bin {op : Operator} {G : D → D → Option D} (ho : OpD X (binaryOp op) G) (ha : DE X a f) (hb : DE X b g) : DE X (.BinOp a op b pos) (binE G f g) := ⟨fun ρ d e I0 H0 => by
  obtain ⟨x, ex, e⟩ := bind_some e
  obtain ⟨y, ey, e⟩ := bind_some e
  obtain ⟨r, hr, k⟩ := ho x y d e
  exact PE.imp (pe_op hr (ha.run ρ x ex I0 H0) (hb.run ρ y ey I0 H0)) fun σ H Q q => bin_rd k q⟩
theorem de_cmp {op : CmpOp} {G : D → D → Option D} (ho : OpD X (compareOp op) G) (ha : DE X a f) (hb : DE X b g) (hm : behindInMarks op b = false) : DE X (.Compare a [op] [b] pos) (binE G f g) := ⟨fun ρ d e I0 H0 => by
  obtain ⟨x, ex, e⟩ := bind_some e
  obtain ⟨y, ey, e⟩ := bind_some e
  obtain ⟨r, hr, k⟩ := ho x y d e
  exact PE.imp (pe_cmpR hr (ha.run ρ x ex I0 H0) (hb.run ρ y ey I0 H0) hm) fun σ H Q q => bin_rd k q⟩
theorem asB_some {d : D} {k : Bool} (e : asB d = some k) : d = .bool k := by
  cases d <;> simp [asB] at e
  rw [e]
theorem rdT_rd {I0 H0 : Hp} {ρ : Sl} {k : Bool} {σ : L2.St} {H : Hp} {Q : Bool → Hp → Prop} (q : rdT I0 H0 ρ k σ H Q) : rd I0 H0 ρ (.bool k) σ H fun v H' => ∃ c, v = .bl c ∧ Q c H' := by
  obtain ⟨I, b, q⟩ := q
  exact ⟨I, b, fun v H' I' s d => ⟨k, dv_bl d, q H' I' s⟩⟩
theorem dt_cmp {op : CmpOp} {G : D → D → Option D} (ho : OpD X (compareOp op) G) (ha : DE X a f) (hb : DE X b g) (hm : behindInMarks op b = false) : DT X (.Compare a [op] [b] pos) (binT G f g) := ⟨fun ρ d e I0 H0 => by
  obtain ⟨z, ez, e⟩ := bind_some e
  have e := asB_some e
  subst e
  obtain ⟨x, ex, e⟩ := bind_some ez
  obtain ⟨y, ey, e⟩ := bind_some e
  obtain ⟨r, hr, k⟩ := ho x y _ e
  exact PT.imp (pt_cmpR hr (ha.run ρ x ex I0 H0) (hb.run ρ y ey I0 H0) hm) fun σ H Q q => bin_rd (Q := fun v H' => ∃ c, v = .bl c ∧ Q c H') k (rdT_rd q)⟩
/-- an expression whose value is a truth, as a test -/
theorem dt_val (ha : DE X a f) (he : ∀ whole, isTrue a X.env whole = (do let v ← whole; standAt a.pos; holding [v] (truthy v)) := by intro _; rfl) : DT X a (tstT f) := ⟨fun ρ d e I0 H0 => by
  obtain ⟨z, ez, e⟩ := bind_some e
  have e := asB_some e
  subst e
  exact PT.imp (pt_val (ha.run ρ _ ez I0 H0) he) fun σ H Q q => rdT_rd q⟩
theorem dt_chain {op op' : CmpOp} {G G' : D → D → Option D} (ho : OpD X (compareOp op) G) (ho' : OpD X (compareOp op') G') (ha : DE X a f) (hb : DE X b g) (hc : DE X c h) (hm : lastMarks [op, op'] [b, c] = false := by rfl) :
    DT X (.Compare a [op, op'] [b, c] pos) (chainT G G' f g h) := ⟨fun ρ d e I0 H0 => by
  obtain ⟨x, ex, e⟩ := bind_some e
  obtain ⟨y, ey, e⟩ := bind_some e
  obtain ⟨z, ez, e⟩ := bind_some e
  obtain ⟨k, ek, e4⟩ := bind_some e
  have ek2 := asB_some ek
  subst ek2
  obtain ⟨r, hr, R⟩ := ho x y _ ez
  cases k with
  | true =>
    rw [if_pos rfl] at e4
    obtain ⟨w, ew, e5⟩ := bind_some e4
    obtain ⟨u, eu, e6⟩ := bind_some e5
    have e7 := asB_some e6
    subst e7
    obtain ⟨r', hr', R'⟩ := ho' y w _ eu
    refine PT.imp (pt_chain hr hr' (ha.run ρ x ex I0 H0) (hb.run ρ y ey I0 H0) (hc.run ρ w ew I0 H0) hm) ?_
    intro σ H Q q
    obtain ⟨I, b, q⟩ := q
    refine ⟨I, b, fun v1 H1 I1 s1 d1 => ⟨I1, b.step s1, fun v2 H2 I2 s2 d2 => ?_⟩⟩
    refine R I2 H2 v1 v2 _ s2.s (dv_mono s2.i d1) d2 fun v H3 I3 s3 d3 => ⟨true, dv_bl d3, ?_⟩
    refine iteT ?_
    refine ⟨I3, ((b.step s1).step s2).step s3, fun v4 H4 I4 s4 d4 => ?_⟩
    exact R' I4 H4 v2 v4 _ s4.s (dv_mono (s3.i.trans s4.i) d2) d4 fun v5 H5 I5 s5 d5 => ⟨d, dv_bl d5, q H5 I5 ((((s1.trans s2).trans s3).trans s4).trans s5)⟩
  | false =>
    rw [if_neg (by decide)] at e4
    cases e4
    refine PT.imp (pt_chain (r' := fun _ _ _ _ => False) (tc := fun _ _ _ => False) hr (fun _ _ _ _ _ _ _ _ _ _ _ _ z => z.elim) (ha.run ρ x ex I0 H0) (hb.run ρ y ey I0 H0) ⟨fun _ _ _ _ _ _ z => z.elim⟩ hm) ?_
    intro σ H Q q
    obtain ⟨I, b, q⟩ := q
    refine ⟨I, b, fun v1 H1 I1 s1 d1 => ⟨I1, b.step s1, fun v2 H2 I2 s2 d2 => ?_⟩⟩
    refine R I2 H2 v1 v2 _ s2.s (dv_mono s2.i d1) d2 fun v H3 I3 s3 d3 => ⟨false, dv_bl d3, ?_⟩
    refine iteF ?_
    exact ⟨false, rfl, q H3 I3 ((s1.trans s2).trans s3)⟩⟩

/-! ### and, or, not -/
variable {t u : FT} {rest : List Expr}
theorem dw_and1 (ha : DT X a t) : DW X (.BoolOp .And [a] pos) t := ⟨fun ρ d e I0 H0 => pw_and1 (ha.run ρ d e I0 H0)⟩
theorem dw_or1 (ha : DT X a t) : DW X (.BoolOp .Or [a] pos) t := ⟨fun ρ d e I0 H0 => pw_or1 (ha.run ρ d e I0 H0)⟩
theorem dw_and (ha : DT X a t) (hb : DW X (.BoolOp .And (b :: rest) pos) u) : DW X (.BoolOp .And (a :: b :: rest) pos) (andT t u) := ⟨fun ρ d e I0 H0 => by
  obtain ⟨k, ek, e⟩ := bind_some e
  cases k with
  | true =>
    rw [if_pos rfl] at e
    exact PW.imp (pw_and (ha.run ρ _ ek I0 H0) (hb.run ρ d e I0 H0)) fun σ H Q ⟨I, b, q⟩ => ⟨I, b, fun H1 I1 s1 => iteT ⟨I1, b.step s1, fun H2 I2 s2 => q H2 I2 (s1.trans s2)⟩⟩
  | false =>
    rw [if_neg (by decide)] at e
    cases e
    exact PW.imp (pw_and (tB' := fun _ _ _ => False) (ha.run ρ _ ek I0 H0) ⟨fun _ _ _ _ _ _ _ z => z.elim⟩) fun σ H Q ⟨I, b, q⟩ => ⟨I, b, fun H1 I1 s1 => iteF (q H1 I1 s1)⟩⟩
theorem dw_or (ha : DT X a t) (hb : DW X (.BoolOp .Or (b :: rest) pos) u) : DW X (.BoolOp .Or (a :: b :: rest) pos) (orT t u) := ⟨fun ρ d e I0 H0 => by
  obtain ⟨k, ek, e⟩ := bind_some e
  cases k with
  | false =>
    rw [if_neg (by decide)] at e
    exact PW.imp (pw_or (ha.run ρ _ ek I0 H0) (hb.run ρ d e I0 H0)) fun σ H Q ⟨I, b, q⟩ => ⟨I, b, fun H1 I1 s1 => iteF ⟨I1, b.step s1, fun H2 I2 s2 => q H2 I2 (s1.trans s2)⟩⟩
  | true =>
    rw [if_pos rfl] at e
    cases e
    exact PW.imp (pw_or (tB' := fun _ _ _ => False) (ha.run ρ _ ek I0 H0) ⟨fun _ _ _ _ _ _ _ z => z.elim⟩) fun σ H Q ⟨I, b, q⟩ => ⟨I, b, fun H1 I1 s1 => iteT (q H1 I1 s1)⟩⟩
theorem DW.dt {e : Expr} (h : DW X e t) : DT X e t := ⟨fun ρ d q I0 H0 => (h.run ρ d q I0 H0).pt⟩
theorem dt_not (ha : DT X a t) : DT X (.UnaryOp .Not a pos) (notT t) := ⟨fun ρ d e I0 H0 => by
  obtain ⟨k, ek, rfl⟩ := map_some' e
  exact PT.imp (pt_not (ha.run ρ _ ek I0 H0)) fun σ H Q q => q⟩
theorem de_one {op : BoolOp} (ha : DE X a f) : DE X (.BoolOp op [a] pos) f := ⟨fun ρ d e I0 H0 => pe_one (ha.run ρ d e I0 H0)⟩
theorem de_and (ha : DE X a f) (hb : DE X (.BoolOp .And (b :: rest) pos) g) : DE X (.BoolOp .And (a :: b :: rest) pos) (andE f g) := ⟨fun ρ d e I0 H0 => by
  obtain ⟨k, ek, e⟩ := bind_some e
  obtain ⟨z, ez, ek⟩ := bind_some ek
  have ek := asB_some ek
  subst ek
  cases k with
  | true =>
    rw [if_pos rfl] at e
    exact PE.imp (pe_and (ha.run ρ _ ez I0 H0) (hb.run ρ d e I0 H0)) fun σ H Q ⟨I, b, q⟩ => ⟨I, b, fun v H1 I1 s1 d1 => ⟨true, dv_bl d1, iteT ⟨I1, b.step s1, fun v2 H2 I2 s2 d2 => q v2 H2 I2 (s1.trans s2) d2⟩⟩⟩
  | false =>
    rw [if_neg (by decide)] at e
    cases e
    exact PE.imp (pe_and (tb := fun _ _ _ => False) (ha.run ρ _ ez I0 H0) ⟨fun _ _ _ _ _ _ z => z.elim⟩) fun σ H Q ⟨I, b, q⟩ => ⟨I, b, fun v H1 I1 s1 d1 => ⟨false, dv_bl d1, iteF (q _ H1 I1 s1 (.bl false))⟩⟩⟩
theorem de_or (ha : DE X a f) (hb : DE X (.BoolOp .Or (b :: rest) pos) g) : DE X (.BoolOp .Or (a :: b :: rest) pos) (orE f g) := ⟨fun ρ d e I0 H0 => by
  obtain ⟨k, ek, e⟩ := bind_some e
  obtain ⟨z, ez, ek⟩ := bind_some ek
  have ek := asB_some ek
  subst ek
  cases k with
  | false =>
    rw [if_neg (by decide)] at e
    exact PE.imp (pe_or (ha.run ρ _ ez I0 H0) (hb.run ρ d e I0 H0)) fun σ H Q ⟨I, b, q⟩ => ⟨I, b, fun v H1 I1 s1 d1 => ⟨false, dv_bl d1, iteF ⟨I1, b.step s1, fun v2 H2 I2 s2 d2 => q v2 H2 I2 (s1.trans s2) d2⟩⟩⟩
  | true =>
    rw [if_pos rfl] at e
    cases e
    exact PE.imp (pe_or (tb := fun _ _ _ => False) (ha.run ρ _ ez I0 H0) ⟨fun _ _ _ _ _ _ z => z.elim⟩) fun σ H Q ⟨I, b, q⟩ => ⟨I, b, fun v H1 I1 s1 d1 => ⟨true, dv_bl d1, iteT (q _ H1 I1 s1 (.bl true))⟩⟩⟩
theorem de_not (ha : DE X a f) : DE X (.UnaryOp .Not a pos) (notE f) := ⟨fun ρ d e I0 H0 => by
  obtain ⟨k, ek, rfl⟩ := map_some' e
  obtain ⟨z, ez, ek⟩ := bind_some ek
  have ek := asB_some ek
  subst ek
  exact PE.imp (pe_not (ha.run ρ _ ez I0 H0)) fun σ H Q ⟨I, b, q⟩ => ⟨I, b, fun v H1 I1 s1 d1 => ⟨k, dv_bl d1, q _ H1 I1 s1 (.bl _)⟩⟩⟩

/-! ### displays, arguments -/
variable {es : List Expr} {fs : FA}
theorem da_nil : DA X [] nilA := ⟨fun ρ d e I0 H0 => PA.imp pa_nil fun σ H Q ⟨I, b, q⟩ => by cases e; exact q [] H I b.refl .nil⟩
theorem da_cons {e : Expr} (ha : DE X e f) (hr : DA X es fs) (hs : starEach (e :: es) X.env = (false, eval e X.env) :: starEach es X.env := by rfl) : DA X (e :: es) (consA f fs) := ⟨fun ρ d q I0 H0 => by
  obtain ⟨x, ex, q⟩ := bind_some q
  obtain ⟨xs, exs, rfl⟩ := map_some' q
  exact PA.imp (pa_cons (ha.run ρ x ex I0 H0) (hr.run ρ xs exs I0 H0) hs) fun σ H Q ⟨I, b, q⟩ => ⟨I, b, fun v H1 I1 s1 d1 => ⟨I1, b.step s1, fun vs H2 I2 s2 d2 => q (v :: vs) H2 I2 (s1.trans s2) (.cons (dv_mono s2.i d1) d2)⟩⟩⟩
theorem line_some {ρ : Sl} {ds : List D} (e : lineA fs ρ = some ds) : fs ρ = some ds ∧ ds.length ≤ sizeLine := by
  obtain ⟨xs, ex, e⟩ := bind_some e
  split at e
  · rename_i hl
    cases e
    exact ⟨ex, hl⟩
  · cases e
theorem de_tup {k : Nat} (h : DA X es fs) : DE X (.Tuple es k pos) (tupE fs) := ⟨fun ρ d q I0 H0 => by
  obtain ⟨xs, ex, rfl⟩ := map_some' q
  obtain ⟨e1, hl⟩ := line_some ex
  exact PE.imp (pe_tup (h.run ρ xs e1 I0 H0)) fun σ H Q ⟨I, b, q⟩ => ⟨I, b, fun vs H1 I1 s1 d1 => ⟨by rw [dvs_len d1]; exact hl, fun p hp => q (.ref p) _ _ (s1.trans (Step.new s1.s hp)) (dv_newT (s1.s.free hp) d1)⟩⟩⟩
theorem de_lst (h : DA X es fs) : DE X (.List es pos) (lstE fs) := ⟨fun ρ d q I0 H0 => by
  obtain ⟨xs, ex, rfl⟩ := map_some' q
  obtain ⟨e1, hl⟩ := line_some ex
  exact PE.imp (pe_lst (h.run ρ xs e1 I0 H0)) fun σ H Q ⟨I, b, q⟩ => ⟨I, b, fun vs H1 I1 s1 d1 => ⟨by rw [dvs_len d1]; exact hl, fun p hp => q (.ref p) _ _ (s1.trans (Step.new s1.s hp)) (dv_newL (s1.s.free hp) d1)⟩⟩⟩

/-! ### calls of built-ins -/
def ClD (X : Cx) (f : Value) (g : List D → Option D) : Prop := ∀ ds d, g ds = some d →
  ∃ r, CallR X f r ∧ ∀ (I H : Hp) (vs : List V) (Q : VK), Same I H → DvAll I vs ds → (∀ v H' I', Step I H I' H' → Dv I' v d → Q v H') → r vs H Q
theorem cl_rd {I0 H0 : Hp} {ρ : Sl} {ds : List D} {d : D} {r : List V → Hp → VK → Prop} {σ : L2.St} {H : Hp} {Q : VK} (k : ∀ (I H : Hp) (vs : List V) (Q : VK), Same I H → DvAll I vs ds → (∀ v H' I', Step I H I' H' → Dv I' v d → Q v H') → r vs H Q)
    (q : rd I0 H0 ρ d σ H Q) : tCB r (rdA I0 H0 ρ ds) σ H Q := by
  obtain ⟨I, b, q⟩ := q
  exact ⟨I, b, fun vs H1 I1 s1 d1 => k I1 H1 vs Q s1.s d1 fun v H' I' s3 d3 => q v H' I' (s1.trans s3) d3⟩
theorem de_callB {x : Str} {p : Pos} {e : Expr} {id : String} {G : List D → Option D} (hc : ClD X (.builtin id) G) (hg : Gl X x) (hm : X.mg x = none) (hv : bootBuiltins x = some (.builtin id)) (ha : DA X (e :: es) fs) (hn : x ≠ "__name__" := by decide) (hdb : (x == ("__debug__" : Str)) = false := by decide)
    (he : starEach (e :: es) X.env = (false, eval e X.env) :: starEach es X.env := by rfl) (hpl : (backTo pos (starEach es X.env)).any (·.1) = false := by rfl) : DE X (.Call (.Name x p) (e :: es) [] pos) (callE G fs) := ⟨fun ρ d q I0 H0 => by
  obtain ⟨xs, ex, q⟩ := bind_some q
  obtain ⟨r, hr, k⟩ := hc xs d q
  exact PE.imp (pe_callB hr hg hm hv (ha.run ρ xs ex I0 H0) hn hdb he hpl) fun σ H Q q => cl_rd k q⟩
theorem de_callTy {x : Str} {p : Pos} {e : Expr} {T : String} {G : List D → Option D} (hc : ClD X (.type T) G) (hg : Gl X x) (hm : X.mg x = none) (hv : bootBuiltins x = some (.type T)) (ha : DA X (e :: es) fs) (hn : x ≠ "__name__" := by decide) (hdb : (x == ("__debug__" : Str)) = false := by decide)
    (he : starEach (e :: es) X.env = (false, eval e X.env) :: starEach es X.env := by rfl) (hpl : (backTo pos (starEach es X.env)).any (·.1) = false := by rfl) : DE X (.Call (.Name x p) (e :: es) [] pos) (callE G fs) := ⟨fun ρ d q I0 H0 => by
  obtain ⟨xs, ex, q⟩ := bind_some q
  obtain ⟨r, hr, k⟩ := hc xs d q
  exact PE.imp (pe_callTy hr hg hm hv (ha.run ρ xs ex I0 H0) hn hdb he hpl) fun σ H Q q => cl_rd k q⟩
end
end RB
set_option Elab.async false
set_option linter.all false
set_option maxRecDepth 100000
set_option maxHeartbeats 2000000
set_option autoImplicit false
/-! DV3: operators, subscripts, built-in calls over data. -/
namespace RB
open PySem PySem.Spec L2

/-! ### operators on data -/
def okD (d : D) : Bool := plainD d && SeqAt.shaped d
def dAdd : D → D → Option D
  | .int i, .int j => some (.int (i + j))
  | .str x, .str y => if x.length + y.length ≤ sizeLine then some (.str (x ++ y)) else none
  | .list xs, .list ys => if xs.length + ys.length ≤ sizeLine then some (.list (xs ++ ys)) else none
  | _, _ => none
def dSub : D → D → Option D
  | .int i, .int j => some (.int (i - j))
  | _, _ => none
def repS (x : Str) (n : Nat) : Str := ⟨(List.replicate n x.cps).foldl (· ++ ·) #[]⟩
def dMul : D → D → Option D
  | .int i, .int j => if i.natAbs.log2 + j.natAbs.log2 < 100000000 then some (.int (i * j)) else none
  | .str x, .int k => if 2 ≤ k ∧ k ≤ 1000 ∧ 0 < x.length ∧ x.length ≤ 1000 ∧ (repS x k.toNat).length ≤ sizeLine then some (.str (repS x k.toNat)) else none
  | _, _ => none
def dFdiv : D → D → Option D
  | .int i, .int j => if 0 < j ∧ j < 1073741824 then some (.int (i / j)) else none
  | _, _ => none
def dMod : D → D → Option D
  | .int i, .int j => if 0 < j then some (.int (i % j)) else none
  | _, _ => none
def dAnd : D → D → Option D
  | .int i, .int j => some (.int (Builtin.bitAnd i j))
  | _, _ => none
def dOr : D → D → Option D
  | .int i, .int j => some (.int (Builtin.bitOr i j))
  | _, _ => none
def dShl : D → D → Option D
  | .int i, .int j => if 0 ≤ j ∧ j ≤ 1000000 ∧ i.natAbs < 2 ^ 64 then some (.int (i * 2 ^ j.toNat)) else none
  | _, _ => none
def dShr : D → D → Option D
  | .int i, .int j => if 0 ≤ j then some (.int (i / 2 ^ j.toNat)) else none
  | _, _ => none
def dEq (x y : D) : Option D := if okD x = true ∧ okD y = true then some (.bool (PyData.eqv x y)) else none
def dNe (x y : D) : Option D := if okD x = true ∧ okD y = true then some (.bool (!PyData.eqv x y)) else none
def dCmp (p : Int → Int → Bool) : D → D → Option D
  | .int i, .int j => some (.bool (p i j))
  | _, _ => none
def dLt : D → D → Option D := dCmp fun i j => decide (i < j)
def dLe : D → D → Option D := dCmp fun i j => decide (i ≤ j)
def dGt : D → D → Option D := dCmp fun i j => decide (j < i)
def dGe : D → D → Option D := dCmp fun i j => decide (j ≤ i)
def isNone : D → Bool
  | .none => true
  | _ => false
def dIs : D → D → Option D
  | x, .none => some (.bool (isNone x))
  | _, _ => none
def dIsNot : D → D → Option D
  | x, .none => some (.bool (!isNone x))
  | _, _ => none
def inD (x : D) (ds : List D) : Bool := ds.any fun y => PyData.eqv y x
def dIn0 (n : Bool → Bool) : D → D → Option D
  | .str x, .str z => match x.cps.toList with
    | [c] => some (.bool (n (decide (c ∈ z.cps.toList))))
    | _ => none
  | x, .list ds => if okD x = true ∧ okD (.list ds) = true then some (.bool (n (inD x ds))) else none
  | x, .tuple ds => if okD x = true ∧ okD (.tuple ds) = true then some (.bool (n (inD x ds))) else none
  | _, _ => none
def dIn : D → D → Option D := dIn0 id
def dNotIn : D → D → Option D := dIn0 not

section
variable {X : Cx}
theorem opd_add : OpD X (binaryOp .Add) dAdd := fun x y d h => by
  unfold dAdd at h
  split at h
  · cases h
    exact ⟨_, op_add, fun I H vx vy Q s dx dy q => ⟨_, _, dv_int dx, dv_int dy, q _ H I (Step.refl s) (.int _)⟩⟩
  · split at h
    · rename_i hl
      cases h
      exact ⟨_, op_add_str, fun I H vx vy Q s dx dy q => ⟨_, _, dv_str dx, dv_str dy, hl, q _ H I (Step.refl s) (.str _)⟩⟩
    · cases h
  · split at h
    · rename_i hl
      cases h
      refine ⟨_, op_cat, fun I H vx vy Q s dx dy q => ?_⟩
      obtain ⟨a, xs, rfl, ha, da⟩ := dv_lst dx
      obtain ⟨b, ys, rfl, hb, db⟩ := dv_lst dy
      refine ⟨a, b, xs, ys, rfl, rfl, s _ _ ha, s _ _ hb, by rw [dvs_len da, dvs_len db]; exact hl, fun p hp => ?_⟩
      exact q _ _ _ (Step.new s hp) (dv_newL (s.free hp) (dvs_app da db))
    · cases h
  · cases h
theorem opd_sub : OpD X (binaryOp .Sub) dSub := fun x y d h => by
  unfold dSub at h
  split at h
  · cases h
    exact ⟨_, op_sub, fun I H vx vy Q s dx dy q => ⟨_, _, dv_int dx, dv_int dy, q _ H I (Step.refl s) (.int _)⟩⟩
  · cases h
theorem op_mulB : OpR X (binaryOp .Mult) (rI (fun i j => i.natAbs.log2 + j.natAbs.log2 < 100000000) fun i j => .int (i * j)) := opI fun i j _ _ _ _ _ hc q => PyProof.Rows.mul_int q (by
  have b : ∀ x : Int, Builtin.Int.intBits x ≤ x.natAbs.log2 + 1 := fun x => by
    unfold Builtin.Int.intBits
    split <;> omega
  have h1 := b i
  have h2 := b j
  have e : bitsLine = 134217728 := by decide
  unfold IntMulOk
  intro z
  rw [Bool.and_eq_true] at z
  have z2 := z.2
  unfold Builtin.Int.intTooBig at z2
  have z3 := of_decide_eq_true z2
  rw [e] at z3
  omega)
theorem op_mulS : OpR X (binaryOp .Mult) (fun x y H Q => ∃ z k, x = .str z ∧ y = .int k ∧ (2 ≤ k ∧ k ≤ 1000 ∧ 0 < z.length ∧ z.length ≤ 1000 ∧ (repS z k.toNat).length ≤ sizeLine) ∧ Q (.str (repS z k.toNat)) H) := by
  intro pins s σ H x y v u Q I rx ry h
  obtain ⟨z, k, rfl, rfl, ⟨h1, h2, h3, h4, h7⟩, q⟩ := h
  obtain ⟨t, rfl⟩ := rx
  obtain ⟨t', rfl⟩ := ry
  have hk : ¬ k < 1 := by omega
  have hk1 : (k == 1 || z.length == 0) = false := by
    rw [Bool.or_eq_false_iff]
    exact ⟨by simp; omega, by simp; omega⟩
  have hz : z.length * k.toNat ≤ 1000 * 1000 := Nat.mul_le_mul h4 (by omega)
  refine P.mul_str (by simp; omega) (fun _ _ hh => ?_) (fun _ _ => ?_) ?_
  · have h5 : (2 ^ 63 - 1 : Int) / 1000 ≤ (2 ^ 63 - 1) / k := by
      refine Int.le_ediv_of_mul_le (by omega) ?_
      have : (2 ^ 63 - 1 : Int) / 1000 * k ≤ (2 ^ 63 - 1 : Int) / 1000 * 1000 := Int.mul_le_mul_of_nonneg_left (by omega) (by decide)
      omega
    have h6 : (2 ^ 63 - 1 : Int) / 1000 = 9223372036854775 := by decide
    omega
  · unfold Builtin.Str.tooLong
    rw [decide_eq_false_iff_not]
    rw [sizeLine_eq]
    omega
  · rw [if_neg hk, if_neg (by rw [hk1]; decide)]
    exact ⟨h7, ⟨.str _, H, I.tok _, ⟨_, rfl⟩, q⟩⟩

theorem opd_mul : OpD X (binaryOp .Mult) dMul := fun x y d h => by
  unfold dMul at h
  split at h
  · split at h
    · rename_i hc
      cases h
      exact ⟨_, op_mulB, fun I H vx vy Q s dx dy q => ⟨_, _, dv_int dx, dv_int dy, hc, q _ H I (Step.refl s) (.int _)⟩⟩
    · cases h
  · split at h
    · rename_i hc
      cases h
      exact ⟨_, op_mulS, fun I H vx vy Q s dx dy q => ⟨_, _, dv_str dx, dv_int dy, hc, q _ H I (Step.refl s) (.str _)⟩⟩
    · cases h
  · cases h
theorem opd_fdiv : OpD X (binaryOp .FloorDiv) dFdiv := fun x y d h => by
  unfold dFdiv at h
  split at h
  · split at h
    · rename_i hc
      cases h
      exact ⟨_, op_fdiv, fun I H vx vy Q s dx dy q => ⟨_, _, dv_int dx, dv_int dy, hc, q _ H I (Step.refl s) (.int _)⟩⟩
    · cases h
  · cases h
theorem opd_mod : OpD X (binaryOp .Mod) dMod := fun x y d h => by
  unfold dMod at h
  split at h
  · split at h
    · rename_i hc
      cases h
      exact ⟨_, op_mod, fun I H vx vy Q s dx dy q => ⟨_, _, dv_int dx, dv_int dy, hc, q _ H I (Step.refl s) (.int _)⟩⟩
    · cases h
  · cases h
theorem opd_and : OpD X (binaryOp .BitAnd) dAnd := fun x y d h => by
  unfold dAnd at h
  split at h
  · cases h
    exact ⟨_, op_and, fun I H vx vy Q s dx dy q => ⟨_, _, dv_int dx, dv_int dy, q _ H I (Step.refl s) (.int _)⟩⟩
  · cases h
theorem opd_or : OpD X (binaryOp .BitOr) dOr := fun x y d h => by
  unfold dOr at h
  split at h
  · cases h
    exact ⟨_, op_or, fun I H vx vy Q s dx dy q => ⟨_, _, dv_int dx, dv_int dy, q _ H I (Step.refl s) (.int _)⟩⟩
  · cases h
theorem opd_shl : OpD X (binaryOp .LShift) dShl := fun x y d h => by
  unfold dShl at h
  split at h
  · split at h
    · rename_i hc
      cases h
      exact ⟨_, op_shl, fun I H vx vy Q s dx dy q => ⟨_, _, dv_int dx, dv_int dy, hc, q _ H I (Step.refl s) (.int _)⟩⟩
    · cases h
  · cases h
theorem opd_shr : OpD X (binaryOp .RShift) dShr := fun x y d h => by
  unfold dShr at h
  split at h
  · split at h
    · rename_i hc
      cases h
      exact ⟨_, op_shr, fun I H vx vy Q s dx dy q => ⟨_, _, dv_int dx, dv_int dy, hc, q _ H I (Step.refl s) (.int _)⟩⟩
    · cases h
  · cases h
theorem okD_p {d : D} (h : okD d = true) : plainD d = true := (Bool.and_eq_true_iff.mp h).1
theorem okD_s {d : D} (h : okD d = true) : SeqAt.shaped d = true := (Bool.and_eq_true_iff.mp h).2
theorem opd_eq (hu : X.A.units + 64 < cLine) : OpD X (compareOp .Eq) dEq := fun x y d h => by
  unfold dEq at h
  split at h
  · rename_i hc
    cases h
    exact ⟨_, op_eqD hu, fun I H vx vy Q s dx dy q => ⟨x, y, dp_of (dv_mono s dx) (okD_p hc.1), dp_of (dv_mono s dy) (okD_p hc.2), okD_s hc.1, okD_s hc.2, q _ H I (Step.refl s) (.bl _)⟩⟩
  · cases h
theorem opd_ne (hu : X.A.units + 64 < cLine) : OpD X (compareOp .NotEq) dNe := fun x y d h => by
  unfold dNe at h
  split at h
  · rename_i hc
    cases h
    exact ⟨_, op_neD hu, fun I H vx vy Q s dx dy q => ⟨x, y, dp_of (dv_mono s dx) (okD_p hc.1), dp_of (dv_mono s dy) (okD_p hc.2), okD_s hc.1, okD_s hc.2, q _ H I (Step.refl s) (.bl _)⟩⟩
  · cases h
theorem opd_cmp {op : CmpOp} {p : Int → Int → Bool} (ho : OpR X (compareOp op) (rI0 fun i j => .bl (p i j))) : OpD X (compareOp op) (dCmp p) := fun x y d h => by
  unfold dCmp at h
  split at h
  · cases h
    exact ⟨_, ho, fun I H vx vy Q s dx dy q => ⟨_, _, dv_int dx, dv_int dy, q _ H I (Step.refl s) (.bl _)⟩⟩
  · cases h
theorem opd_lt : OpD X (compareOp .Lt) dLt := opd_cmp op_lt
theorem opd_le : OpD X (compareOp .LtE) dLe := opd_cmp op_le
theorem opd_gt : OpD X (compareOp .Gt) dGt := opd_cmp op_gt
theorem opd_ge : OpD X (compareOp .GtE) dGe := opd_cmp op_ge
theorem isNone_v {I : Hp} {v : V} {d : D} (h : Dv I v d) : decide (v = .non) = isNone d := by
  cases h <;> simp [isNone]
theorem opd_is : OpD X (compareOp .Is) dIs := fun x y d h => by
  unfold dIs at h
  split at h
  · cases h
    exact ⟨_, op_isN, fun I H vx vy Q s dx dy q => ⟨dv_non dy, by rw [isNone_v dx]; exact q _ H I (Step.refl s) (.bl _)⟩⟩
  · cases h
theorem opd_isnot : OpD X (compareOp .IsNot) dIsNot := fun x y d h => by
  unfold dIsNot at h
  split at h
  · cases h
    exact ⟨_, op_notN, fun I H vx vy Q s dx dy q => ⟨dv_non dy, by rw [isNone_v dx]; exact q _ H I (Step.refl s) (.bl _)⟩⟩
  · cases h
def rInT (K : KF) : R2 := fun x y H Q => ∃ d ds, Dp K H x d ∧ Dp K H y (.tuple ds) ∧ SeqAt.shaped d = true ∧ SeqAt.shaped (.tuple ds) = true ∧ Q (.bl (ds.any fun z => PyData.eqv z d)) H
def rNotInT (K : KF) : R2 := fun x y H Q => ∃ d ds, Dp K H x d ∧ Dp K H y (.tuple ds) ∧ SeqAt.shaped d = true ∧ SeqAt.shaped (.tuple ds) = true ∧ Q (.bl (!ds.any fun z => PyData.eqv z d)) H
theorem room_in {A : Around} {d : D} {ds : List D} (sd : SeqAt.shaped d = true) (hu : A.units + 65 < cLine) : A.units + 1 + min (PyData.depthAll ds) d.depth < cLine := by
  have h1 := SeqAt.depth_of_shaped sd
  have h2 : min (PyData.depthAll ds) d.depth ≤ d.depth := Nat.min_le_right _ _
  omega
theorem op_inT (hu : X.A.units + 65 < cLine) : OpR X (compareOp .In) (rInT X.K) := by
  intro pins s σ H x y v u Q I rx ry h
  obtain ⟨d, ds, hd, he, sd, se, q⟩ := h
  obtain ⟨as, r1⟩ := Dp.reads I d x v hd rx
  obtain ⟨bs, r2⟩ := Dp.reads I (.tuple ds) y u he ry
  exact SeqAt.in_tuple_reads r2 r1 (SeqAt.canLay_of_shaped se) (SeqAt.canLay_of_shaped sd) (room_in sd hu) ⟨.bl _, H, I, rfl, q⟩
theorem op_notInT (hu : X.A.units + 65 < cLine) : OpR X (compareOp .NotIn) (rNotInT X.K) := by
  intro pins s σ H x y v u Q I rx ry h
  obtain ⟨d, ds, hd, he, sd, se, q⟩ := h
  obtain ⟨as, r1⟩ := Dp.reads I d x v hd rx
  obtain ⟨bs, r2⟩ := Dp.reads I (.tuple ds) y u he ry
  exact SeqAt.notIn_tuple_reads r2 r1 (SeqAt.canLay_of_shaped se) (SeqAt.canLay_of_shaped sd) (room_in sd hu) ⟨.bl _, H, I, rfl, q⟩
theorem str_of_one {x : Str} {c : Nat} (h : x.cps.toList = [c]) : x = ⟨#[c]⟩ := PySem.W.str_of_cps (by simpa using h)
theorem opd_in (hu : X.A.units + 65 < cLine) : OpD X (compareOp .In) dIn := fun x y d h => by
  unfold dIn dIn0 at h
  split at h
  · split at h
    · rename_i c e
      cases h
      exact ⟨_, op_in_sign, fun I H vx vy Q s dx dy q => ⟨c, _, by rw [dv_str dx, str_of_one e], dv_str dy, q _ H I (Step.refl s) (.bl _)⟩⟩
    · cases h
  · split at h
    · rename_i hc
      cases h
      exact ⟨_, op_inD hu, fun I H vx vy Q s dx dy q => ⟨_, _, dp_of (dv_mono s dx) (okD_p hc.1), dp_of (dv_mono s dy) (okD_p hc.2), okD_s hc.1, okD_s hc.2, q _ H I (Step.refl s) (.bl _)⟩⟩
    · cases h
  · split at h
    · rename_i hc
      cases h
      exact ⟨_, op_inT hu, fun I H vx vy Q s dx dy q => ⟨_, _, dp_of (dv_mono s dx) (okD_p hc.1), dp_of (dv_mono s dy) (okD_p hc.2), okD_s hc.1, okD_s hc.2, q _ H I (Step.refl s) (.bl _)⟩⟩
    · cases h
  · cases h
theorem opd_notin (hu : X.A.units + 65 < cLine) : OpD X (compareOp .NotIn) dNotIn := fun x y d h => by
  unfold dNotIn dIn0 at h
  split at h
  · split at h
    · rename_i c e
      cases h
      exact ⟨_, op_notIn_sign, fun I H vx vy Q s dx dy q => ⟨c, _, by rw [dv_str dx, str_of_one e], dv_str dy, q _ H I (Step.refl s) (.bl _)⟩⟩
    · cases h
  · split at h
    · rename_i hc
      cases h
      exact ⟨_, op_notInD hu, fun I H vx vy Q s dx dy q => ⟨_, _, dp_of (dv_mono s dx) (okD_p hc.1), dp_of (dv_mono s dy) (okD_p hc.2), okD_s hc.1, okD_s hc.2, q _ H I (Step.refl s) (.bl _)⟩⟩
    · cases h
  · split at h
    · rename_i hc
      cases h
      exact ⟨_, op_notInT hu, fun I H vx vy Q s dx dy q => ⟨_, _, dp_of (dv_mono s dx) (okD_p hc.1), dp_of (dv_mono s dy) (okD_p hc.2), okD_s hc.1, okD_s hc.2, q _ H I (Step.refl s) (.bl _)⟩⟩
    · cases h
  · cases h

/-! ### in, len over a list of the frame's own -/
variable {a b : Expr} {f g : FE} {pos p2 : Pos}
theorem Bd.own {I0 H0 I H : Hp} {σ : L2.St} {ρ : Sl} {i : Nat} {d : D} (b : Bd I0 H0 σ ρ I H) (e : ownE i ρ = some d) : ∃ v, σ[i]? = some (some v) ∧ Dv H v d := by
  unfold ownE at e
  split at e
  · rename_i d' e1
    cases e
    obtain ⟨v, e2, p⟩ := b.im e1
    exact ⟨v, e2, dv_mono b.sub p⟩
  · rename_i ds e1
    cases e
    obtain ⟨a, vs, e2, h0, hi, hh, p⟩ := b.ow e1
    exact ⟨_, e2, .lst hh (dvs_mono b.sub p)⟩
  · cases e
def inOwnT (n : Bool → Bool) (f : FE) (i : Nat) : FT := fun ρ => (f ρ).bind fun x => (ownE i ρ).bind fun y => match y with
  | .list ds => if okD x = true ∧ okD (.list ds) = true then some (n (inD x ds)) else none
  | _ => none
theorem inOwn_some {n : Bool → Bool} {i : Nat} {ρ : Sl} {k : Bool} (e : inOwnT n f i ρ = some k) : ∃ x ds, f ρ = some x ∧ ownE i ρ = some (.list ds) ∧ okD x = true ∧ okD (.list ds) = true ∧ k = n (inD x ds) := by
  obtain ⟨x, ex, e⟩ := bind_some e
  obtain ⟨y, ey, e⟩ := bind_some e
  split at e
  · rename_i ds
    split at e
    · rename_i hc
      cases e
      exact ⟨x, ds, ex, ey, hc.1, hc.2, rfl⟩
    · cases e
  · cases e
theorem dt_inOwn (hu : X.A.units + 65 < cLine) (ha : DE X a f) (i : Nat) {x : Str} (hN : X.N[i]? = some x := by rfl) (hv : Vis X.env.scope x := by first | exact Or.inl rfl | exact Or.inr (Or.inl rfl) | exact Or.inr (Or.inr rfl)) (hm : behindInMarks .In (.Name x p2) = false := by rfl) (hd : (x == ("__debug__" : Str)) = false := by decide)
    (hcd : (x == ("__classdict__" : Str)) = false := by decide) : DT X (.Compare a [.In] [.Name x p2] pos) (inOwnT id f i) := ⟨fun ρ k e I0 H0 => by
  obtain ⟨y, ds, ey, eo, k1, k2, rfl⟩ := inOwn_some e
  exact PT.imp (pt_cmpR (op_inD hu) (ha.run ρ y ey I0 H0) (pe_var hN hv hd hcd) hm) fun σ H Q ⟨I, b, q⟩ => ⟨I, b, fun v1 H1 I1 s1 d1 => by
    obtain ⟨v, ev, dv⟩ := (b.step s1).own eo
    exact ⟨v, ev, y, ds, dp_of (dv_mono s1.s d1) (okD_p k1), dp_of dv (okD_p k2), okD_s k1, okD_s k2, _, rfl, q H1 I1 s1⟩⟩⟩
theorem dt_notInOwn (hu : X.A.units + 65 < cLine) (ha : DE X a f) (i : Nat) {x : Str} (hN : X.N[i]? = some x := by rfl) (hv : Vis X.env.scope x := by first | exact Or.inl rfl | exact Or.inr (Or.inl rfl) | exact Or.inr (Or.inr rfl)) (hm : behindInMarks .NotIn (.Name x p2) = false := by rfl) (hd : (x == ("__debug__" : Str)) = false := by decide)
    (hcd : (x == ("__classdict__" : Str)) = false := by decide) : DT X (.Compare a [.NotIn] [.Name x p2] pos) (inOwnT not f i) := ⟨fun ρ k e I0 H0 => by
  obtain ⟨y, ds, ey, eo, k1, k2, rfl⟩ := inOwn_some e
  exact PT.imp (pt_cmpR (op_notInD hu) (ha.run ρ y ey I0 H0) (pe_var hN hv hd hcd) hm) fun σ H Q ⟨I, b, q⟩ => ⟨I, b, fun v1 H1 I1 s1 d1 => by
    obtain ⟨v, ev, dv⟩ := (b.step s1).own eo
    exact ⟨v, ev, y, ds, dp_of (dv_mono s1.s d1) (okD_p k1), dp_of dv (okD_p k2), okD_s k1, okD_s k2, _, rfl, q H1 I1 s1⟩⟩⟩

/-! ### subscripts, slices -/
def dAt : D → D → Option D
  | .list ds, .int i => atI ds i
  | .tuple ds, .int i => atI ds i
  | .dict [(.list ds, .none)], .int i => atI ds i
  | .str z, .int i => if z.length ≤ sizeLine then (atI z.cps.toList i).map fun c => .str ⟨#[c]⟩ else none
  | _, _ => none
theorem at_dv {I : Hp} {vs : List V} {ds : List D} {i : Int} {d : D} (h : DvAll I vs ds) (e : atI ds i = some d) : ∃ v, atI vs i = some v ∧ Dv I v d := by
  unfold atI at e
  obtain ⟨j, ej, e⟩ := bind_some e
  obtain ⟨v, ev, p⟩ := dvs_get' h e
  refine ⟨v, ?_, p⟩
  unfold atI
  rw [dvs_len h, ej]
  exact ev
theorem dvs_ints {I : Hp} : ∀ ns : List Int, DvAll I (ns.map V.int) (ns.map PyData.int)
  | [] => .nil
  | n :: r => .cons (.int n) (dvs_ints r)
theorem map_int_inj : ∀ {ns ms : List Int}, ns.map PyData.int = ms.map PyData.int → ns = ms
  | [], [], _ => rfl
  | [], _ :: _, h => by simp at h
  | _ :: _, [], h => by simp at h
  | n :: r, m :: t, h => by
    simp only [List.map_cons, List.cons.injEq, PyData.int.injEq] at h
    rw [h.1, map_int_inj h.2]
theorem de_sub (ha : DE X a f) (hb : DE X b g) (hs : PlainIx b := by exact fun _ _ => rfl) : DE X (.Subscript a b pos) (binE dAt f g) := ⟨fun ρ d e I0 H0 => by
  obtain ⟨x, ex, e⟩ := bind_some e
  obtain ⟨y, ey, e⟩ := bind_some e
  refine PE.imp (pe_ix ix_seq (ha.run ρ x ex I0 H0) (hb.run ρ y ey I0 H0) hs) fun σ H Q q => bin_rd (d := d) ?_ q
  intro I H vx vy Q s dx dy q
  unfold dAt at e
  split at e
  · obtain ⟨a, xs, rfl, ha, da⟩ := dv_lst dx
    obtain ⟨v, ev, dv⟩ := at_dv da e
    exact .inl ⟨a, xs, _, v, rfl, dv_int dy, .inl (.inl (s _ _ ha)), ev, q v H I (Step.refl s) dv⟩
  · obtain ⟨a, xs, rfl, ha, da⟩ := dv_tup dx
    obtain ⟨v, ev, dv⟩ := at_dv da e
    exact .inr (.inl ⟨a, xs, _, v, rfl, dv_int dy, .inl (.inl (s _ _ ha)), ev, q v H I (Step.refl s) dv⟩)
  · cases dx with
    | scr h =>
      rename_i ns _
      obtain ⟨v, ev, dv⟩ := at_dv (dvs_ints ns) e
      exact .inl ⟨_, _, _, v, rfl, dv_int dy, .inl (rd_mono s h), ev, q v H I (Step.refl s) dv⟩
  · split at e
    · rename_i hl
      obtain ⟨c, ec, rfl⟩ := map_some' e
      exact .inr (.inr ⟨_, _, c, dv_str dx, dv_int dy, hl, ec, q _ H I (Step.refl s) (.str _)⟩)
    · cases e
  · cases e⟩
def cutG {α : Type} (xs : List α) (lo hi : Option Int) : List α := (xs.drop (HT.sIx xs.length 0 lo)).take (HT.sIx xs.length xs.length hi - HT.sIx xs.length 0 lo)
theorem cut_dv {I : Hp} {vs : List V} {ds : List D} (h : DvAll I vs ds) (lo hi : Option Int) : DvAll I (cutV vs lo hi) (cutG ds lo hi) := by
  unfold cutV cutG
  rw [dvs_len h]
  exact dvs_take _ (dvs_drop _ h)
def dCut : D → Option Int → Option Int → Option D
  | .list ds, lo, hi => some (.list (cutG ds lo hi))
  | .tuple ds, lo, hi => if HT.sIx ds.length 0 lo = 0 ∧ HT.sIx ds.length ds.length hi = ds.length then none else some (.tuple (cutG ds lo hi))
  | .str z, lo, hi => if z.length ≤ sizeLine then some (.str (cutS z lo hi)) else none
  | _, _, _ => none
def rCutA (K : KF) : V → Option Int → Option Int → Hp → VK → Prop := fun x lo hi H Q => rSlL K x lo hi H Q ∨ (rSlT K x lo hi H Q ∨ rSlS x lo hi H Q)
theorem do_none : DO X none noneO := ⟨fun ρ o e I0 H0 => PO.imp po_none fun σ H Q ⟨I, b, q⟩ => by cases e; exact q H I b.refl⟩
theorem asI_some {d : D} {i : Int} (e : asI d = some i) : d = .int i := by
  cases d <;> simp [asI] at e
  rw [e]
theorem do_some (ha : DE X a f) : DO X (some a) (someO f) := ⟨fun ρ o e I0 H0 => by
  obtain ⟨d, ed, e⟩ := bind_some e
  obtain ⟨i, ei, rfl⟩ := map_some' e
  have e2 := asI_some ei
  subst e2
  exact PO.imp (po_some (ha.run ρ _ ed I0 H0)) fun σ H Q ⟨I, b, q⟩ => ⟨I, b, fun v H1 I1 s1 d1 => ⟨i, dv_int d1, q H1 I1 s1⟩⟩⟩
theorem de_slice {lo hi : Option Expr} {fl fh : FO} (ha : DE X a f) (hl : DO X lo fl) (hh : DO X hi fh) : DE X (.Subscript a (.Slice lo hi none p2) pos) (slE f fl fh dCut) := ⟨fun ρ d e I0 H0 => by
  obtain ⟨x, ex, e⟩ := bind_some e
  obtain ⟨l, el, e⟩ := bind_some e
  obtain ⟨h, eh, e⟩ := bind_some e
  refine PE.imp (pe_slice (r := rCutA X.K) (sl_list.or (sl_tup.or sl_str)) (ha.run ρ x ex I0 H0) (hl.run ρ l el I0 H0) (hh.run ρ h eh I0 H0)) ?_
  intro σ H Q q
  obtain ⟨I, b, q⟩ := q
  refine ⟨I, b, fun v H1 I1 s1 dx => ⟨I1, b.step s1, fun H2 I2 s2 => ⟨I2, (b.step s1).step s2, fun H3 I3 s3 => ?_⟩⟩⟩
  have st := (s1.trans s2).trans s3
  have dx := dv_mono (s2.i.trans s3.i) dx
  unfold dCut at e
  split at e
  · cases e
    obtain ⟨c, xs, rfl, hc, dc⟩ := dv_lst dx
    exact .inl ⟨c, xs, rfl, .inl (.inl (s3.s _ _ hc)), fun p hp => q _ _ _ (st.trans (Step.new s3.s hp)) (dv_newL (s3.s.free hp) (cut_dv dc l h))⟩
  · split at e
    · cases e
    · rename_i hw
      cases e
      obtain ⟨c, xs, rfl, hc, dc⟩ := dv_tup dx
      rw [← dvs_len dc] at hw
      exact .inr (.inl ⟨c, xs, rfl, .inl (.inl (s3.s _ _ hc)), hw, fun p hp => q _ _ _ (st.trans (Step.new s3.s hp)) (dv_newT (s3.s.free hp) (cut_dv dc l h))⟩)
  · split at e
    · rename_i hz
      cases e
      exact .inr (.inr ⟨_, dv_str dx, hz, q _ _ _ st (.str _)⟩)
    · cases e
  · cases e⟩
end
end RB
set_option Elab.async false
set_option linter.all false
set_option maxRecDepth 100000
set_option maxHeartbeats 2000000
set_option autoImplicit false
/-! DV4: calls of built-ins, methods of texts, calls of defs. -/
namespace RB
open PySem PySem.Spec L2

/-! ### sorted -/
def neTup : D → Bool
  | .tuple (_ :: _) => true
  | _ => false
def noNT : D → Bool
  | .none => false
  | .tuple _ => false
  | _ => true
def sortC (ds : List D) : Bool := (ds.all fun d => ds.all fun e => PySem.W.alike d e) && ((ds.all neTup || ds.all noNT) && ds.all okD)
def sortD (ds : List D) : List D := ds.mergeSort (PySem.W.dataLe false id)
theorem sortC_alike {ds : List D} (h : sortC ds = true) : PySem.W.AllAlike ds := fun d hd e he => by
  simp only [sortC, Bool.and_eq_true, List.all_eq_true] at h
  exact h.1 d hd e he
theorem sortC_ok {ds : List D} (h : sortC ds = true) : ∀ d ∈ ds, okD d = true := by
  simp only [sortC, Bool.and_eq_true, List.all_eq_true] at h
  exact h.2.2
theorem sortC_able {ds : List D} (h : sortC ds = true) : PySem.W.Sortable ds := by
  simp only [sortC, Bool.and_eq_true, Bool.or_eq_true, List.all_eq_true] at h
  rcases h.2.1 with k | k
  · refine .inl fun d hd => ?_
    have q := k d hd
    cases d <;> simp [neTup] at q
    rename_i xs
    cases xs with
    | nil => simp at q
    | cons x r => exact ⟨x, r, rfl⟩
  · refine .inr fun d hd => ?_
    have q := k d hd
    cases d <;> simp [noNT] at q <;> simp
def RelD (I : Hp) (u : Value) (d : D) : Prop := ∃ v, RelV v u ∧ Dv I v d
theorem each_of {I : Hp} : ∀ {vs : List V} {us : List Value} {ds : List D}, Vals vs us → DvAll I vs ds → PySem.W.EachIs (RelD I) us ds
  | _, _, _, .nil, .nil => .nil
  | _, _, _, .cons r t, .cons h s => .cons ⟨_, r, h⟩ (each_of t s)
theorem of_each {I : Hp} : ∀ {us : List Value} {ds : List D}, PySem.W.EachIs (RelD I) us ds → ∃ vs, Vals vs us ∧ DvAll I vs ds
  | _, _, .nil => ⟨[], .nil, .nil⟩
  | _, _, .cons ⟨v, r, h⟩ t => by
    obtain ⟨vs, a, b⟩ := of_each t
    exact ⟨v :: vs, .cons r a, .cons h b⟩
section
variable {X : Cx}
theorem each_reads {pins : List (Addr × Obj)} {σ : L2.St} {H I : Hp} {s : Shared} (J : Inv X pins σ H s) (e : Same I H) : ∀ {us : List Value} {ds : List D}, (∀ d ∈ ds, okD d = true) → PySem.W.EachIs (RelD I) us ds → PySem.W.EachIs (fun v b => ∃ as, Reads s.heap v (id b) as) us ds
  | _, _, _, .nil => .nil
  | _, _, hk, .cons ⟨v, r, h⟩ t => .cons (Dp.reads J _ v _ (dp_of (dv_mono e h) (okD_p (hk _ List.mem_cons_self))) r) (each_reads J e (fun d hd => hk d (List.mem_cons_of_mem _ hd)) t)
def rSortD : List V → Hp → VK → Prop := fun vs H Q => ∃ (I : Hp) (a : Addr) (xs : List V) (ds : List D), vs = [.ref a] ∧ Same I H ∧ H a = some (.lst xs) ∧ DvAll I xs ds ∧ sortC ds = true ∧
  ∀ ys p, H p = none → DvAll I ys (sortD ds) → Q (.ref p) (upd H p (.lst ys))
theorem cr_sortedD (hu : X.A.units + 70 < cLine) : CallR X (.builtin "sorted") rSortD := by
  intro pins s σ H vs us Q J r h
  obtain ⟨I, a, xs, ds, rfl, hs, ha, hd, hc, q⟩ := h
  obtain ⟨its, rv, hl, hz⟩ := J.list (SqL.of ha)
  rw [Vals.ref1 r]
  have e := each_of rv hd
  have hlen : its.length = ds.length := by rw [← rv.length, dvs_len hd]
  refine PySem.W.sorted_data (enc := id) (R := RelD I) (bs := ds) hl.isList e (each_reads J hs (sortC_ok hc) e) (by rw [List.map_id]; exact sortC_alike hc) (by rw [List.map_id]; exact sortC_able hc) (by rw [← dvs_len hd]; exact hz) (fun b hb => ?_) fun out h1 h2 => ?_
  · have h3 := SeqAt.depth_of_shaped (okD_s (sortC_ok hc b hb))
    show X.A.units + 2 + b.depth < cLine
    omega
  · obtain ⟨ep, he'⟩ := PyProof.Rows.sortedAll_at s.heap its out.toArray
    obtain ⟨ys, ry, hy⟩ := of_each h2
    have hyl : ys.length ≤ sizeLine := by
      rw [ry.length, h1, ← hlen, ← rv.length]
      exact hz
    exact ⟨.ref _, upd H (s.heap.objs.size + 1) (.lst ys), J.laid (t' := s.toks) (fun _ _ => PyProof.Rows.sortedAll_old) (Nat.le_succ _) ⟨hyl, out, ep, ry, he'⟩, rfl, q ys _ (J.hok.fresh (Nat.le_succ _)) hy⟩

/-! ### built-ins over data -/
def gLen : List D → Option D
  | [.list ds] => some (.int ds.length)
  | [.tuple ds] => some (.int ds.length)
  | [.dict [(.list ds, .none)]] => some (.int ds.length)
  | [.str z] => if z.length ≤ sizeLine then some (.int z.length) else none
  | _ => none
def gAbs : List D → Option D
  | [.int i] => some (.int (if i < 0 then -i else i))
  | _ => none
def gMin : List D → Option D
  | [.int i, .int j] => some (.int (if j < i then j else i))
  | _ => none
def gInt : List D → Option D
  | [.bool k] => some (.int (if k then 1 else 0))
  | _ => none
def gTuple : List D → Option D
  | [.list ds] => some (.tuple ds)
  | _ => none
def gList : List D → Option D
  | [.list ds] => some (.list ds)
  | [.tuple ds] => some (.list ds)
  | _ => none
def gSorted : List D → Option D
  | [.list ds] => if sortC ds = true then some (.list (sortD ds)) else none
  | _ => none
theorem dvs_one' {I : Hp} {vs : List V} {d : D} (h : DvAll I vs [d]) : ∃ v, vs = [v] ∧ Dv I v d := by
  cases h with
  | cons h t => cases t; exact ⟨_, rfl, h⟩
theorem cld_len : ClD X (.builtin "len") gLen := fun ds d h => by
  unfold gLen at h
  split at h
  · cases h
    refine ⟨_, call_len, fun I H vs Q s dv q => ?_⟩
    obtain ⟨v, rfl, d1⟩ := dvs_one' dv
    obtain ⟨a, xs, rfl, ha, da⟩ := dv_lst d1
    exact ⟨_, xs.length, rfl, .inl ⟨xs, SqL.of (s _ _ ha), rfl⟩, by rw [dvs_len da]; exact q _ H I (Step.refl s) (.int _)⟩
  · cases h
    refine ⟨_, call_len, fun I H vs Q s dv q => ?_⟩
    obtain ⟨v, rfl, d1⟩ := dvs_one' dv
    obtain ⟨a, xs, rfl, ha, da⟩ := dv_tup d1
    exact ⟨_, xs.length, rfl, .inr ⟨xs, SqT.of (s _ _ ha), rfl⟩, by rw [dvs_len da]; exact q _ H I (Step.refl s) (.int _)⟩
  · cases h
    refine ⟨_, call_len, fun I H vs Q s dv q => ?_⟩
    obtain ⟨v, rfl, d1⟩ := dvs_one' dv
    cases d1 with
    | scr ha =>
      rename_i ns
      exact ⟨_, (ns.map V.int).length, rfl, .inl ⟨_, .inl (rd_mono s ha), rfl⟩, by rw [List.length_map]; have z := q _ H I (Step.refl s) (.int _); rw [List.length_map] at z; exact z⟩
  · split at h
    · rename_i hz
      cases h
      refine ⟨_, call_len, fun I H vs Q s dv q => ?_⟩
      obtain ⟨v, rfl, d1⟩ := dvs_one' dv
      rw [dv_str d1]
      exact ⟨_, _, rfl, ⟨hz, rfl⟩, q _ H I (Step.refl s) (.int _)⟩
    · cases h
  · cases h
theorem cld_abs : ClD X (.builtin "abs") gAbs := fun ds d h => by
  unfold gAbs at h
  split at h
  · cases h
    refine ⟨_, call_abs, fun I H vs Q s dv q => ?_⟩
    obtain ⟨v, rfl, d1⟩ := dvs_one' dv
    rw [dv_int d1]
    exact ⟨_, rfl, q _ H I (Step.refl s) (.int _)⟩
  · cases h
theorem cld_min (hc : X.calm = true) : ClD X (.builtin "min") gMin := fun ds d h => by
  unfold gMin at h
  split at h
  · cases h
    refine ⟨_, call_min2 hc, fun I H vs Q s dv q => ?_⟩
    cases dv with
    | cons h1 t =>
      obtain ⟨v, rfl, h2⟩ := dvs_one' t
      rw [dv_int h1, dv_int h2]
      exact ⟨_, _, rfl, q _ H I (Step.refl s) (.int _)⟩
  · cases h
theorem cld_int : ClD X (.type "int") gInt := fun ds d h => by
  unfold gInt at h
  split at h
  · cases h
    refine ⟨_, call_int1, fun I H vs Q s dv q => ?_⟩
    obtain ⟨v, rfl, d1⟩ := dvs_one' dv
    rw [dv_bl d1]
    exact .inr ⟨_, rfl, q _ H I (Step.refl s) (.int _)⟩
  · cases h
theorem cld_tuple : ClD X (.type "tuple") gTuple := fun ds d h => by
  unfold gTuple at h
  split at h
  · cases h
    refine ⟨_, call_tuple_of, fun I H vs Q s dv q => ?_⟩
    obtain ⟨v, rfl, d1⟩ := dvs_one' dv
    obtain ⟨a, xs, rfl, ha, da⟩ := dv_lst d1
    exact ⟨a, xs, rfl, .inl ⟨SqL.of (s _ _ ha), fun l hl => q _ _ _ (Step.new s hl) (dv_newT (s.free hl) da)⟩⟩
  · cases h
theorem cld_list : ClD X (.type "list") gList := fun ds d h => by
  unfold gList at h
  split at h
  · cases h
    refine ⟨_, call_list_of, fun I H vs Q s dv q => ?_⟩
    obtain ⟨v, rfl, d1⟩ := dvs_one' dv
    obtain ⟨a, xs, rfl, ha, da⟩ := dv_lst d1
    exact ⟨a, xs, rfl, .inl (SqL.of (s _ _ ha)), fun l hl => q _ _ _ (Step.new s hl) (dv_newL (s.free hl) da)⟩
  · cases h
    refine ⟨_, call_list_of, fun I H vs Q s dv q => ?_⟩
    obtain ⟨v, rfl, d1⟩ := dvs_one' dv
    obtain ⟨a, xs, rfl, ha, da⟩ := dv_tup d1
    exact ⟨a, xs, rfl, .inr (SqT.of (s _ _ ha)), fun l hl => q _ _ _ (Step.new s hl) (dv_newL (s.free hl) da)⟩
  · cases h
theorem cld_sorted (hu : X.A.units + 70 < cLine) : ClD X (.builtin "sorted") gSorted := fun ds d h => by
  unfold gSorted at h
  split at h
  · split at h
    · rename_i hc
      cases h
      refine ⟨_, cr_sortedD hu, fun I H vs Q s dv q => ?_⟩
      obtain ⟨v, rfl, d1⟩ := dvs_one' dv
      obtain ⟨a, xs, rfl, ha, da⟩ := dv_lst d1
      exact ⟨I, a, xs, _, rfl, s, s _ _ ha, da, hc, fun ys p hp dy => q _ _ _ (Step.new s hp) (dv_newL (s.free hp) dy)⟩
    · cases h
  · cases h

/-! ### len of a list of the frame's own -/
variable {a b : Expr} {f g : FE} {pos p2 p3 : Pos}
def lenOwnE (i : Nat) : FE := fun ρ => (ownE i ρ).bind fun d => gLen [d]
theorem de_lenOwn (hg : Gl X "len") (hm : X.mg "len" = none) (i : Nat) {x : Str} (hN : X.N[i]? = some x := by rfl) (hv : Vis X.env.scope x := by first | exact Or.inl rfl | exact Or.inr (Or.inl rfl) | exact Or.inr (Or.inr rfl)) (hd : (x == ("__debug__" : Str)) = false := by decide)
    (hcd : (x == ("__classdict__" : Str)) = false := by decide) (hs : starEach [.Name x p2] X.env = (false, eval (.Name x p2) X.env) :: starEach [] X.env := by rfl) (hpl : (backTo pos (starEach [] X.env)).any (·.1) = false := by rfl) : DE X (.Call (.Name "len" p3) [.Name x p2] [] pos) (lenOwnE i) := ⟨fun ρ d e I0 H0 => by
  obtain ⟨y, ey, e⟩ := bind_some e
  obtain ⟨r, hr, k⟩ := cld_len (X := X) [y] d e
  refine PE.imp (pe_callB hr hg hm boot_len (pa_cons (pe_var hN hv hd hcd) pa_nil hs) (by decide) (by decide) hs hpl) fun σ H Q ⟨I, b, q⟩ => ?_
  obtain ⟨v, ev, dv⟩ := b.own ey
  refine ⟨v, ev, k H H [v] Q (Same.refl H) (.cons dv .nil) fun v' H' I' s3 d3 => ?_⟩
  refine q v' H' I ⟨s3.h, Same.refl I, b.sub.trans s3.h, fun _ z _ => z⟩ ?_
  unfold gLen at e
  split at e
  · cases e; rw [dv_int d3]; exact .int _
  · cases e; rw [dv_int d3]; exact .int _
  · cases e; rw [dv_int d3]; exact .int _
  · split at e
    · cases e; rw [dv_int d3]; exact .int _
    · cases e
  · cases e⟩

/-! ### isinstance(x, str) -/
def isStrE (f : FE) : FE := fun ρ => (f ρ).bind fun d => match d with
  | .str _ => some (.bool true)
  | _ => none
theorem de_isStr (hg : Gl X "isinstance") (hm : X.mg "isinstance" = none) (hgs : Gl X "str") (hms : X.mg "str" = none) (ha : DE X a f)
    (hs : starEach [a, .Name "str" p2] X.env = (false, eval a X.env) :: starEach [.Name "str" p2] X.env := by rfl) (hs2 : starEach [.Name "str" p2] X.env = (false, eval (.Name "str" p2) X.env) :: starEach [] X.env := by rfl) (hpl : (backTo pos (starEach [.Name "str" p2] X.env)).any (·.1) = false := by rfl) :
    DE X (.Call (.Name "isinstance" p3) [a, .Name "str" p2] [] pos) (isStrE f) := ⟨fun ρ d e I0 H0 => by
  obtain ⟨y, ey, e⟩ := bind_some e
  split at e
  · rename_i z
    cases e
    refine PE.imp (pe_callB call_isi hg hm (by decide +kernel) (pa_cons (ha.run ρ _ ey I0 H0) (pa_cons (pe_bltn (v := .ty "str") (u := .type "str") hgs hms (by decide +kernel) rfl) pa_nil hs2) hs) (by decide) (by decide) hs hpl) fun σ H Q ⟨I, b, q⟩ => ?_
    refine ⟨I, b, fun v H1 I1 s1 d1 => ⟨v, .ty "str", .type "str", .type "str", true, rfl, .ty "str", .base (by rw [dv_str d1]; exact .str _), kit_ty (by decide +kernel), q _ H1 I1 s1 (.bl true)⟩⟩
  · cases e⟩

/-! ### methods of texts -/
def mE (g : Str → Option D) (f : FE) : FE := fun ρ => (f ρ).bind fun d => match d with
  | .str z => g z
  | _ => none
theorem mE_some {G : Str → Option D} {ρ : Sl} {d : D} (e : mE G f ρ = some d) : ∃ z, f ρ = some (.str z) ∧ G z = some d := by
  obtain ⟨y, ey, e⟩ := bind_some e
  split at e
  · exact ⟨_, ey, e⟩
  · cases e
def gLower (z : Str) : Option D := if z.length ≤ 5592405 then some (.str (Txt.lower z)) else none
def gUpper (z : Str) : Option D := if z.length ≤ 5592405 then some (.str (Txt.upper z)) else none
def gIsUpper (z : Str) : Option D := some (.bool (Txt.isupper z))
def gIsLower (z : Str) : Option D := some (.bool (Txt.islower z))
theorem de_lower {apos : Pos} (ha : DE X a f) (hbase : attributeBase a "lower" X.env (eval a X.env) = eval a X.env := by rfl) (hline : (apos.endLine == pos.line) = true := by rfl) : DE X (.Call (.Attribute a "lower" apos) [] [] pos) (mE gLower f) := ⟨fun ρ d e I0 H0 => by
  obtain ⟨z, ez, e⟩ := mE_some e
  unfold gLower at e
  split at e
  · rename_i hz
    cases e
    exact PE.imp (pe_lower (ha.run ρ _ ez I0 H0) hbase hline) fun σ H Q ⟨I, b, q⟩ => ⟨I, b, fun v H1 I1 s1 d1 => ⟨⟨z, dv_str d1⟩, z, dv_str d1, rfl, hz, q _ H1 I1 s1 (.str _)⟩⟩
  · cases e⟩
theorem de_upper {apos : Pos} (ha : DE X a f) (hbase : attributeBase a "upper" X.env (eval a X.env) = eval a X.env := by rfl) (hline : (apos.endLine == pos.line) = true := by rfl) : DE X (.Call (.Attribute a "upper" apos) [] [] pos) (mE gUpper f) := ⟨fun ρ d e I0 H0 => by
  obtain ⟨z, ez, e⟩ := mE_some e
  unfold gUpper at e
  split at e
  · rename_i hz
    cases e
    exact PE.imp (pe_upper (ha.run ρ _ ez I0 H0) hbase hline) fun σ H Q ⟨I, b, q⟩ => ⟨I, b, fun v H1 I1 s1 d1 => ⟨⟨z, dv_str d1⟩, z, dv_str d1, rfl, hz, q _ H1 I1 s1 (.str _)⟩⟩
  · cases e⟩
theorem de_isupper {apos : Pos} (ha : DE X a f) (hbase : attributeBase a "isupper" X.env (eval a X.env) = eval a X.env := by rfl) (hline : (apos.endLine == pos.line) = true := by rfl) : DE X (.Call (.Attribute a "isupper" apos) [] [] pos) (mE gIsUpper f) := ⟨fun ρ d e I0 H0 => by
  obtain ⟨z, ez, e⟩ := mE_some e
  cases e
  exact PE.imp (pe_m0 PySem.F.slot_str_isupper PySem.F.type_str_isupper mt_isupper (ha.run ρ _ ez I0 H0) hbase hline) fun σ H Q ⟨I, b, q⟩ => ⟨I, b, fun v H1 I1 s1 d1 => ⟨⟨z, dv_str d1⟩, z, dv_str d1, rfl, trivial, q _ H1 I1 s1 (.bl _)⟩⟩⟩
theorem de_islower {apos : Pos} (ha : DE X a f) (hbase : attributeBase a "islower" X.env (eval a X.env) = eval a X.env := by rfl) (hline : (apos.endLine == pos.line) = true := by rfl) : DE X (.Call (.Attribute a "islower" apos) [] [] pos) (mE gIsLower f) := ⟨fun ρ d e I0 H0 => by
  obtain ⟨z, ez, e⟩ := mE_some e
  cases e
  exact PE.imp (pe_m0 PySem.F.slot_str_islower PySem.F.type_str_islower mt_islower (ha.run ρ _ ez I0 H0) hbase hline) fun σ H Q ⟨I, b, q⟩ => ⟨I, b, fun v H1 I1 s1 d1 => ⟨⟨z, dv_str d1⟩, z, dv_str d1, rfl, trivial, q _ H1 I1 s1 (.bl _)⟩⟩⟩

/-! ### defs -/
/-- the promise of a def of n arguments that gives g of its data and changes nothing -/
def spD (n : Nat) (g : List D → Option D) : Sp := fun vs H Q _ => ∃ (I : Hp) (ds : List D) (d : D), ds.length = n ∧ Same I H ∧ DvAll I vs ds ∧ g ds = some d ∧ ∀ v H' I', Step I H I' H' → Dv I' v d → Q v H'
theorem spD_len {n : Nat} {g : List D → Option D} {ps : List Str} (hn : ps.length = n) : ∀ vs H Q E, spD n g vs H Q E → vs.length = ps.length := fun vs H Q E ⟨I, ds, d, hl, _, hd, _⟩ => by
  rw [dvs_len hd, hl, hn]
/-- the def x stands, of n arguments, and gives g -/
def CallD (P : Program) (w : World) (K : KF) (mg : Str → Option Value) (base : Heap) (k : Nat) (x : Str) (n : Nat) (g : List D → Option D) : Prop :=
  ∃ fa fd ps, FnOk P w K mg base CX0 k fa fd ps (spD n g) ∧ mg x = some (.ref fa) ∧ PySem.W.keepIn K (.ref fa) = true ∧ Binds K fd ps []
def callD (n : Nat) (g : List D → Option D) (f : FA) : FE := fun ρ => (f ρ).bind fun ds => if ds.length = n then g ds else none
theorem de_call {x : Str} {p : Pos} {e : Expr} {es : List Expr} {fs : FA} {k n : Nat} {G : List D → Option D} (C : CallD X.prog X.w X.K X.mg X.base k x n G) (hr : Room k X.A) (hg : Gl X x) (ha : DA X (e :: es) fs)
    (hdb : (x == ("__debug__" : Str)) = false := by decide) (he : starEach (e :: es) X.env = (false, eval e X.env) :: starEach es X.env := by rfl) (hpl : (backTo pos (starEach es X.env)).any (·.1) = false := by rfl) : DE X (.Call (.Name x p) (e :: es) [] pos) (callD n G fs) := ⟨fun ρ d q I0 H0 => by
  obtain ⟨xs, ex, q⟩ := bind_some q
  split at q
  · rename_i hn
    obtain ⟨fa, fd, ps, F, hm, hk, hb⟩ := C
    refine PE.imp (pe_call F hr hg hm hk hb .nil pass0 (ha.run ρ xs ex I0 H0) hdb he hpl) fun σ H Q ⟨I, b, z⟩ => ⟨I, b, fun vs H1 I1 s1 d1 => ?_⟩
    show spD n G (vs ++ []) H1 Q E0
    rw [List.append_nil]
    exact ⟨I1, xs, d, hn, s1.s, d1, q, fun v H' I' s2 d2 => z v H' I' (s1.trans s2) d2⟩
  · cases q⟩
end
end RB
set_option Elab.async false
set_option linter.all false
set_option maxRecDepth 100000
set_option maxHeartbeats 2000000
set_option autoImplicit false
/-! DV5: statements over data. -/
namespace RB
open PySem PySem.Spec L2

inductive Out where
  | nx (ρ : Sl)
  | rt (d : D)
  | bk (ρ : Sl)
  | ct (ρ : Sl)
abbrev FS := Sl → Option Out
/-- what follows an outcome -/
def Then (I1 I0 H0 : Hp) (Dn : Ends) : Out → Prop
  | .nx ρ => ∀ σ H I, Same I1 I → Bd I0 H0 σ ρ I H → Dn.nx σ H
  | .rt d => ∀ v H I, Step I0 H0 I H → Dv I v d → Dn.rt v H
  | .bk ρ => ∀ σ H I, Same I1 I → Bd I0 H0 σ ρ I H → Dn.bk σ H
  | .ct ρ => ∀ σ H I, Same I1 I → Bd I0 H0 σ ρ I H → Dn.ct σ H
theorem Then.mono {I1 I2 I0 H0 : Hp} {Dn : Ends} {o : Out} (s : Same I1 I2) (h : Then I1 I0 H0 Dn o) : Then I2 I0 H0 Dn o := by
  cases o with
  | nx ρ => exact fun σ H I t b => h σ H I (s.trans t) b
  | rt d => exact h
  | bk ρ => exact fun σ H I t b => h σ H I (s.trans t) b
  | ct ρ => exact fun σ H I t b => h σ H I (s.trans t) b
def rdS (I0 H0 : Hp) (ρ : Sl) (o : Out) : TS := fun Dn σ H => ∃ I, Bd I0 H0 σ ρ I H ∧ Then I I0 H0 Dn o
structure DS (X : Cx) (st : Stmt) (g : FS) : Prop where
  run : ∀ (ρ : Sl) (o : Out), g ρ = some o → ∀ I0 H0, PS X st (rdS I0 H0 ρ o)
structure DSs (X : Cx) (st : List Stmt) (g : FS) : Prop where
  run : ∀ (ρ : Sl) (o : Out), g ρ = some o → ∀ I0 H0, PSs X st (rdS I0 H0 ρ o)
section
variable {X : Cx} {st : Stmt} {sts : List Stmt}
theorem PS.imp {t t' : TS} (h : PS X st t) (k : ∀ D σ H, t' D σ H → t D σ H) : PS X st t' := ⟨fun pins s σ H D I q => h.run pins s σ H D I (k D σ H q)⟩
theorem PSs.imp {t t' : TS} (h : PSs X sts t) (k : ∀ D σ H, t' D σ H → t D σ H) : PSs X sts t' := ⟨fun pins s σ H D I q => h.run pins s σ H D I (k D σ H q)⟩
def nilS : FS := fun ρ => some (.nx ρ)
def seqS (g h : FS) : FS := fun ρ => (g ρ).bind fun o => match o with
  | .nx ρ' => h ρ'
  | o => some o
def stuckS : FS := fun _ => none
theorem ds_stuck : DS X st stuckS := ⟨fun ρ o e => by cases e⟩
theorem dss_nil : DSs X [] nilS := ⟨fun ρ o e I0 H0 => by
  cases e
  exact PSs.imp pss_nil fun D σ H ⟨I, b, q⟩ => q σ H I (Same.refl _) b⟩
theorem dss_cons {g h : FS} (h1 : DS X st g) (h2 : DSs X sts h) : DSs X (st :: sts) (seqS g h) := ⟨fun ρ o e I0 H0 => by
  obtain ⟨o1, e1, e2⟩ := bind_some e
  cases o1 with
  | nx ρ1 =>
    exact PSs.imp (pss_cons (h1.run ρ _ e1 I0 H0) (h2.run ρ1 o e2 I0 H0)) fun D σ H ⟨I, b, q⟩ => ⟨I, b, fun σ' H' I' s' b' => ⟨I', b', q.mono s'⟩⟩
  | rt d =>
    cases e2
    exact PSs.imp (pss_cons (h1.run ρ _ e1 I0 H0) pss_never) fun D σ H ⟨I, b, q⟩ => ⟨I, b, q⟩
  | bk ρ1 =>
    cases e2
    exact PSs.imp (pss_cons (h1.run ρ _ e1 I0 H0) pss_never) fun D σ H ⟨I, b, q⟩ => ⟨I, b, q⟩
  | ct ρ1 =>
    cases e2
    exact PSs.imp (pss_cons (h1.run ρ _ e1 I0 H0) pss_never) fun D σ H ⟨I, b, q⟩ => ⟨I, b, q⟩⟩
theorem dss_one {g : FS} (h1 : DS X st g) : DSs X [st] g := ⟨fun ρ o e I0 H0 => pss_one (h1.run ρ o e I0 H0)⟩
theorem ds_break {pos : Pos} : DS X (.Break pos) (fun ρ => some (.bk ρ)) := ⟨fun ρ o e I0 H0 => by
  cases e
  exact PS.imp ps_break fun D σ H ⟨I, b, q⟩ => q σ H I (Same.refl _) b⟩
theorem ds_pass {pos : Pos} : DS X (.Pass pos) nilS := ⟨fun ρ o e I0 H0 => by
  cases e
  exact PS.imp ps_pass fun D σ H ⟨I, b, q⟩ => q σ H I (Same.refl _) b⟩

/-! ### stores -/
variable {e : Expr} {f : FE} {fs : FA} {es : List Expr} {pos pos' : Pos}
def asgS (i : Nat) (is : List Nat) (f : FE) : FS := fun ρ => (f (frz is ρ)).map fun d => .nx ((frz is ρ).set i (.im d))
theorem ds_set (i : Nat) (is : List Nat) {x : Str} (hN : X.N.Nodup) (he : DE X e f) (hi : X.N[i]? = some x := by rfl) (hx : Loc X.env.scope x := by first | exact Or.inl rfl | exact Or.inr rfl) (hs : swapsWith e (some (.Name x pos')) pos.line X.env = pure false := by rfl) (hf : X.fn x = true ∨ X.env.scope.names.lookup x = some .local := by first | exact .inl rfl | exact .inr rfl) :
    DS X (.Assign [.Name x pos'] e pos) (asgS i is f) := ⟨fun ρ o z I0 H0 => by
  obtain ⟨d, ed, rfl⟩ := map_some' z
  exact PS.imp (ps_set hN hi hx (he.run _ d ed I0 H0) hs hf) fun D σ H ⟨I, b, q⟩ => by
    obtain ⟨I1, b1, t1⟩ := b.frzs is
    exact ⟨I1, b1, fun v H' I' s dv => q _ _ I' (t1.trans s.i) ((b1.step s).set dv)⟩⟩
/-- a new list of the frame's own -/
def ownS (i : Nat) (is : List Nat) (f : FA) : FS := fun ρ => (lineA f (frz is ρ)).map fun ds => .nx ((frz is ρ).set i (.ow ds))
theorem ds_own (i : Nat) (is : List Nat) {x : Str} {lpos : Pos} (hN : X.N.Nodup) (ha : DA X es fs) (hi : X.N[i]? = some x := by rfl) (hx : Loc X.env.scope x := by first | exact Or.inl rfl | exact Or.inr rfl) (hs : swapsWith (.List es lpos) (some (.Name x pos')) pos.line X.env = pure false := by rfl) (hf : X.fn x = true ∨ X.env.scope.names.lookup x = some .local := by first | exact .inl rfl | exact .inr rfl) :
    DS X (.Assign [.Name x pos'] (.List es lpos) pos) (ownS i is fs) := ⟨fun ρ o z I0 H0 => by
  obtain ⟨ds, ed, rfl⟩ := map_some' z
  obtain ⟨e1, hl⟩ := line_some ed
  exact PS.imp (ps_set hN hi hx (pe_lst (ha.run _ ds e1 I0 H0)) hs hf) fun D σ H ⟨I, b, q⟩ => by
    obtain ⟨I1, b1, t1⟩ := b.frzs is
    refine ⟨I1, b1, fun vs H1 I2 s1 d1 => ⟨by rw [dvs_len d1]; exact hl, fun p hp => ?_⟩⟩
    have b2 := b1.step s1
    have h0 : H0 p = none := b2.st.h.free hp
    have i0 : I2 p = none := s1.s.free hp
    have hs : Same H1 (upd H1 p (.lst vs)) := same_upd hp
    have b3 : Bd I0 H0 σ (frz is ρ) I2 (upd H1 p (.lst vs)) := b2.step ⟨hs, Same.refl _, s1.s.trans hs, fun _ h _ => h⟩
    refine q _ _ I2 (t1.trans s1.i) (b3.setOw h0 i0 upd_same d1 fun j es ej hne ez => ?_)
    obtain ⟨a, ws, ea, _, _, hh, _⟩ := b2.ow ej
    rw [ez] at ea
    cases ea
    rw [hp] at hh
    cases hh⟩
/-- targets: a name, a tuple of names -/
inductive Tg where
  | nm (i : Nat)
  | tp (is : List Nat)
def gNames : List Nat → TGs
  | [] => gNil
  | i :: r => gCons (gName i) (gNames r)
def Tg.r (K : KF) : Tg → TG
  | .nm i => gName i
  | .tp is => gTup K is.length (gNames is)
def setN : List Nat → List D → Sl → Option Sl
  | [], [], ρ => some ρ
  | i :: r, d :: t, ρ => setN r t (ρ.set i (.im d))
  | _, _, _ => none
def Tg.s : Tg → D → Sl → Option Sl
  | .nm i, d, ρ => some (ρ.set i (.im d))
  | .tp is, .tuple ds, ρ => setN is ds ρ
  | .tp _, _, _ => none
def Tg.slots : Tg → List Nat
  | .nm i => [i]
  | .tp is => is
theorem wipe_set {σ : L2.St} {i : Nat} {x : Option V} : ∀ {vs : List Nat}, i ∈ vs → wipe (σ.set i x) vs = wipe σ vs
  | v :: vs, h => by
    unfold wipe
    by_cases hv : i ∈ vs
    · rw [wipe_set hv]
    · have hi : i = v := (List.mem_cons.mp h).resolve_right hv
      subst hi
      have key : ∀ (ws : List Nat), i ∉ ws → wipe (σ.set i x) ws = (wipe σ ws).set i x := by
        intro ws
        induction ws with
        | nil => intro _; rfl
        | cons w ws ih =>
          intro hn
          unfold wipe
          rw [ih (fun z => hn (List.mem_cons_of_mem _ z)), List.set_comm _ _ (fun z => hn (by rw [z]; exact List.mem_cons_self))]
      rw [key vs hv, List.set_set]
theorem setN_len : ∀ {is : List Nat} {ds : List D} {ρ ρ' : Sl}, setN is ds ρ = some ρ' → is.length = ds.length
  | [], [], _, _, _ => rfl
  | _ :: r, _ :: t, _, _, e => by rw [List.length_cons, List.length_cons, setN_len (is := r) (ds := t) e]
  | [], _ :: _, _, _, e => by cases e
  | _ :: _, [], _, _, e => by cases e
theorem names_ok {I0 H0 I H : Hp} {Q : L2.St → Hp → Prop} : ∀ {is : List Nat} {ds : List D} {vs : List V} {ρ ρ' : Sl} {σ : L2.St}, setN is ds ρ = some ρ' → Bd I0 H0 σ ρ I H → DvAll I vs ds →
    (∀ σ', Bd I0 H0 σ' ρ' I H → (∀ ws, (∀ i ∈ is, i ∈ ws) → wipe σ' ws = wipe σ ws) → Q σ' H) → gNames is vs σ H Q
  | [], [], _, _, _, σ, e, b, .nil, q => by cases e; exact ⟨rfl, q σ b fun _ _ => rfl⟩
  | i :: r, d :: t, _, _, _, σ, e, b, .cons h hs, q => ⟨_, _, rfl, names_ok (is := r) (ds := t) e (b.set h) hs fun σ' b' hw => q σ' b' fun ws hws => by
      rw [hw ws fun j hj => hws j (List.mem_cons_of_mem _ hj)]
      exact wipe_set (hws i List.mem_cons_self)⟩
  | [], _ :: _, _, _, _, _, e, _, _, _ => by cases e
  | _ :: _, [], _, _, _, _, e, _, _, _ => by cases e
theorem Tg.ok {K : KF} {I0 H0 I H : Hp} {Q : L2.St → Hp → Prop} {t : Tg} {d : D} {v : V} {ρ ρ' : Sl} {σ : L2.St} (e : t.s d ρ = some ρ') (b : Bd I0 H0 σ ρ I H) (h : Dv I v d)
    (q : ∀ σ', Bd I0 H0 σ' ρ' I H → (∀ ws, (∀ i ∈ t.slots, i ∈ ws) → wipe σ' ws = wipe σ ws) → Q σ' H) : t.r K v σ H Q := by
  cases t with
  | nm i =>
    cases e
    exact q _ (b.set h) fun ws hws => wipe_set (hws i List.mem_cons_self)
  | tp is =>
    cases d with
    | tuple ds =>
      have e1 : setN is ds ρ = some ρ' := e
      obtain ⟨a, xs, rfl, ha, da⟩ := dv_tup h
      exact ⟨a, xs, rfl, .inl (.inl (b.sub _ _ ha)), by rw [dvs_len da]; exact (setN_len e1).symm, names_ok e1 b da q⟩
    | _ => cases e
theorem pg_nm (i : Nat) {x : Str} (hN : X.N.Nodup) (hi : X.N[i]? = some x := by rfl) (hx : Loc X.env.scope x := by first | exact Or.inl rfl | exact Or.inr rfl) (hf : X.fn x = true ∨ X.env.scope.names.lookup x = some .local := by first | exact .inl rfl | exact .inr rfl) : PG X (.Name x pos) ((Tg.nm i).r X.K) := pg_name hN hi hx hf
theorem pgs_nl : PGs X [] (gNames []) := pgs_nil
theorem pgs_cn (i : Nat) {x : Str} {p : Pos} {r : List Nat} {xs : List Expr} (hN : X.N.Nodup) (h2 : PGs X xs (gNames r)) (hi : X.N[i]? = some x := by rfl) (hx : Loc X.env.scope x := by first | exact Or.inl rfl | exact Or.inr rfl) (hf : X.fn x = true ∨ X.env.scope.names.lookup x = some .local := by first | exact .inl rfl | exact .inr rfl)
    (hs : (assignEach (.Name x p :: xs) X.env).map (·.2) = assign (.Name x p) X.env :: (assignEach xs X.env).map (·.2) := by rfl) : PGs X (.Name x p :: xs) (gNames (i :: r)) := pgs_cons (pg_name hN hi hx hf) h2 hs
theorem pg_tp {is : List Nat} {k : Nat} (hc : X.calm = true) (h : PGs X es (gNames is)) (hn : (assignEach es X.env).length = is.length := by rfl) (hst : (assignEach es X.env).findIdx? (·.1) = none := by rfl) : PG X (.Tuple es k pos) ((Tg.tp is).r X.K) := pg_tup hc h hn hst
def unpS (t : Tg) (is : List Nat) (f : FE) : FS := fun ρ => (f (frz is ρ)).bind fun d => (t.s d (frz is ρ)).map .nx
theorem ds_unp (t : Tg) (is : List Nat) {tg : Expr} (he : DE X e f) (hg : PG X tg (t.r X.K)) (hs : swapsWithSole [tg] e pos.line X.env = pure false := by rfl) (hw : swappedStores [tg] e X.env = pure none := by rfl)
    (h1 : (assignEach [tg] X.env).map (·.2) = [assign tg X.env] := by rfl) : DS X (.Assign [tg] e pos) (unpS t is f) := ⟨fun ρ o z I0 H0 => by
  obtain ⟨d, ed, z⟩ := bind_some z
  obtain ⟨ρ', e', rfl⟩ := map_some' z
  exact PS.imp (ps_asg (he.run _ d ed I0 H0) hg hs hw h1) fun D σ H ⟨I, b, q⟩ => by
    obtain ⟨I1, b1, t1⟩ := b.frzs is
    exact ⟨I1, b1, fun v H' I' s dv => Tg.ok e' (b1.step s) dv fun σ' b' _ => q σ' H' I' (t1.trans s.i) b'⟩⟩

/-! ### append, extend -/
def appS (i : Nat) (is : List Nat) (f : FE) : FS := fun ρ => (f (frz is ρ)).bind fun d => match (frz is ρ)[i]? with
  | some (.ow ds) => if ds.length < sizeLine then some (.nx ((frz is ρ).set i (.ow (ds ++ [d])))) else none
  | _ => none
def extS (i : Nat) (is : List Nat) (f : FE) : FS := fun ρ => (f (frz is ρ)).bind fun d => match (frz is ρ)[i]?, d with
  | some (.ow ds), .list zs => if ds.length + zs.length ≤ sizeLine then some (.nx ((frz is ρ).set i (.ow (ds ++ zs)))) else none
  | _, _ => none
theorem ds_append (i : Nat) (is : List Nat) {x : Str} {p apos cpos : Pos} (he : DE X e f) (hN : X.N[i]? = some x := by rfl) (hv : Vis X.env.scope x := by first | exact Or.inl rfl | exact Or.inr (Or.inl rfl) | exact Or.inr (Or.inr rfl)) (hd : (x == ("__debug__" : Str)) = false := by decide)
    (hcd : (x == ("__classdict__" : Str)) = false := by decide) (hsw : swapsWith (.Call (.Attribute (.Name x p) "append" apos) [e] [] cpos) none pos.line X.env = pure false := by rfl)
    (hbase : attributeBase (.Name x p) "append" X.env (eval (.Name x p) X.env) = eval (.Name x p) X.env := by rfl)
    (hfew : ((backTo cpos (starEach [e] X.env)).all (fun x => !x.1) && (backToKw cpos (keywordEach [] X.env)).all (fun x => x.1.isSome)
      && decide ([e].length + ([] : List Keyword).length + (if ([] : List Keyword).isEmpty then 0 else 1) < 30)) = true := by rfl)
    (hline : (apos.endLine == cpos.line) = true := by rfl) (hs : starEach [e] X.env = (false, eval e X.env) :: starEach [] X.env := by rfl) (hplain : (backTo cpos (starEach [] X.env)).any (·.1) = false := by rfl) :
    DS X (.Expr (.Call (.Attribute (.Name x p) "append" apos) [e] [] cpos) pos) (appS i is f) := ⟨fun ρ o z I0 H0 => by
  obtain ⟨d, ed, z⟩ := bind_some z
  split at z
  · rename_i ds ei
    split at z
    · rename_i hl
      cases z
      refine PS.imp (ps_expr (pe_bm PySem.F.plainAttrs_list PySem.F.slot_list_append PySem.F.type_list_append mt_append (pe_var hN hv hd hcd) (pa_cons (he.run _ d ed I0 H0) pa_nil hs) hbase hfew hline hs hplain) hsw) fun D σ H ⟨I, b, q⟩ => ?_
      obtain ⟨I1, b1, t1⟩ := b.frzs is
      obtain ⟨a, vs, ea, _, _, hh, hd⟩ := b1.ow ei
      refine ⟨.ref a, ea, .inl ⟨rfl, vs, SqL.of hh⟩, I1, b1, fun v H1 I2 s1 d1 => ?_⟩
      refine ⟨a, vs, v, rfl, rfl, s1.h _ _ hh, by rw [dvs_len hd]; exact hl, ?_⟩
      exact q σ _ I2 (t1.trans s1.i) ((b1.step s1).mut ei ea (s1.h _ _ hh) (dvs_app (dvs_mono s1.i hd) (dvs_one d1)))
    · cases z
  · cases z⟩
theorem ds_extend (i : Nat) (is : List Nat) {x : Str} {p apos cpos : Pos} (he : DE X e f) (hN : X.N[i]? = some x := by rfl) (hv : Vis X.env.scope x := by first | exact Or.inl rfl | exact Or.inr (Or.inl rfl) | exact Or.inr (Or.inr rfl)) (hd : (x == ("__debug__" : Str)) = false := by decide)
    (hcd : (x == ("__classdict__" : Str)) = false := by decide) (hsw : swapsWith (.Call (.Attribute (.Name x p) "extend" apos) [e] [] cpos) none pos.line X.env = pure false := by rfl)
    (hbase : attributeBase (.Name x p) "extend" X.env (eval (.Name x p) X.env) = eval (.Name x p) X.env := by rfl)
    (hfew : ((backTo cpos (starEach [e] X.env)).all (fun x => !x.1) && (backToKw cpos (keywordEach [] X.env)).all (fun x => x.1.isSome)
      && decide ([e].length + ([] : List Keyword).length + (if ([] : List Keyword).isEmpty then 0 else 1) < 30)) = true := by rfl)
    (hline : (apos.endLine == cpos.line) = true := by rfl) (hs : starEach [e] X.env = (false, eval e X.env) :: starEach [] X.env := by rfl) (hplain : (backTo cpos (starEach [] X.env)).any (·.1) = false := by rfl) :
    DS X (.Expr (.Call (.Attribute (.Name x p) "extend" apos) [e] [] cpos) pos) (extS i is f) := ⟨fun ρ o z I0 H0 => by
  obtain ⟨d, ed, z⟩ := bind_some z
  split at z
  · rename_i ds zs ei
    split at z
    · rename_i hl
      cases z
      refine PS.imp (ps_expr (pe_bm PySem.F.plainAttrs_list PySem.F.slot_list_extend PySem.F.type_list_extend mt_extend (pe_var hN hv hd hcd) (pa_cons (he.run _ _ ed I0 H0) pa_nil hs) hbase hfew hline hs hplain) hsw) fun D σ H ⟨I, b, q⟩ => ?_
      obtain ⟨I1, b1, t1⟩ := b.frzs is
      obtain ⟨a, vs, ea, _, _, hh, hd⟩ := b1.ow ei
      refine ⟨.ref a, ea, .inl ⟨rfl, vs, SqL.of hh⟩, I1, b1, fun v H1 I2 s1 d1 => ?_⟩
      obtain ⟨c, ws, rfl, hc, dc⟩ := dv_lst d1
      refine ⟨a, c, vs, ws, rfl, rfl, s1.h _ _ hh, s1.s _ _ hc, by rw [dvs_len hd, dvs_len dc]; exact hl, ?_⟩
      exact q σ _ I2 (t1.trans s1.i) ((b1.step s1).mut ei ea (s1.h _ _ hh) (dvs_app (dvs_mono s1.i hd) dc))
    · cases z
  · cases z⟩

/-! ### return, if, while -/
def retS (is : List Nat) (f : FE) : FS := fun ρ => (f (frz is ρ)).map .rt
theorem ds_ret (is : List Nat) (he : DE X e f) : DS X (.Return (some e) pos) (retS is f) := ⟨fun ρ o z I0 H0 => by
  obtain ⟨d, ed, rfl⟩ := map_some' z
  exact PS.imp (ps_ret (he.run _ d ed I0 H0)) fun D σ H ⟨I, b, q⟩ => by
    obtain ⟨I1, b1, _⟩ := b.frzs is
    exact ⟨I1, b1, fun v H' I' s dv => q v H' I' (b1.step s).st dv⟩⟩
def ifS (is : List Nat) (c : FT) (g h : FS) : FS := fun ρ => (c (frz is ρ)).bind fun b => if b = true then g (frz is ρ) else h (frz is ρ)
theorem ds_if (is : List Nat) {c : Expr} {a b : List Stmt} {t : FT} {g h : FS} (hc : DT X c t) (ha : DSs X a g) (hb : DSs X b h) : DS X (.If c a b pos) (ifS is t g h) := ⟨fun ρ o z I0 H0 => by
  obtain ⟨k, ek, z⟩ := bind_some z
  cases k with
  | true =>
    rw [if_pos rfl] at z
    exact PS.imp (ps_if (hc.run _ _ ek I0 H0) (ha.run _ o z I0 H0) (pss_never (sts := b))) fun D σ H ⟨I, b, q⟩ => by
      obtain ⟨I1, b1, t1⟩ := b.frzs is
      exact ⟨I1, b1, fun H' I' s => iteT ⟨I', b1.step s, q.mono (t1.trans s.i)⟩⟩
  | false =>
    rw [if_neg (by decide)] at z
    exact PS.imp (ps_if (hc.run _ _ ek I0 H0) (pss_never (sts := a)) (hb.run _ o z I0 H0)) fun D σ H ⟨I, b, q⟩ => by
      obtain ⟨I1, b1, t1⟩ := b.frzs is
      exact ⟨I1, b1, fun H' I' s => iteF ⟨I', b1.step s, q.mono (t1.trans s.i)⟩⟩⟩
def loopW (c : FT) (b : FS) : Nat → FS
  | 0 => fun _ => none
  | n + 1 => fun ρ => (c ρ).bind fun k => if k = true then (b ρ).bind fun o => match o with
      | .nx ρ' => loopW c b n ρ'
      | .ct ρ' => loopW c b n ρ'
      | .bk ρ' => some (.nx ρ')
      | .rt d => some (.rt d)
    else some (.nx ρ)
def exT (I0 H0 : Hp) (c : FT) : TT := fun σ H Q => ∃ ρ b, c ρ = some b ∧ rdT I0 H0 ρ b σ H Q
def exS (I0 H0 : Hp) (g : FS) : TS := fun Dn σ H => ∃ ρ o, g ρ = some o ∧ rdS I0 H0 ρ o Dn σ H
theorem DT.ex {c : Expr} {t : FT} (h : DT X c t) (I0 H0 : Hp) : PT X c (exT I0 H0 t) := ⟨fun pins s σ H Q I ⟨ρ, b, e, q⟩ => (h.run ρ b e I0 H0).run pins s σ H Q I q⟩
theorem DSs.ex {g : FS} (h : DSs X sts g) (I0 H0 : Hp) : PSs X sts (exS I0 H0 g) := ⟨fun pins s σ H D I ⟨ρ, o, e, q⟩ => (h.run ρ o e I0 H0).run pins s σ H D I q⟩
theorem ds_while (n : Nat) {c : Expr} {body : List Stmt} {t : FT} {g : FS} (hc : DT X c t) (hb : DSs X body g) (hp : PassesOwn (model X.prog X.w) X.A X.env X.xe := by exact PassesOwn.never) : DS X (.While c body [] pos) (loopW t g n) := ⟨fun ρ o z I0 H0 => by
  refine PS.imp (ps_while hp (hc.ex I0 H0) (hb.ex I0 H0)) fun D σ H ⟨I, b, q⟩ => ?_
  refine ⟨fun m σ H => ∃ ρ I1 o, Bd I0 H0 σ ρ I1 H ∧ loopW t g m ρ = some o ∧ Then I1 I0 H0 D o, ⟨n, ρ, I, o, b, z, q⟩, ?_⟩
  rintro m σ1 H1 ⟨ρ1, I1, o1, b1, z1, q1⟩
  cases m with
  | zero => cases z1
  | succ m =>
    obtain ⟨k, ek, z1⟩ := bind_some z1
    cases k with
    | false =>
      rw [if_neg (by decide)] at z1
      cases z1
      exact ⟨ρ1, false, ek, I1, b1, fun H' I' s => iteF (q1 σ1 H' I' s.i (b1.step s))⟩
    | true =>
      rw [if_pos rfl] at z1
      obtain ⟨o2, e2, z2⟩ := bind_some z1
      refine ⟨ρ1, true, ek, I1, b1, fun H' I' s => iteT ?_⟩
      refine ⟨fun σ' H' => ∃ ρ I2 o, Bd I0 H0 σ' ρ I2 H' ∧ loopW t g m ρ = some o ∧ Then I2 I0 H0 D o, fun σ' H' w => ⟨m, Nat.lt_succ_self m, w⟩, ?_⟩
      refine ⟨ρ1, o2, e2, I', b1.step s, ?_⟩
      cases o2 with
      | nx ρ2 => exact fun σ' H' I2 t2 b' => ⟨ρ2, I2, o1, b', z2, q1.mono (s.i.trans t2)⟩
      | ct ρ2 => exact fun σ' H' I2 t2 b' => ⟨ρ2, I2, o1, b', z2, q1.mono (s.i.trans t2)⟩
      | bk ρ2 => cases z2; exact fun σ' H' I2 t2 b' => q1 σ' H' I2 (s.i.trans t2) b'
      | rt d => cases z2; exact q1⟩
end
end RB
set_option Elab.async false
set_option linter.all false
set_option maxRecDepth 100000
set_option maxHeartbeats 2000000
set_option autoImplicit false
/-! DV6: what is walked; for; comprehensions. -/
namespace RB
open PySem PySem.Spec L2

/-- the iterator J walks the data ds, that lie within I -/
def Walkd (J : It) (H0 I : Hp) (ds : List D) : Prop := ∀ (i : Nat) (Ic H : Hp), Same H0 H → Same I Ic → Same Ic H →
  (∀ d, ds[i]? = some d → J.go i H ∧ ∀ x H', J.yld i H x H' → ∃ I', Step Ic H I' H' ∧ Dv I' x d) ∧ (ds.length ≤ i → J.stop i H)
def rdI (I0 H0 : Hp) (ρ : Sl) (ds : List D) : TI := fun σ H R => ∃ I, Bd I0 H0 σ ρ I H ∧ ∀ J H' I', Step I H I' H' → Walkd J H0 I' ds → R J H'
abbrev FI := Sl → Option (List D)
structure DI (X : Cx) (tg e : Expr) (f : FI) : Prop where
  run : ∀ (ρ : Sl) (ds : List D), f ρ = some ds → ∀ I0 H0, PI X tg e (rdI I0 H0 ρ ds)
section
variable {X : Cx} {tg e : Expr} {f : FE} {fs : FA} {pos p : Pos}
theorem PI.imp {w w' : TI} (h : PI X tg e w) (k : ∀ σ H R, w' σ H R → w σ H R) : PI X tg e w' := ⟨fun pins s σ H R I q => h.run pins s σ H R I (k σ H R q)⟩
def signsD (z : Str) : List D := z.cps.toList.map fun c => .str ⟨#[c]⟩
def seqD : D → Option (List D)
  | .list ds => some ds
  | .tuple ds => some ds
  | .str z => some (signsD z)
  | _ => none
def seqI (f : FE) : FI := fun ρ => (f ρ).bind seqD
theorem walk_list {K : KF} {H0 I : Hp} {a : Addr} {xs : List V} {ds : List D} (ha : I a = some (.lst xs)) (h : DvAll I xs ds) : Walkd (Itl K a) H0 I ds := fun i Ic H _ s1 s2 => by
  have hq : SqL K H a xs := SqL.of (s2 _ _ (s1 _ _ ha))
  refine ⟨fun d ed => ?_, fun hl => ⟨xs, hq, by rw [dvs_len h]; exact hl⟩⟩
  obtain ⟨v, ev, dv⟩ := dvs_get' h ed
  exact ⟨⟨xs, v, hq, ev⟩, fun x H' ⟨e1, e2⟩ => by
    subst e1
    have := e2 xs hq
    rw [ev] at this; cases this
    exact ⟨Ic, Step.refl s2, dv_mono s1 dv⟩⟩
theorem walk_tup {K : KF} {H0 I : Hp} {a : Addr} {xs : List V} {ds : List D} (ha : I a = some (.tup xs)) (h : DvAll I xs ds) : Walkd (Itt K a) H0 I ds := fun i Ic H _ s1 s2 => by
  have hq : SqT K H a xs := SqT.of (s2 _ _ (s1 _ _ ha))
  refine ⟨fun d ed => ?_, fun hl => ⟨xs, hq, by rw [dvs_len h]; exact hl⟩⟩
  obtain ⟨v, ev, dv⟩ := dvs_get' h ed
  exact ⟨⟨xs, v, hq, ev⟩, fun x H' ⟨e1, e2⟩ => by
    subst e1
    have := e2 xs hq
    rw [ev] at this; cases this
    exact ⟨Ic, Step.refl s2, dv_mono s1 dv⟩⟩
theorem signs_get {z : Str} {i : Nat} {d : D} (h : (signsD z)[i]? = some d) : ∃ c, z.cps[i]? = some c ∧ d = .str ⟨#[c]⟩ := by
  unfold signsD at h
  rw [List.getElem?_map] at h
  obtain ⟨c, ec, rfl⟩ := map_some' h
  exact ⟨c, by simpa using ec, rfl⟩
theorem signs_len (z : Str) : (signsD z).length = z.cps.size := by
  unfold signsD
  rw [List.length_map, Array.length_toList]
theorem walk_str {H0 I : Hp} {z : Str} : Walkd (Its z) H0 I (signsD z) := fun i Ic H _ s1 s2 => by
  refine ⟨fun d ed => ?_, fun hl => by rw [signs_len] at hl; exact hl⟩
  obtain ⟨c, ec, rfl⟩ := signs_get ed
  refine ⟨(Array.getElem?_eq_some_iff.mp ec).1, fun x H' ⟨e1, c', e2, e3⟩ => ?_⟩
  subst e1
  rw [ec] at e2; cases e2
  subst e3
  exact ⟨Ic, Step.refl s2, .str _⟩
theorem di_seq (he : DE X e f) : DI X tg e (seqI f) := ⟨fun ρ ds z I0 H0 => by
  obtain ⟨d, ed, z⟩ := bind_some z
  unfold seqD at z
  split at z
  · cases z
    exact PI.imp (pi_list (he.run ρ _ ed I0 H0)) fun σ H R ⟨I, b, q⟩ => ⟨I, b, fun v H' I' s dv => by
      obtain ⟨a, xs, rfl, ha, da⟩ := dv_lst dv
      exact ⟨a, rfl, ⟨xs, SqL.of (s.s _ _ ha)⟩, q _ H' I' s (walk_list ha da)⟩⟩
  · cases z
    exact PI.imp (pi_tup (he.run ρ _ ed I0 H0)) fun σ H R ⟨I, b, q⟩ => ⟨I, b, fun v H' I' s dv => by
      obtain ⟨a, xs, rfl, ha, da⟩ := dv_tup dv
      exact ⟨a, rfl, ⟨xs, SqT.of (s.s _ _ ha)⟩, q _ H' I' s (walk_tup ha da)⟩⟩
  · cases z
    exact PI.imp (pi_str (he.run ρ _ ed I0 H0)) fun σ H R ⟨I, b, q⟩ => ⟨I, b, fun v H' I' s dv => ⟨_, dv_str dv, q _ H' I' s walk_str⟩⟩
  · cases z⟩
/-! ### ranges -/
def rngD (lo : Int) (n : Nat) : List D := (List.range n).map fun (k : Nat) => PyData.int (lo + (k : Int))
theorem walk_rng {H0 I : Hp} {lo : Int} {n : Nat} : Walkd (Itr lo n) H0 I (rngD lo n) := fun i Ic H _ s1 s2 => by
  unfold rngD
  refine ⟨fun d ed => ?_, fun hl => by rw [List.length_map, List.length_range] at hl; exact hl⟩
  rw [List.getElem?_map] at ed
  obtain ⟨k, ek, rfl⟩ := map_some' ed
  obtain ⟨hk, e2⟩ := List.getElem?_eq_some_iff.mp ek
  rw [List.length_range] at hk
  rw [List.getElem_range] at e2
  subst e2
  refine ⟨hk, fun x H' ⟨e1, e3⟩ => ?_⟩
  subst e1
  subst e3
  exact ⟨Ic, Step.refl s2, .int _⟩
def smallI (i : Int) : Bool := decide (i.natAbs < 4611686018427387904)
theorem smallI_ok {i : Int} (h : smallI i = true) : -(2 ^ 62) ≤ i ∧ i < 2 ^ 62 := by
  unfold smallI at h
  rw [decide_eq_true_eq] at h
  omega
def rng1I (f : FE) : FI := fun ρ => ((f ρ).bind asI).bind fun j => if smallI j = true then some (rngD 0 j.toNat) else none
def rng2I (f g : FE) : FI := fun ρ => ((f ρ).bind asI).bind fun i => ((g ρ).bind asI).bind fun j => if smallI i = true ∧ smallI j = true then some (rngD i (j - i).toNat) else none
theorem di_rng1 {a : Expr} (hg : Gl X "range") (hm : X.mg "range" = none) (ha : DE X a f) (hs : starEach [a] X.env = [(false, eval a X.env)] := by rfl) (hs' : starEach [a] X.env = (false, eval a X.env) :: starEach [] X.env := by rfl) : DI X tg (.Call (.Name "range" p) [a] [] pos) (rng1I f) := ⟨fun ρ ds z I0 H0 => by
  obtain ⟨j, ej, z⟩ := bind_some z
  obtain ⟨d, ed, ej⟩ := bind_some ej
  have ej2 := asI_some ej
  subst ej2
  split at z
  · rename_i hj
    cases z
    exact PI.imp (pi_range1 hg hm (pa_cons (ha.run ρ _ ed I0 H0) pa_nil hs') hs) fun σ H R ⟨I, b, q⟩ => ⟨I, b, fun v H' I' s dv => ⟨j, by rw [dv_int dv], (smallI_ok hj).1, (smallI_ok hj).2, q _ H' I' s walk_rng⟩⟩
  · cases z⟩
theorem di_rng2 {a b : Expr} {g : FE} (hg : Gl X "range") (hm : X.mg "range" = none) (ha : DE X a f) (hb : DE X b g) (hs : starEach [a, b] X.env = [(false, eval a X.env), (false, eval b X.env)] := by rfl) (hs2 : starEach [b] X.env = [(false, eval b X.env)] := by rfl)
    (hs' : starEach [a, b] X.env = (false, eval a X.env) :: starEach [b] X.env := by rfl) (hs2' : starEach [b] X.env = (false, eval b X.env) :: starEach [] X.env := by rfl) : DI X tg (.Call (.Name "range" p) [a, b] [] pos) (rng2I f g) := ⟨fun ρ ds z I0 H0 => by
  obtain ⟨i, ei, z⟩ := bind_some z
  obtain ⟨d1, ed1, ei⟩ := bind_some ei
  have ei2 := asI_some ei
  subst ei2
  obtain ⟨j, ej, z⟩ := bind_some z
  obtain ⟨d2, ed2, ej⟩ := bind_some ej
  have ej2 := asI_some ej
  subst ej2
  split at z
  · rename_i hj
    cases z
    exact PI.imp (pi_range2 hg hm (pa_cons (ha.run ρ _ ed1 I0 H0) (pa_cons (hb.run ρ _ ed2 I0 H0) pa_nil hs2') hs') hs hs2) fun σ H R ⟨I, b, q⟩ => ⟨I, b, fun v H1 I1 s1 d1 => ⟨I1, b.step s1, fun v2 H2 I2 s2 d2 =>
      ⟨i, j, by rw [dv_int d1, dv_int d2], ⟨(smallI_ok hj.1).1, (smallI_ok hj.1).2, (smallI_ok hj.2).1, (smallI_ok hj.2).2⟩, q _ H2 I2 (s1.trans s2) walk_rng⟩⟩⟩
  · cases z⟩
/-! ### enumerate -/
def enumFrom (n : Nat) : List D → List D
  | [] => []
  | d :: r => .tuple [.int n, d] :: enumFrom (n + 1) r
theorem enum_get : ∀ {ds : List D} {n i : Nat} {d : D}, (enumFrom n ds)[i]? = some d → ∃ y, ds[i]? = some y ∧ d = .tuple [.int ((n + i : Nat) : Int), y]
  | [], _, _, _, h => by simp [enumFrom] at h
  | y :: r, n, 0, d, h => by simp [enumFrom] at h; exact ⟨y, rfl, h.symm⟩
  | y :: r, n, i + 1, d, h => by
    simp only [enumFrom, List.getElem?_cons_succ] at h
    obtain ⟨z, e1, e2⟩ := enum_get h
    exact ⟨z, by simpa using e1, by rw [e2, show n + 1 + i = n + (i + 1) by omega]⟩
theorem enum_len : ∀ {ds : List D} {n : Nat}, (enumFrom n ds).length = ds.length
  | [], _ => rfl
  | _ :: r, n => by simp only [enumFrom, List.length_cons]; rw [enum_len (ds := r)]
theorem Step.newT {I H : Hp} (s : Same I H) {p : Addr} {vs : List V} {ds : List D} (hp : H p = none) (h : DvAll I vs ds) : ∃ I', Step I H I' (upd H p (.tup vs)) ∧ Dv I' (.ref p) (.tuple ds) := ⟨_, Step.new s hp, dv_newT (s.free hp) h⟩
theorem walk_enum {K : KF} {H0 I : Hp} {a : Addr} {xs : List V} {ds : List D} (ha : I a = some (.lst xs)) (h : DvAll I xs ds) : Walkd (Ite K a) H0 I (enumFrom 0 ds) := fun i Ic H _ s1 s2 => by
  have hq : SqL K H a xs := SqL.of (s2 _ _ (s1 _ _ ha))
  refine ⟨fun d ed => ?_, fun hl => ⟨xs, hq, by rw [dvs_len h]; rw [enum_len] at hl; exact hl⟩⟩
  obtain ⟨y, ey, rfl⟩ := enum_get ed
  obtain ⟨v, ev, dv⟩ := dvs_get' h ey
  refine ⟨⟨xs, v, hq, ev⟩, fun x H' ⟨T, x', e1, e2, e3, e4⟩ => ?_⟩
  subst e1
  subst e3
  have := e4 xs hq
  rw [ev] at this; cases this
  exact Step.newT s2 e2 (.cons (by rw [Nat.zero_add]; exact .int _) (dvs_one (dv_mono s1 dv)))
/-- the signs of z, numbered, in new pairs -/
def Ites (z : Str) : It := ⟨fun i _ => i < z.cps.size, fun i H v H' => ∃ T c, v = .ref T ∧ H T = none ∧ H' = upd H T (.tup [.int (i : Nat), .str ⟨#[c]⟩]) ∧ z.cps[i]? = some c, fun i _ => z.cps.size ≤ i⟩
theorem turn_enumS {P : Program} {w : World} {K : KF} {elts : List Expr} {kk : Nat} {tpos : Pos} (z : Str) (t : Tok) (ty : String) (hty : ty = "str_ascii_iterator" ∨ ty = "str_iterator") (e it : Addr) :
    Turn P w K (.Tuple elts kk tpos) (Ites z) [e, it] e (fun i h => (∃ old, IsEnum h e it ((i : Nat) : Int) old) ∧ h.IsStrIter it ty z t i ∧ e ≠ it ∧ i ≤ z.cps.size) where
  mem := by simp
  obj := fun i h st b hb => by
    obtain ⟨⟨old, he⟩, ⟨o, ho, hc, hd⟩, _⟩ := st
    have e' : b = e ∨ b = it := by simpa using hb
    rcases e' with z | z
    · rw [z]; exact ⟨_, he, fun v q => nomatch q⟩
    · rw [z]; exact ⟨o, ho, fun v q => by rw [hd] at q; cases q⟩
  keep := fun i h h' st k => let ⟨⟨old, he⟩, ⟨o, ho, r⟩, hne⟩ := st; ⟨⟨old, k e (by simp) _ he⟩, ⟨o, k it (by simp) o ho, r⟩, hne⟩
  item := by
    intro X hP hw hK hc i pins s σ H E J hf st hg
    subst hP hw hK
    obtain ⟨⟨old, he⟩, hit, hne, hle⟩ := st
    have hel : e < s.heap.objs.size := Heap.lt_size he
    have hil : it < s.heap.objs.size := by obtain ⟨_, q, _⟩ := hit; exact Heap.lt_size q
    have W : Draws X.prog X.w X.A.in1 it [it] z.cps.size (SignAt z) (fun i h => h.IsStrIter it ty z t i) := by
      rcases hty with q | q
      · rw [q]; exact Draws.strAscii (A := X.A.in1) (J.ok.hd hc) it z t
      · rw [q]; exact Draws.strWide (A := X.A.in1) (J.ok.hd hc) it z t
    refine wpAny_pyNext_enum_itemD W he hit hg hne (by simpa using hne) fun u h' tk hP ho hit' hT hsz hk => ?_
    obtain ⟨c, tc, hcx, rfl⟩ := hP
    refine ⟨_, rfl, wpAny_letOwnedTupleGo_enum (s := { s with heap := h', toks := tk + 1 }) ho fun h'' he' sb => ?_⟩
    have hT2 : h''.get? s.heap.objs.size = some { cls := .type "tuple", data := .seq #[.int i tk, .str ⟨#[c]⟩ tc] } := (sb.2 _ (Nat.ne_of_gt hel)).trans hT
    have new : ObjOk X.prog X.w (upd H s.heap.objs.size (.tup [.int (i : Nat), .str ⟨#[c]⟩])) h'' s.heap.objs.size (.tup [.int (i : Nat), .str ⟨#[c]⟩]) :=
      ⟨by show 2 ≤ sizeLine; decide, [.int i tk, .str ⟨#[c]⟩ tc], .cons ⟨_, rfl⟩ (.cons ⟨_, rfl⟩ .nil), ⟨_, hT2, rfl, _, rfl⟩⟩
    have I1 : Inv X pins σ (upd H s.heap.objs.size (.tup [.int (i : Nat), .str ⟨#[c]⟩])) { s with heap := h'', toks := tk + 1 } :=
      J.turnedNew (ch := [e, it]) (fun b ob hb q => (sb.2 b (fun z => hb (by simp [z]))).trans (hk b ob (fun z => hb (by simp [z])) (fun z => hb (by simp [z])) q)) hf (Nat.le_refl _) new
    refine ⟨.ref s.heap.objs.size, _, I1, rfl, ⟨_, c, rfl, J.hok.fresh (Nat.le_refl _), rfl, hcx⟩, ⟨⟨.str ⟨#[c]⟩ tc, ?_⟩, ?_, hne, hg⟩, fun b hb => ?_⟩
    · have e1 : ((i + 1 : Nat) : Int) = (i : Int) + 1 := by omega
      rw [e1]; exact he'
    · obtain ⟨o, ho1, r⟩ := hit'
      exact ⟨o, (sb.2 it (Ne.symm hne)).trans ho1, r⟩
    · have hb' : b < s.heap.objs.size := by
        have e' : b = e ∨ b = it := by simpa using hb
        rcases e' with z | z
        · rw [z]; exact hel
        · rw [z]; exact hil
      rw [upd_ne (Nat.ne_of_lt hb')]
      exact (hf b hb).1
  done := by
    intro X hP hw hK hc i pins s σ H E J hf st hg
    subst hP hw hK
    obtain ⟨⟨old, he⟩, hit, hne, hle⟩ := st
    obtain ⟨f0, f1, f2, f3, f4, f5⟩ := hf it (by simp)
    have W : Draws X.prog X.w X.A.in1 it [it] z.cps.size (SignAt z) (fun i h => h.IsStrIter it ty z t i) := by
      rcases hty with q | q
      · rw [q]; exact Draws.strAscii (A := X.A.in1) (J.ok.hd hc) it z t
      · rw [q]; exact Draws.strWide (A := X.A.in1) (J.ok.hd hc) it z t
    have hi : i = z.cps.size := Nat.le_antisymm hle hg
    subst hi
    exact wpAny_pyNext_enum_endD W he hit fun h' eb => ⟨rfl, J.turned (t' := s.toks) (fun b o hb q => eb b o hb q) f0 f1 f3 f4 f5⟩
  self := fun A i s Q E st h => let ⟨⟨_, he⟩, _⟩ := st; wpAny_pyIter_enum he h
theorem walk_enumS {H0 I : Hp} {z : Str} : Walkd (Ites z) H0 I (enumFrom 0 (signsD z)) := fun i Ic H _ s1 s2 => by
  refine ⟨fun d ed => ?_, fun hl => by rw [enum_len, signs_len] at hl; exact hl⟩
  obtain ⟨y, ey, rfl⟩ := enum_get ed
  obtain ⟨c, ec, rfl⟩ := signs_get ey
  refine ⟨(Array.getElem?_eq_some_iff.mp ec).1, fun x H' ⟨T, c', e1, e2, e3, e4⟩ => ?_⟩
  subst e1
  subst e3
  rw [ec] at e4; cases e4
  exact Step.newT s2 e2 (.cons (by rw [Nat.zero_add]; exact .int _) (dvs_one (.str _)))
def rEnumS (ta : TA) : TI := fun σ H R => ta σ H fun vs H1 => ∃ z, vs = [.str z] ∧ R (Ites z) H1
theorem pi_enumS {e : Expr} {ta : TA} {p pos tpos : Pos} {elts : List Expr} {kk : Nat} (hg : Gl X "enumerate") (hm : X.mg "enumerate" = none) (ha : PA X [e] ta) (hs : starEach [e] X.env = [(false, eval e X.env)] := by rfl) :
    PI X (.Tuple elts kk tpos) (.Call (.Name "enumerate" p) [e] [] pos) (rEnumS ta) := by
  refine ⟨fun pins s σ H R J h => ?_⟩
  refine PyProof.Rows.Call_ (ld_blt J hg hm PyProof.Rows.boot_enumerate (PyProof.Rows.callWith_type1 (thn (ha.run pos pins s σ H _ J h) fun us s1 ⟨vs, H1, I1, r1, q1⟩ => ?_) hs rfl))
  obtain ⟨z, ex, q⟩ := q1
  subst ex
  cases r1 with
  | cons r rr =>
    cases rr
    obtain ⟨t, rfl⟩ := r
    refine call_enumerate_str fun h' he hit hsz hk => wpAny_pyIter_enum he ?_
    have I2 : Inv X pins σ H1 { s1 with heap := h' } := I1.kept (t' := s1.toks) hk
    have hty : strIterType z = "str_ascii_iterator" ∨ strIterType z = "str_iterator" := by
      unfold strIterType
      split
      · exact .inl rfl
      · exact .inr rfl
    refine ⟨s1.heap.objs.size + 1, [s1.heap.objs.size + 1, s1.heap.objs.size], _, _, H1, rfl, I2, turn_enumS z t (strIterType z) hty (s1.heap.objs.size + 1) s1.heap.objs.size, ⟨⟨.none, he⟩, hit, Nat.succ_ne_self _, Nat.zero_le _⟩, fun b hb => ?_, q⟩
    have e' : b = s1.heap.objs.size + 1 ∨ b = s1.heap.objs.size := by simpa using hb
    have hle : s1.heap.objs.size ≤ b := by
      rcases e' with z | z
      · rw [z]; exact Nat.le_add_right _ _
      · rw [z]; exact Nat.le_refl _
    exact I1.fpOk hle (I1.hok.fresh hle)
def enumD : D → Option (List D)
  | .list ds => some (enumFrom 0 ds)
  | .str z => some (enumFrom 0 (signsD z))
  | _ => none
def enumI (f : FE) : FI := fun ρ => (f ρ).bind enumD
theorem di_enum {a : Expr} {p pos tpos : Pos} {elts : List Expr} {kk : Nat} (hg : Gl X "enumerate") (hm : X.mg "enumerate" = none) (ha : DE X a f) (hs : starEach [a] X.env = [(false, eval a X.env)] := by rfl) (hs' : starEach [a] X.env = (false, eval a X.env) :: starEach [] X.env := by rfl) :
    DI X (.Tuple elts kk tpos) (.Call (.Name "enumerate" p) [a] [] pos) (enumI f) := ⟨fun ρ ds z I0 H0 => by
  obtain ⟨d, ed, z⟩ := bind_some z
  unfold enumD at z
  split at z
  · cases z
    exact PI.imp (pi_enum hg hm (pa_cons (ha.run ρ _ ed I0 H0) pa_nil hs') hs) fun σ H R ⟨I, b, q⟩ => ⟨I, b, fun v H' I' s dv => by
      obtain ⟨a, xs, rfl, ha, da⟩ := dv_lst dv
      exact ⟨a, xs, rfl, SqL.of (s.s _ _ ha), q _ H' I' s (walk_enum ha da)⟩⟩
  · cases z
    exact PI.imp (pi_enumS hg hm (pa_cons (ha.run ρ _ ed I0 H0) pa_nil hs') hs) fun σ H R ⟨I, b, q⟩ => ⟨I, b, fun v H' I' s dv => ⟨_, by rw [dv_str dv], q _ H' I' s walk_enumS⟩⟩
  · cases z⟩

/-! ### for -/
def loopF (t : Tg) (b : FS) : List D → FS
  | [] => fun ρ => some (.nx ρ)
  | d :: r => fun ρ => (t.s d ρ).bind fun ρ1 => (b ρ1).bind fun o => match o with
    | .nx ρ2 => loopF t b r ρ2
    | .ct ρ2 => loopF t b r ρ2
    | .bk ρ2 => some (.nx ρ2)
    | .rt d => some (.rt d)
def forS (t : Tg) (is : List Nat) (fi : FI) (b : FS) : FS := fun ρ => (fi (frz is ρ)).bind fun ds => loopF t b ds (frz is ρ)
theorem ds_for (t : Tg) (is : List Nat) {fi : FI} {body : List Stmt} {g : FS} (hc : X.calm = true) (hi : DI X tg e fi) (hg : PG X tg (t.r X.K)) (hb : DSs X body g) (hp : PassesOwn (model X.prog X.w) X.A X.env X.xe := by exact PassesOwn.never)
    (hs : ∀ x, foldedSetIterable e X.env x = pure x := by intro _; rfl) : DS X (.For tg e body [] pos) (forS t is fi g) := ⟨fun ρ o z I0 H0 => by
  obtain ⟨ds, ed, z⟩ := bind_some z
  refine PS.imp (ps_for hp hc (hi.run _ ds ed I0 H0) hg (hb.ex I0 H0) hs) fun Dn σ H ⟨I, b, q⟩ => ?_
  obtain ⟨I1, b1, t1⟩ := b.frzs is
  refine ⟨I1, b1, fun J H2 I2 s2 w => ?_⟩
  have W : Prop := True
  refine ⟨fun i m σ H => ∃ ρ I, Same I2 I ∧ Bd I0 H0 σ ρ I H ∧ m + i = ds.length ∧ loopF t g (ds.drop i) ρ = some o, ⟨ds.length, frz is ρ, I2, Same.refl _, b1.step s2, by omega, z⟩, ?_⟩
  rintro i m σ3 H3 ⟨ρ3, I3, t3, b3, hm, z3⟩
  have wi := w i I3 H3 b3.st.h t3 b3.sub
  have tI : Same I I3 := (t1.trans s2.i).trans t3
  by_cases hlt : i < ds.length
  · have hd : ds.drop i = ds[i] :: ds.drop (i + 1) := List.drop_eq_getElem_cons hlt
    rw [hd] at z3
    obtain ⟨ρ4, e4, z4⟩ := bind_some z3
    obtain ⟨o5, e5, z5⟩ := bind_some z4
    obtain ⟨hgo, hy⟩ := wi.1 ds[i] (List.getElem?_eq_getElem hlt)
    refine .inr ⟨hgo, fun σ H => ∃ ρ I, Same I2 I ∧ Bd I0 H0 σ ρ I H ∧ (m - 1) + (i + 1) = ds.length ∧ loopF t g (ds.drop (i + 1)) ρ = some o, fun σ' H' w => ⟨m - 1, by omega, w⟩, fun x H' y => ?_⟩
    obtain ⟨I', s', dv⟩ := hy x H' y
    refine Tg.ok e4 (b3.step s') dv fun σ4 b4 _ => ⟨ρ4, o5, e5, I', b4, ?_⟩
    have key : ∀ (ρ6 : Sl) (σ6 : L2.St) (H6 I6 : Hp), loopF t g (ds.drop (i + 1)) ρ6 = some o → Same I' I6 → Bd I0 H0 σ6 ρ6 I6 H6 → ∃ ρ I, Same I2 I ∧ Bd I0 H0 σ6 ρ I H6 ∧ (m - 1) + (i + 1) = ds.length ∧ loopF t g (ds.drop (i + 1)) ρ = some o :=
      fun ρ6 σ6 H6 I6 z6 s6 b6 => ⟨ρ6, I6, (t3.trans s'.i).trans s6, b6, by omega, z6⟩
    cases o5 with
    | nx ρ6 => exact fun σ6 H6 I6 s6 b6 => key ρ6 σ6 H6 I6 z5 s6 b6
    | ct ρ6 => exact fun σ6 H6 I6 s6 b6 => key ρ6 σ6 H6 I6 z5 s6 b6
    | bk ρ6 => cases z5; exact fun σ6 H6 I6 s6 b6 => q σ6 H6 I6 ((tI.trans s'.i).trans s6) b6
    | rt d => cases z5; exact q
  · have hi : ds.length ≤ i := by omega
    rw [List.drop_eq_nil_of_le hi] at z3
    cases z3
    exact .inl ⟨wi.2 hi, q σ3 H3 I3 tI b3⟩⟩

/-! ### list comprehensions -/
def wipeS (ρ : Sl) : List Nat → Sl
  | [] => ρ
  | v :: vs => (wipeS ρ vs).set v .no
theorem Bd.clear {I0 H0 I H : Hp} {σ : L2.St} {ρ : Sl} (b : Bd I0 H0 σ ρ I H) (i : Nat) (x : Option V) : Bd I0 H0 (σ.set i x) (ρ.set i .no) I H where
  st := b.st
  ok := by
    refine ⟨by simpa using b.ok.len, fun j s e => ?_, fun j k a ds es hne e1 e2 e3 => ?_⟩
    · by_cases hj : i = j
      · subst hj
        have hl : i < ρ.length := by
          have := (List.getElem?_eq_some_iff.mp e).1
          simpa using this
        rw [List.getElem?_set_self hl] at e
        cases e
        exact ⟨x, by rw [List.getElem?_set_self (by rw [b.ok.len]; exact hl)], trivial⟩
      · rw [List.getElem?_set_ne hj] at e
        obtain ⟨o, h1, h2⟩ := b.ok.get j s e
        exact ⟨o, by rw [List.getElem?_set_ne hj]; exact h1, h2⟩
    · have n1 : i ≠ j := fun z => by
        subst z
        have hl := (List.getElem?_eq_some_iff.mp e1).1
        rw [List.getElem?_set_self (by simpa using hl)] at e1
        cases e1
      have n2 : i ≠ k := fun z => by
        subst z
        have hl := (List.getElem?_eq_some_iff.mp e2).1
        rw [List.getElem?_set_self (by simpa using hl)] at e2
        cases e2
      rw [List.getElem?_set_ne n1] at e1 e3
      rw [List.getElem?_set_ne n2] at e2 ⊢
      exact b.ok.apart j k a ds es hne e1 e2 e3
theorem Bd.wipe {I0 H0 I H : Hp} {σ : L2.St} {ρ : Sl} (b : Bd I0 H0 σ ρ I H) : ∀ vs, Bd I0 H0 (L2.wipe σ vs) (wipeS ρ vs) I H
  | [] => b
  | v :: vs => (Bd.wipe b vs).clear v none
/-- an object that is no data and no slot's own changes -/
theorem Bd.other {I0 H0 I H : Hp} {σ : L2.St} {ρ : Sl} (b : Bd I0 H0 σ ρ I H) {c : Addr} {o : HO} (h0 : H0 c = none) (hi : I c = none) (hno : ∀ (j : Nat) es, ρ[j]? = some (.ow es) → σ[j]? ≠ some (some (.ref c))) : Bd I0 H0 σ ρ I (upd H c o) := by
  refine ⟨⟨fun x u q => ?_, b.st.i, fun x u q => ?_, b.st.n⟩, ⟨b.ok.len, fun j s q => ?_, b.ok.apart⟩⟩
  · rw [upd_ne (fun z => by subst z; rw [h0] at q; cases q)]; exact b.st.h x u q
  · rw [upd_ne (fun z => by subst z; rw [hi] at q; cases q)]; exact b.st.s x u q
  · obtain ⟨u, h1, h2⟩ := b.ok.get j s q
    refine ⟨u, h1, ?_⟩
    cases s with
    | no => trivial
    | im d => exact h2
    | gm C g kl pl r ks ts => exact h2
    | ow xs =>
      obtain ⟨a, us, rfl, g0, gi, gh, gp⟩ := h2
      have hne : a ≠ c := fun z => hno j xs q (by rw [h1, z])
      exact ⟨a, us, rfl, g0, gi, by rw [upd_ne hne]; exact gh, gp⟩
def loopC (t : Tg) (c : FT) (f : FE) (ρ : Sl) : List D → Option (List D)
  | [] => some []
  | d :: r => (t.s d ρ).bind fun ρ1 => (c ρ1).bind fun b => if b = true then (f ρ1).bind fun y => (loopC t c f ρ r).map fun ys => y :: ys else loopC t c f ρ r
def compE (own : List Nat) (t : Tg) (fi : FI) (c : FT) (f : FE) : FE := fun ρ => (fi ρ).bind fun ds => if ds.length ≤ sizeLine then (loopC t c f (wipeS ρ own) ds).map .list else none
def yesT : FT := fun _ => some true
structure DTs (X : Cx) (ifs : List Expr) (f : FT) : Prop where
  run : ∀ (ρ : Sl) (b : Bool), f ρ = some b → ∀ I0 H0, PTs X ifs (rdT I0 H0 ρ b)
theorem dts_nil : DTs X [] yesT := ⟨fun ρ b e I0 H0 => by
  cases e
  exact ⟨fun pins s σ H Q J ⟨I, b, q⟩ => pts_nil.run pins s σ H Q J (q H I b.refl)⟩⟩
theorem dts_one {c : Expr} {t : FT} (h : DT X c t) : DTs X [c] t := ⟨fun ρ b e I0 H0 => pts_one (h.run ρ b e I0 H0)⟩
def exE (I0 H0 : Hp) (f : FE) : TE := fun σ H Q => ∃ ρ d, f ρ = some d ∧ rd I0 H0 ρ d σ H Q
theorem DE.ex (h : DE X e f) (I0 H0 : Hp) : PE X e (exE I0 H0 f) := ⟨fun pins s σ H Q I ⟨ρ, d, z, q⟩ => (h.run ρ d z I0 H0).run pins s σ H Q I q⟩
theorem DTs.ex {ifs : List Expr} {t : FT} (h : DTs X ifs t) (I0 H0 : Hp) : PTs X ifs (exT I0 H0 t) := ⟨fun pins s σ H Q I ⟨ρ, b, z, q⟩ => (h.run ρ b z I0 H0).run pins s σ H Q I q⟩
theorem comp_rd {K : KF} {I0 H0 : Hp} {own : List Nat} {t : Tg} {c : FT} {f : FE} {ρ : Sl} {ds ys : List D} {σ : L2.St} {H : Hp} {Q : VK} (ho : ∀ i ∈ t.slots, i ∈ own) (hl : ds.length ≤ sizeLine) (z : loopC t c f (wipeS ρ own) ds = some ys)
    (q : rd I0 H0 ρ (.list ys) σ H Q) : tLc (rdI I0 H0 ρ ds) (t.r K) (exT I0 H0 c) (exE I0 H0 f) own σ H Q := by
  obtain ⟨I, b, q⟩ := q
  refine ⟨I, b, fun J H1 I1 s1 w Dd hD => ?_⟩
  have b1 := b.step s1
  have hD0 : H0 Dd = none := b1.st.h.free hD
  have hDI : I1 Dd = none := s1.s.free hD
  have hno : ∀ (j : Nat) es, ρ[j]? = some (.ow es) → σ[j]? ≠ some (some (.ref Dd)) := fun j es ej ez => by
    obtain ⟨a, ws, ea, _, _, hh, _⟩ := b1.ow ej
    rw [ez] at ea
    cases ea
    rw [hD] at hh
    cases hh
  have s0 : Step I1 H1 I1 (upd H1 Dd (.lst [])) := ⟨same_upd hD, Same.refl _, s1.s.trans (same_upd hD), fun _ h _ => h⟩
  refine ⟨fun i m Hc => ∃ I2 acc xs rest, Step I1 H1 I2 Hc ∧ Bd I0 H0 σ ρ I2 Hc ∧ I2 Dd = none ∧ Hc Dd = some (.lst acc) ∧ DvAll I2 acc xs ∧ m + i = ds.length ∧ xs.length ≤ i ∧ loopC t c f (wipeS ρ own) (ds.drop i) = some rest ∧ xs ++ rest = ys,
    ⟨ds.length, I1, [], [], ys, s0, b1.other hD0 hDI hno, hDI, upd_same, .nil, by omega, Nat.zero_le _, z, rfl⟩, ?_⟩
  rintro i m Hc ⟨I2, acc, xs, rest, s2, b2, i2, hd2, d2, hm, hx, z2, e2⟩
  have wi := w i I2 Hc b2.st.h s2.i b2.sub
  by_cases hlt : i < ds.length
  · have hdr : ds.drop i = ds[i] :: ds.drop (i + 1) := List.drop_eq_getElem_cons hlt
    rw [hdr] at z2
    obtain ⟨ρ1, e1, z3⟩ := bind_some z2
    obtain ⟨k, ek, z4⟩ := bind_some z3
    obtain ⟨hgo, hy⟩ := wi.1 ds[i] (List.getElem?_eq_getElem hlt)
    refine .inr ⟨hgo, fun Hc => ∃ I2 acc xs rest, Step I1 H1 I2 Hc ∧ Bd I0 H0 σ ρ I2 Hc ∧ I2 Dd = none ∧ Hc Dd = some (.lst acc) ∧ DvAll I2 acc xs ∧ (m - 1) + (i + 1) = ds.length ∧ xs.length ≤ i + 1 ∧ loopC t c f (wipeS ρ own) (ds.drop (i + 1)) = some rest ∧ xs ++ rest = ys,
      fun H' w => ⟨m - 1, by omega, w⟩, fun x H' y => ?_⟩
    obtain ⟨I3, s3, dv⟩ := hy x H' y
    refine Tg.ok e1 ((b2.step s3).wipe own) dv fun σ4 b4 hw => ⟨hw own ho ▸ ?_, ρ1, k, ek, I3, b4, fun H4 I4 s4 => ?_⟩
    · have e : ∀ (vs : List Nat) (σ : L2.St), L2.wipe (L2.wipe σ vs) vs = L2.wipe σ vs := by
        intro vs
        induction vs with
        | nil => intro σ; rfl
        | cons v r ih =>
          intro σ
          show (L2.wipe ((L2.wipe σ r).set v none) r).set v none = (L2.wipe σ r).set v none
          by_cases hv : v ∈ r
          · rw [wipe_set hv, ih]
          · have key : ∀ (ws : List Nat) (σ : L2.St), v ∉ ws → L2.wipe (σ.set v none) ws = (L2.wipe σ ws).set v none := by
              intro ws
              induction ws with
              | nil => intro σ _; rfl
              | cons w ws ih2 =>
                intro σ hn
                show (L2.wipe (σ.set v none) ws).set w none = ((L2.wipe σ ws).set w none).set v none
                rw [ih2 σ (fun z => hn (List.mem_cons_of_mem _ z)), List.set_comm _ _ (fun z => hn (by rw [z]; exact List.mem_cons_self))]
            rw [key r _ hv, ih, List.set_set]
      exact e own σ
    have st := (s2.trans s3).trans s4
    have bb := (b2.step s3).step s4
    have j4 : I4 Dd = none := s4.n Dd (s3.n Dd i2 (by rw [hd2]; simp)) (by rw [s3.h _ _ hd2]; simp)
    have hd4 : H4 Dd = some (.lst acc) := s4.h _ _ (s3.h _ _ hd2)
    cases k with
    | false =>
      rw [if_neg (by decide)] at z4
      exact iteF ⟨I4, acc, xs, rest, st, bb, j4, hd4, dvs_mono (s3.i.trans s4.i) d2, by omega, by omega, z4, e2⟩
    | true =>
      rw [if_pos rfl] at z4
      obtain ⟨yy, ey, z5⟩ := bind_some z4
      obtain ⟨rs, ers, rfl⟩ := map_some' z5
      refine iteT ⟨ρ1, yy, ey, I4, b4.step s4, fun v H5 I5 s5 d5 => ?_⟩
      have j5 : I5 Dd = none := s5.n Dd j4 (by rw [hd4]; simp)
      have hd5 : H5 Dd = some (.lst acc) := s5.h _ _ hd4
      have st5 := st.trans s5
      have d6 : DvAll I5 acc xs := dvs_mono ((s3.i.trans s4.i).trans s5.i) d2
      refine ⟨acc, hd5, by rw [dvs_len d6]; omega, I5, acc ++ [v], xs ++ [yy], rs, ⟨fun q u e => ?_, st5.i, fun q u e => ?_, st5.n⟩, (bb.step s5).other hD0 j5 hno, j5, upd_same, dvs_app d6 (dvs_one d5), by omega, by rw [List.length_append, List.length_singleton]; omega, ers, by rw [List.append_assoc]; exact e2⟩
      · rw [upd_ne (fun z => by subst z; rw [hD] at e; cases e)]; exact st5.h q u e
      · rw [upd_ne (fun z => by subst z; rw [j5] at e; cases e)]; exact st5.s q u e
  · have hi : ds.length ≤ i := by omega
    rw [List.drop_eq_nil_of_le hi] at z2
    cases z2
    rw [List.append_nil] at e2
    subst e2
    refine .inl ⟨wi.2 hi, q _ Hc (upd I2 Dd (.lst acc)) (s1.trans ⟨s2.h, s2.i.trans (same_upd i2), fun p u e => ?_, fun a ha hn => ?_⟩) (dv_newL i2 d2)⟩
    · by_cases hp : p = Dd
      · subst hp; rw [upd_same] at e; cases e; exact hd2
      · rw [upd_ne hp] at e; exact s2.s p u e
    · rw [upd_ne (fun z => hn (by rw [z]; exact hD))]; exact s2.n a ha hn
theorem compE_some {own : List Nat} {t : Tg} {fi : FI} {c : FT} {f : FE} {ρ : Sl} {d : D} (e : compE own t fi c f ρ = some d) : ∃ ds ys, fi ρ = some ds ∧ ds.length ≤ sizeLine ∧ loopC t c f (wipeS ρ own) ds = some ys ∧ d = .list ys := by
  obtain ⟨ds, ed, e⟩ := bind_some e
  split at e
  · rename_i hl
    obtain ⟨ys, ey, rfl⟩ := map_some' e
    exact ⟨ds, ys, ed, hl, ey, rfl⟩
  · cases e
theorem de_comp (own : List (Str × Nat)) (t : Tg) {elt iter : Expr} {ifs : List Expr} {scope : Scope} {fi : FI} {c : FT} (hc : X.calm = true) (hN : X.N.Nodup) (hi : DI X tg iter fi) (ok : BlkOk X.N X.env.scope scope own)
    (hg : ∀ (s : Shared) (H : Hp) (C : Addr) (cl : List (Str × Addr)) (fp : List Addr), PG (X.blk s H scope (compEnvC scope cl C X.env) fp) tg (t.r X.K)) (ht : ∀ (s : Shared) (H : Hp) (C : Addr) (cl : List (Str × Addr)) (fp : List Addr), DTs (X.blk s H scope (compEnvC scope cl C X.env) fp) ifs c)
    (he : ∀ (s : Shared) (H : Hp) (C : Addr) (cl : List (Str × Addr)) (fp : List Addr), DE (X.blk s H scope (compEnvC scope cl C X.env) fp) elt f) (ho : ∀ i ∈ t.slots, i ∈ own.map (·.2) := by decide) (hs : ∀ x, foldedSetIterable iter X.env x = pure x := by intro _; rfl) :
    DE X (.ListComp elt [⟨tg, iter, ifs, 0⟩] scope pos) (compE (own.map (·.2)) t fi c f) := ⟨fun ρ d e I0 H0 => by
  obtain ⟨ds, ys, e1, hl, e2, rfl⟩ := compE_some e
  exact PE.imp (pe_lc hc hN (hi.run ρ ds e1 I0 H0) ok hg (fun s H C cl fp => (ht s H C cl fp).ex I0 H0) (fun s H C cl fp => (he s H C cl fp).ex I0 H0) hs) fun σ H Q q => comp_rd ho hl e2 q⟩
theorem ds_setC (i : Nat) (is : List Nat) (own : List (Str × Nat)) (t : Tg) {y : Str} {py spos : Pos} {elt iter : Expr} {ifs : List Expr} {scope : Scope} {fi : FI} {c : FT} (hc : X.calm = true) (hN : X.N.Nodup) (hi : DI X tg iter fi) (ok : BlkOk X.N X.env.scope scope own)
    (hg : ∀ (s : Shared) (H : Hp) (C : Addr) (cl : List (Str × Addr)) (fp : List Addr), PG (X.blk s H scope (compEnvC scope cl C X.env) fp) tg (t.r X.K)) (ht : ∀ (s : Shared) (H : Hp) (C : Addr) (cl : List (Str × Addr)) (fp : List Addr), DTs (X.blk s H scope (compEnvC scope cl C X.env) fp) ifs c)
    (he : ∀ (s : Shared) (H : Hp) (C : Addr) (cl : List (Str × Addr)) (fp : List Addr), DE (X.blk s H scope (compEnvC scope cl C X.env) fp) elt f)
    (hy : X.N[i]? = some y := by rfl) (hyl : X.env.scope.names.lookup y = some .local := by rfl) (hsw : swapsWith (.ListComp elt [⟨tg, iter, ifs, 0⟩] scope pos) (some (.Name y py)) spos.line X.env = pure true := by exact sw_true rfl rfl rfl (by decide +kernel))
    (ho : ∀ i ∈ t.slots, i ∈ own.map (·.2) := by decide) (hs : ∀ x, foldedSetIterable iter X.env x = pure x := by intro _; rfl) :
    DS X (.Assign [.Name y py] (.ListComp elt [⟨tg, iter, ifs, 0⟩] scope pos) spos) (asgS i is (compE (own.map (·.2)) t fi c f)) := ⟨fun ρ o z I0 H0 => by
  obtain ⟨d, ed, rfl⟩ := map_some' z
  obtain ⟨ds, ys, e1, hl, e2, rfl⟩ := compE_some ed
  exact PS.imp (ps_setLc hc hN hy hyl hsw (hi.run _ ds e1 I0 H0) ok hg (fun s H C cl fp => (ht s H C cl fp).ex I0 H0) (fun s H C cl fp => (he s H C cl fp).ex I0 H0) hs) fun D σ H ⟨I, b, q⟩ => by
    obtain ⟨I1, b1, t1⟩ := b.frzs is
    exact comp_rd (ρ := frz is ρ) (I0 := I0) (H0 := H0) ho hl e2 ⟨I1, b1, fun v H' I' s dv => q _ _ I' (t1.trans s.i) ((b1.step s).set dv)⟩⟩

/-! ### a def -/
def start0 (N : Nat) (ds : List D) : Sl := ds.map .im ++ List.replicate (N - ds.length) .no
/-- what a def of n arguments and N names gives -/
def semD (N : Nat) (g : FS) (ds : List D) : Option D := (g (start0 N ds)).bind fun o => match o with
  | .rt d => some d
  | .nx _ => some .none
  | _ => none
theorem start_bd {I H : Hp} {N : List Str} {vs : List V} {ds : List D} (s : Same I H) (h : DvAll I vs ds) : Bd I H (L2.start N vs) (start0 N.length ds) I H where
  st := Step.refl s
  ok := by
    have hl := dvs_len h
    have no_ow : ∀ (j : Nat) (es : List D), (start0 N.length ds)[j]? ≠ some (.ow es) := fun j es e => by
      unfold start0 at e
      rcases Nat.lt_or_ge j ds.length with hj | hj
      · rw [List.getElem?_append_left (by simpa using hj), List.getElem?_map] at e
        obtain ⟨d, _, z⟩ := map_some' e
        cases z
      · rw [List.getElem?_append_right (by simpa using hj)] at e
        have := List.mem_of_getElem? e
        rw [List.mem_replicate] at this
        cases this.2
    refine ⟨by unfold L2.start start0; simp [hl], fun i sd e => ?_, fun i j a xs es _ e => absurd e (no_ow i xs)⟩
    unfold start0 at e
    unfold L2.start
    rcases Nat.lt_or_ge i ds.length with hi | hi
    · rw [List.getElem?_append_left (by simpa using hi), List.getElem?_map] at e
      obtain ⟨d, ed, rfl⟩ := map_some' e
      obtain ⟨v, ev, dv⟩ := dvs_get' h ed
      exact ⟨some v, by rw [List.getElem?_append_left (by rw [List.length_map]; omega), List.getElem?_map, ev]; rfl, v, rfl, dv⟩
    · rw [List.getElem?_append_right (by simpa using hi), List.length_map] at e
      have hm := List.mem_of_getElem? e
      rw [List.mem_replicate] at hm
      obtain ⟨h1, _⟩ := List.getElem?_eq_some_iff.mp e
      rw [List.length_replicate] at h1
      refine ⟨none, ?_, by rw [hm.2]; trivial⟩
      rw [List.getElem?_append_right (by rw [List.length_map]; omega), List.length_map, hl]
      rw [List.getElem?_replicate, if_pos h1]
/-- the rule for a def -/
theorem okFn {P : Program} {w : World} {K : KF} {mg : Str → Option Value} {base : Heap} {x qual : Str} {pa : Arguments} {bd : List Stmt} {sc : Scope} {f : Addr} {fd : FuncData} {dvs : List V} {kws : List (Str × V)} {N ps : List Str} {k n : Nat} {g : FS}
    (F : FunD K x qual pa bd sc dvs kws f fd) (S : FnScope N ps sc) (hn : ps.length = n)
    (hbody : ∀ (cdv : Value) (A : Around) (outer : List Env) (s : Shared) (H : Hp) (E : XK), Room k (A.deeper (PyProof.Rows.envOfC qual sc s.heap.objs.size f cdv)) →
      DSs (cxOf CX0 P w K mg base N qual sc f cdv A outer s H E).nox bd g) : FnOk P w K mg base CX0 (k + 1) f fd ps (spD n (semD N.length g)) := by
  refine F.ok (CX := CX0) S (spD_len hn) fun cdv A outer s H vs Q E hr h => ?_
  obtain ⟨I, ds, d, hl, hs, hd, e, q⟩ := h
  obtain ⟨o, eo, e⟩ := bind_some e
  refine ⟨_, PSs.nox ((hbody cdv A outer s H E hr).run _ o eo I H), I, start_bd hs hd, ?_⟩
  split at e
  · cases e
    exact fun v H' I' s' dv => q v H' I' s' dv
  · cases e
    exact fun σ' H' I' _ b' => q .non H' I' b'.st .non
  · cases e
end
end RB
set_option Elab.async false
set_option linter.all false
set_option maxRecDepth 100000
set_option maxHeartbeats 2000000
set_option autoImplicit false
/-! DV7: the text by places; what the top leaves; a few more rules. -/
namespace RB
open PySem PySem.Spec L2
def top (i : Nat) : Stmt := PySem.Challenge.pw_riderboard_k48_whole_games_anew.main.body.getD i (.Pass ⟨0, 0, 0, 0⟩)
abbrev FnP (K : KF) (x : Str) (st : Stmt) (f : Addr) (fd : FuncData) : Prop := FunD K x x (defArgs st) (defBody st) (defScope st) [] [] f fd
theorem _root_.L2.Room.u65 {k : Nat} {A : Around} (r : Room k A) : A.units + 65 < cLine := by have := r.un; omega
theorem _root_.L2.Room.u70 {k : Nat} {A : Around} (r : Room k A) : A.units + 70 < cLine := by have := r.un; omega
theorem _root_.L2.Room.u90 {k : Nat} {A : Around} (r : Room k A) : A.units + 90 < cLine := by have := r.un; omega
/-- the table of marks -/
def MarksD (K : KF) (w : World) (mg : Str → Option Value) : Prop := ∃ p, mg "MARKS" = some (.ref p) ∧ KDct K w p "go" (.str "") ∧ KDct K w p "take" (.str "x") ∧ KDct K w p "pass" (.str "x") ∧ KDct K w p "pair" (.str "&")
/-- what the walk asks of the module's names -/
structure Txt (K : KF) (w : World) (mg : Str → Option Value) : Prop where
  len : mg "len" = none
  abs : mg "abs" = none
  min : mg "min" = none
  int : mg "int" = none
  tuple : mg "tuple" = none
  list : mg "list" = none
  sorted : mg "sorted" = none
  set : mg "set" = none
  isinstance : mg "isinstance" = none
  str : mg "str" = none
  range : mg "range" = none
  enumerate : mg "enumerate" = none
  COLUMNS : ∃ t, mg "COLUMNS" = some (.str "abcdefgh" t)
  ROWS : ∃ t, mg "ROWS" = some (.str "12345678" t)
  LETTERS : ∃ t, mg "LETTERS" = some (.str "abcdefghijklmnopqrstuvwxyz" t)
  GREAT : ∃ t, mg "GREAT" = some (.str "ABCDEFGHIJKLMNOPQRSTUVWXYZ" t)
  MARKS : MarksD K w mg
section
variable {X : Cx} {pos : Pos} {a : Expr} {f : FE}
theorem de_gstr' {x z : Str} (hg : Gl X x) (hm : ∃ t, X.mg x = some (.str z t)) (hd : (x == ("__debug__" : Str)) = false := by decide) : DE X (.Name x pos) (litE (.str z)) := by
  obtain ⟨t, ht⟩ := hm
  exact de_gstr hg ht hd
def dNeg : D → Option D
  | .int i => some (.int (-i))
  | _ => none
theorem de_neg (ha : DE X a f) : DE X (.UnaryOp .USub a pos) (unE dNeg f) := ⟨fun ρ d e I0 H0 => by
  obtain ⟨x, ex, e⟩ := bind_some e
  unfold dNeg at e
  split at e
  · cases e
    exact PE.imp (pe_un un_neg (ha.run ρ _ ex I0 H0)) fun σ H Q ⟨I, b, q⟩ => ⟨I, b, fun v H1 I1 s1 d1 => ⟨_, dv_int d1, q _ H1 I1 s1 (.int _)⟩⟩
  · cases e⟩
end
end RB
set_option Elab.async false
set_option linter.all false
set_option maxRecDepth 100000
set_option maxHeartbeats 2000000
set_option autoImplicit false
/-! PH0: what the head is asked: no list is kept of it, and what is looked at is what four steps come to. -/
namespace RB
open PySem PySem.Spec PyProof.Rows L2
/-- lists of the top are not looked at -/
def keepO (o : Obj) : Bool := match o.cls with
  | .type c => !decide (c = "list")
  | _ => true
def nlK (K : KF) : KF := K.filter fun p => keepO p.2
def NoList (K : KF) : Prop := ∀ (a : Addr) (o : Obj), K.lookup a = some o → o.cls ≠ .type "list"
theorem mem_lookup : ∀ {K : KF} {a : Addr} {o : Obj}, K.lookup a = some o → (a, o) ∈ K
  | [], _, _, e => by cases e
  | (b, u) :: r, a, o, e => by
    rw [List.lookup_cons] at e
    cases h : a == b with
    | true =>
      rw [h] at e
      cases e
      rw [eq_of_beq h]
      exact List.mem_cons_self
    | false =>
      rw [h] at e
      exact List.mem_cons_of_mem _ (mem_lookup e)
theorem nl_in {h : Heap} {as : List Addr} : (nlK (He.frG h.get? as)).In h := fun a o e => by
  obtain ⟨m, _⟩ := List.mem_filter.mp (mem_lookup e)
  unfold He.frG at m
  obtain ⟨b, _, hb⟩ := List.mem_filterMap.mp m
  obtain ⟨u, hu, e2⟩ := Option.map_eq_some_iff.mp hb
  cases e2
  exact hu
theorem nl_no {K : KF} : NoList (nlK K) := fun a o e z => by
  obtain ⟨_, m⟩ := List.mem_filter.mp (mem_lookup e)
  have m2 : keepO o = true := m
  unfold keepO at m2
  rw [z] at m2
  simp at m2
def obsN (fa : List He.Fa) (fn : List He.DefD) (ts : List He.Tab) (ex : List (KF → Bool)) (K : KF) : He.AlT × Bool := (He.obsT fa fn ts K, ex.all fun e => e K)
def SaysN (fa : List He.Fa) (fn : List He.DefD) (ts : List He.Tab) (ex : List (KF → Bool)) (w : World) (K : KF) : Prop := obsN fa fn ts ex K = (He.valT fn ts w, true)
def refA : Value → List Addr
  | .ref a => [a]
  | _ => []
def outO (o : Obj) : List Addr := match o.data with
  | .dict es _ => es.toList.flatMap fun e => refA e.val
  | .func fd => refA fd.code ++ refA fd.defaults
  | .cls cd => cd.ns :: cd.mro.flatMap refA
  | _ => []
def outG (g : Addr → Option Obj) (as : List Addr) : List Addr := as.flatMap fun a => match g a with
  | some o => outO o
  | none => []
/-- what can be come to from the module in at most four steps -/
def adsG (g : Addr → Option Obj) : List Addr :=
  let l1 := outG g [mainGlobals]
  let l2 := outG g l1
  let l3 := outG g l2
  let l4 := outG g l3
  mainGlobals :: (l1 ++ (l2 ++ (l3 ++ l4)))
def obsX (fa : List He.Fa) (fn : List He.DefD) (ts : List He.Tab) (ex : List (KF → Bool)) (g : Addr → Option Obj) : He.AlT × Bool := obsN fa fn ts ex (nlK (He.frG g (adsG g)))
def hookX (fa : List He.Fa) (fn : List He.DefD) (ts : List He.Tab) (ex : List (KF → Bool)) : PySem.W.Hook where
  α := He.AlT × Bool
  obs := fun s => obsX fa fn ts ex s.heap.get?
  val := fun w => (He.valT fn ts w, true)
  says := fun w h => ∃ K : KF, K.In h ∧ NoList K ∧ SaysN fa fn ts ex w K
  of := fun _ _ e => ⟨_, nl_in, nl_no, e⟩
  keeps := fun _ _ _ ⟨K, hin, no, c⟩ k => ⟨K, hin.keeps k, no, c⟩
theorem obsX_eq {fa : List He.Fa} {fn : List He.DefD} {ts : List He.Tab} {ex : List (KF → Bool)} {g : Addr → Option Obj} {s : Shared} (h : ∀ a, g a = s.heap.get? a) : obsX fa fn ts ex g = (hookX fa fn ts ex).obs s := by
  obtain rfl : g = s.heap.get? := funext h
  rfl
section
variable {fa : List He.Fa} {fn : List He.DefD} {ts : List He.Tab} {ex : List (KF → Bool)} {w : World} {K : KF}
theorem SaysN.t (c : SaysN fa fn ts ex w K) : He.SaysT fa fn ts w K := congrArg Prod.fst c
theorem SaysN.x (c : SaysN fa fn ts ex w K) (i : Nat) {e : KF → Bool} (h : ex[i]? = some e := by rfl) : e K = true :=
  List.all_eq_true.mp (show (ex.all fun e => e K) = true from congrArg Prod.snd c) e (List.mem_of_getElem? h)
end
end RB
set_option Elab.async false
set_option linter.all false
set_option maxRecDepth 100000
set_option maxHeartbeats 4000000
set_option autoImplicit false
/-! printed by gen2.py: what the head is asked -/
namespace RB
open PySem PySem.Spec L2
noncomputable section
def d_0 : He.DefD := ⟨("squares_of", none), "squares_of", "squares_of", defArgs (top 11), defBody (top 11), defScope (top 11), [], []⟩
def d_1 : He.DefD := ⟨("bits_of", none), "bits_of", "bits_of", defArgs (top 12), defBody (top 12), defScope (top 12), [], []⟩
def d_2 : He.DefD := ⟨("square_at", none), "square_at", "square_at", defArgs (top 13), defBody (top 13), defScope (top 13), [], []⟩
def d_3 : He.DefD := ⟨("name_of", none), "name_of", "name_of", defArgs (top 14), defBody (top 14), defScope (top 14), [], []⟩
def d_4 : He.DefD := ⟨("steps", none), "steps", "steps", defArgs (top 22), defBody (top 22), defScope (top 22), [], []⟩
def d_5 : He.DefD := ⟨("is_ride_once", none), "is_ride_once", "is_ride_once", defArgs (top 23), defBody (top 23), defScope (top 23), [], []⟩
def d_6 : He.DefD := ⟨("kind_of", none), "kind_of", "kind_of", defArgs (top 26), defBody (top 26), defScope (top 26), [], []⟩
def d_7 : He.DefD := ⟨("full", none), "full", "full", defArgs (top 29), defBody (top 29), defScope (top 29), [], []⟩
def d_8 : He.DefD := ⟨("pieces", none), "pieces", "pieces", defArgs (top 30), defBody (top 30), defScope (top 30), [], []⟩
def d_9 : He.DefD := ⟨("reach", none), "reach", "reach", defArgs (top 32), defBody (top 32), defScope (top 32), [], []⟩
def d_10 : He.DefD := ⟨("attacks", none), "attacks", "attacks", defArgs (top 33), defBody (top 33), defScope (top 33), [], []⟩
def d_11 : He.DefD := ⟨("signs_of", none), "signs_of", "signs_of", defArgs (top 35), defBody (top 35), defScope (top 35), [], []⟩
def d_12 : He.DefD := ⟨("letters_for", none), "letters_for", "letters_for", defArgs (top 36), defBody (top 36), defScope (top 36), [], []⟩
def d_13 : He.DefD := ⟨("words_for", none), "words_for", "words_for", defArgs (top 37), defBody (top 37), defScope (top 37), [], []⟩
def d_14 : He.DefD := ⟨("partner", none), "partner", "partner", defArgs (top 38), defBody (top 38), defScope (top 38), [], []⟩
def d_15 : He.DefD := ⟨("pair_fits", none), "pair_fits", "pair_fits", defArgs (top 39), defBody (top 39), defScope (top 39), [], []⟩
def d_16 : He.DefD := ⟨("bare_from", none), "bare_from", "bare_from", defArgs (top 40), defBody (top 40), defScope (top 40), [], []⟩
def d_17 : He.DefD := ⟨("bare", none), "bare", "bare", defArgs (top 41), defBody (top 41), defScope (top 41), [], []⟩
def d_18 : He.DefD := ⟨("with_sign", none), "with_sign", "with_sign", defArgs (top 42), defBody (top 42), defScope (top 42), [], []⟩
def d_19 : He.DefD := ⟨("left_behind", none), "left_behind", "left_behind", defArgs (top 43), defBody (top 43), defScope (top 43), [], []⟩
def d_20 : He.DefD := ⟨("after", none), "after", "after", defArgs (top 44), defBody (top 44), defScope (top 44), [], []⟩
def d_21 : He.DefD := ⟨("is_safe", none), "is_safe", "is_safe", defArgs (top 45), defBody (top 45), defScope (top 45), [], []⟩
def d_22 : He.DefD := ⟨("moves", none), "moves", "moves", defArgs (top 46), defBody (top 46), defScope (top 46), [], []⟩
def d_23 : He.DefD := ⟨("forms", none), "forms", "forms", defArgs (top 49), defBody (top 49), defScope (top 49), [], []⟩
def d_24 : He.DefD := ⟨("all_forms", none), "all_forms", "all_forms", defArgs (top 50), defBody (top 50), defScope (top 50), [], []⟩
def d_25 : He.DefD := ⟨("told_by", none), "told_by", "told_by", defArgs (top 51), defBody (top 51), defScope (top 51), [], []⟩
def d_26 : He.DefD := ⟨("short", none), "short", "short", defArgs (top 52), defBody (top 52), defScope (top 52), [], []⟩
def d_27 : He.DefD := ⟨("read_short", none), "read_short", "read_short", defArgs (top 53), defBody (top 53), defScope (top 53), [], []⟩
def d_28 : He.DefD := ⟨("royals", none), "royals", "royals", defArgs (top 55), defBody (top 55), defScope (top 55), [], []⟩
def d_29 : He.DefD := ⟨("attacks_on", none), "attacks_on", "attacks_on", defArgs (top 56), defBody (top 56), defScope (top 56), [], []⟩
def d_30 : He.DefD := ⟨("verdict", none), "verdict", "verdict", defArgs (top 57), defBody (top 57), defScope (top 57), [], []⟩
def d_31 : He.DefD := ⟨("_law_cell", none), "_law_cell", "_law_cell", defArgs (top 62), defBody (top 62), defScope (top 62), [], []⟩
def d_32 : He.DefD := ⟨("_law_mixed", none), "_law_mixed", "_law_mixed", defArgs (top 63), defBody (top 63), defScope (top 63), [], []⟩
def d_33 : He.DefD := ⟨("_law_board", none), "_law_board", "_law_board", defArgs (top 64), defBody (top 64), defScope (top 64), [], []⟩
def d_34 : He.DefD := ⟨("_law_way", none), "_law_way", "_law_way", defArgs (top 65), defBody (top 65), defScope (top 65), [], []⟩
def d_35 : He.DefD := ⟨("_law_strong", none), "_law_strong", "_law_strong", defArgs (top 66), defBody (top 66), defScope (top 66), [], []⟩
def d_36 : He.DefD := ⟨("_law_kind", none), "_law_kind", "_law_kind", defArgs (top 67), defBody (top 67), defScope (top 67), [], []⟩
def d_37 : He.DefD := ⟨("_law_rules", none), "_law_rules", "_law_rules", defArgs (top 68), defBody (top 68), defScope (top 68), [], []⟩
def d_38 : He.DefD := ⟨("_law_cells", none), "_law_cells", "_law_cells", defArgs (top 69), defBody (top 69), defScope (top 69), [], []⟩
def d_39 : He.DefD := ⟨("_law_may", none), "_law_may", "_law_may", defArgs (top 70), defBody (top 70), defScope (top 70), [], []⟩
def d_40 : He.DefD := ⟨("_law_steps", none), "_law_steps", "_law_steps", defArgs (top 71), defBody (top 71), defScope (top 71), [], []⟩
def d_41 : He.DefD := ⟨("_law_spot", none), "_law_spot", "_law_spot", defArgs (top 72), defBody (top 72), defScope (top 72), [], []⟩
def d_42 : He.DefD := ⟨("_law_over_by", none), "_law_over_by", "_law_over_by", defArgs (top 73), defBody (top 73), defScope (top 73), [], []⟩
def d_43 : He.DefD := ⟨("_law_own", none), "_law_own", "_law_own", defArgs (top 76), defBody (top 76), defScope (top 76), [], []⟩
def d_44 : He.DefD := ⟨("_law_over", none), "_law_over", "_law_over", defArgs (top 74), defBody (top 74), defScope (top 74), [], []⟩
def d_45 : He.DefD := ⟨("_law_royals", none), "_law_royals", "_law_royals", defArgs (top 77), defBody (top 77), defScope (top 77), [], []⟩
def d_46 : He.DefD := ⟨("_law_place", none), "_law_place", "_law_place", defArgs (top 75), defBody (top 75), defScope (top 75), [], []⟩
def d_47 : He.DefD := ⟨("_law_forms", none), "_law_forms", "_law_forms", defArgs (top 78), defBody (top 78), defScope (top 78), [], []⟩
def d_48 : He.DefD := ⟨("_law_listed", none), "_law_listed", "_law_listed", defArgs (top 79), defBody (top 79), defScope (top 79), [], []⟩
def d_49 : He.DefD := ⟨("_law_alone", none), "_law_alone", "_law_alone", defArgs (top 80), defBody (top 80), defScope (top 80), [], []⟩
def d_50 : He.DefD := ⟨("_law_short", none), "_law_short", "_law_short", defArgs (top 81), defBody (top 81), defScope (top 81), [], []⟩
def d_51 : He.DefD := ⟨("_law_mine", none), "_law_mine", "_law_mine", defArgs (top 82), defBody (top 82), defScope (top 82), [], []⟩
def d_52 : He.DefD := ⟨("_law_chosen", none), "_law_chosen", "_law_chosen", defArgs (top 83), defBody (top 83), defScope (top 83), [], []⟩
def d_53 : He.DefD := ⟨("read_game", none), "read_game", "read_game", defArgs (top 60), defBody (top 60), defScope (top 60), [], []⟩
def d_54 : He.DefD := ⟨("_law_places", none), "_law_places", "_law_places", defArgs (top 85), defBody (top 85), defScope (top 85), [], []⟩
def d_55 : He.DefD := ⟨("_law_as_anew", none), "_law_as_anew", "_law_as_anew", defArgs (top 86), defBody (top 86), defScope (top 86), [], []⟩
def d_56 : He.DefD := ⟨("_law_there_and_back", none), "_law_there_and_back", "_law_there_and_back", defArgs (top 87), defBody (top 87), defScope (top 87), [], []⟩
def d_57 : He.DefD := ⟨("_law_deed", none), "_law_deed", "_law_deed", defArgs (top 88), defBody (top 88), defScope (top 88), [], []⟩
def d_58 : He.DefD := ⟨("law", none), "law", "law", defArgs (top 89), defBody (top 89), defScope (top 89), [], []⟩
def d_59 : He.DefD := ⟨("mover", none), "mover", "mover", defArgs (top 20), defBody (top 20), defScope (top 20), [.int 0], []⟩
def d_60 : He.DefD := ⟨("Leap", some "__init__"), "__init__", "Mover.__init__", defArgs (inClass (top 16) 0), defBody (inClass (top 16) 0), defScope (inClass (top 16) 0), [.int 0], []⟩
def d_61 : He.DefD := ⟨("Leap", some "lines"), "lines", "Leap.lines", defArgs (inClass (top 17) 0), defBody (inClass (top 17) 0), defScope (inClass (top 17) 0), [], []⟩
def d_62 : He.DefD := ⟨("Ride", some "__init__"), "__init__", "Mover.__init__", defArgs (inClass (top 16) 0), defBody (inClass (top 16) 0), defScope (inClass (top 16) 0), [.int 0], []⟩
def d_63 : He.DefD := ⟨("Ride", some "lines"), "lines", "Ride.lines", defArgs (inClass (top 18) 0), defBody (inClass (top 18) 0), defScope (inClass (top 18) 0), [], []⟩
def d_64 : He.DefD := ⟨("Hop", some "__init__"), "__init__", "Mover.__init__", defArgs (inClass (top 16) 0), defBody (inClass (top 16) 0), defScope (inClass (top 16) 0), [.int 0], []⟩
def d_65 : He.DefD := ⟨("Hop", some "lines"), "lines", "Hop.lines", defArgs (inClass (top 19) 0), defBody (inClass (top 19) 0), defScope (inClass (top 19) 0), [], []⟩
def d_66 : He.DefD := ⟨("Leap", some "ahead"), "ahead", "Mover.ahead", defArgs (inClass (top 16) 1), defBody (inClass (top 16) 1), defScope (inClass (top 16) 1), [], []⟩
def d_67 : He.DefD := ⟨("Leap", some "goes_on"), "goes_on", "Mover.goes_on", defArgs (inClass (top 16) 2), defBody (inClass (top 16) 2), defScope (inClass (top 16) 2), [], []⟩
def d_68 : He.DefD := ⟨("Game", some "__init__"), "__init__", "Game.__init__", defArgs (inClass (top 59) 0), defBody (inClass (top 59) 0), defScope (inClass (top 59) 0), [], []⟩
def d_69 : He.DefD := ⟨("Game", some "place"), "place", "Game.place", defArgs (inClass (top 59) 1), defBody (inClass (top 59) 1), defScope (inClass (top 59) 1), [], []⟩
def d_70 : He.DefD := ⟨("Game", some "texts"), "texts", "Game.texts", defArgs (inClass (top 59) 2), defBody (inClass (top 59) 2), defScope (inClass (top 59) 2), [], []⟩
def d_71 : He.DefD := ⟨("Game", some "ended"), "ended", "Game.ended", defArgs (inClass (top 59) 3), defBody (inClass (top 59) 3), defScope (inClass (top 59) 3), [], []⟩
def d_72 : He.DefD := ⟨("Game", some "result"), "result", "Game.result", defArgs (inClass (top 59) 4), defBody (inClass (top 59) 4), defScope (inClass (top 59) 4), [], []⟩
def d_73 : He.DefD := ⟨("Game", some "play"), "play", "Game.play", defArgs (inClass (top 59) 5), defBody (inClass (top 59) 5), defScope (inClass (top 59) 5), [], []⟩
def d_74 : He.DefD := ⟨("Game", some "back"), "back", "Game.back", defArgs (inClass (top 59) 6), defBody (inClass (top 59) 6), defScope (inClass (top 59) 6), [], []⟩
def marksV : List (Str × He.Dv) := [("go", .str ""), ("take", .str "x"), ("pass", .str "x"), ("pair", .str "&")]
def fnL0 : List He.DefD := [d_0, d_1, d_2, d_3, d_4, d_5, d_6, d_7, d_8, d_9, d_10, d_11, d_12, d_13, d_14, d_15, d_16, d_17, d_18, d_19, d_20, d_21, d_22, d_23, d_24]
def fnL1 : List He.DefD := [d_25, d_26, d_27, d_28, d_29, d_30, d_31, d_32, d_33, d_34, d_35, d_36, d_37, d_38, d_39, d_40, d_41, d_42, d_43, d_44, d_45, d_46, d_47, d_48, d_49]
def fnL2 : List He.DefD := [d_50, d_51, d_52, d_53, d_54, d_55, d_56, d_57, d_58, d_59, d_60, d_61, d_62, d_63, d_64, d_65, d_66, d_67, d_68, d_69, d_70, d_71, d_72, d_73, d_74]
def fnL : List He.DefD := fnL0 ++ fnL1 ++ fnL2
def faL0 : List He.Fa := [.glo "squares_of", .glo "bits_of", .glo "square_at", .glo "name_of", .glo "steps", .glo "is_ride_once", .glo "kind_of", .glo "full", .glo "pieces", .glo "reach", .glo "attacks", .glo "signs_of", .glo "letters_for", .glo "words_for", .glo "partner", .glo "pair_fits", .glo "bare_from", .glo "bare", .glo "with_sign", .glo "left_behind", .glo "after", .glo "is_safe", .glo "moves", .glo "forms", .glo "all_forms"]
def faL1 : List He.Fa := [.glo "told_by", .glo "short", .glo "read_short", .glo "royals", .glo "attacks_on", .glo "verdict", .glo "_law_cell", .glo "_law_mixed", .glo "_law_board", .glo "_law_way", .glo "_law_strong", .glo "_law_kind", .glo "_law_rules", .glo "_law_cells", .glo "_law_may", .glo "_law_steps", .glo "_law_spot", .glo "_law_over_by", .glo "_law_own", .glo "_law_over", .glo "_law_royals", .glo "_law_place", .glo "_law_forms", .glo "_law_listed", .glo "_law_alone"]
def faL2 : List He.Fa := [.glo "_law_short", .glo "_law_mine", .glo "_law_chosen", .glo "read_game", .glo "_law_places", .glo "_law_as_anew", .glo "_law_there_and_back", .glo "_law_deed", .glo "law", .glo "mover", .glo "Leap", .cls "Leap", .mkr "Leap", .noat "Leap" "dx", .noat "Leap" "dy", .noat "Leap" "most", .meth "Leap" "ahead", .meth "Leap" "goes_on", .meth "Leap" "lines", .glo "Ride", .cls "Ride", .mkr "Ride", .noat "Ride" "dx", .noat "Ride" "dy", .noat "Ride" "most"]
def faL3 : List He.Fa := [.meth "Ride" "ahead", .meth "Ride" "goes_on", .meth "Ride" "lines", .glo "Hop", .cls "Hop", .mkr "Hop", .noat "Hop" "dx", .noat "Hop" "dy", .noat "Hop" "most", .meth "Hop" "ahead", .meth "Hop" "goes_on", .meth "Hop" "lines", .meth "Game" "place", .meth "Game" "texts", .meth "Game" "ended", .meth "Game" "result", .meth "Game" "play", .meth "Game" "back", .glo "Game", .cls "Game", .mkr "Game", .noat "Game" "rules", .noat "Game" "kept", .noat "Game" "played", .free "len"]
def faL4 : List He.Fa := [.free "abs", .free "min", .free "int", .free "tuple", .free "list", .free "sorted", .free "set", .free "isinstance", .free "str", .free "range", .free "enumerate", .str "COLUMNS" "abcdefgh", .str "ROWS" "12345678", .str "LETTERS" "abcdefghijklmnopqrstuvwxyz", .str "GREAT" "ABCDEFGHIJKLMNOPQRSTUVWXYZ", .glo "MARKS"]
def faL : List He.Fa := faL0 ++ faL1 ++ faL2 ++ faL3 ++ faL4
def tsL : List He.Tab := [(fun K => He.ga K "MARKS", ["go", "take", "pass", "pair"])]
def exL : List (KF → Bool) := [(fun K => decide (He.ma K (He.ga K "Leap") "ahead" = He.ma K (He.ga K "Ride") "ahead")), (fun K => decide (He.ma K (He.ga K "Leap") "ahead" = He.ma K (He.ga K "Hop") "ahead")), (fun K => decide (He.ma K (He.ga K "Leap") "goes_on" = He.ma K (He.ga K "Ride") "goes_on")), (fun K => decide (He.ma K (He.ga K "Leap") "goes_on" = He.ma K (He.ga K "Hop") "goes_on")), (fun K => He.valsB K (He.ga K "MARKS") marksV)]
end
end RB
set_option Elab.async false
set_option linter.all false
set_option maxRecDepth 100000
set_option maxHeartbeats 0
/-! H1: the head's run, with what is asked of it. -/
namespace RB
open PySem PySem.W PySem.Calls PyProof.Rows
abbrev rowL : OpenRow := OpenLaw.row PySem.Challenge.rw_riderboard_k48_whole_games_anew
abbrev qv : Program := view rowL.prog [89]
def names1 : List PySem.Str := ["_wall", "BoardError", "NoMove", "TwoMoves", "NoBack", "Over", "Stopped", "COLUMNS", "ROWS", "squares_of", "bits_of", "square_at", "name_of", "Mover", "Leap", "Ride", "Hop", "mover", "steps", "is_ride_once", "LETTERS", "kind_of", "GREAT", "full", "pieces", "reach", "attacks", "signs_of", "letters_for"]
def names2 : List PySem.Str := ["words_for", "partner", "pair_fits", "bare_from", "bare", "with_sign", "left_behind", "after", "is_safe", "moves", "MARKS", "forms", "all_forms", "told_by", "short", "read_short", "royals", "attacks_on", "verdict", "Game", "read_game"]
def names3 : List PySem.Str := ["_law_cell", "_law_mixed", "_law_board", "_law_way", "_law_strong", "_law_kind", "_law_rules", "_law_cells", "_law_may", "_law_steps", "_law_spot", "_law_over_by", "_law_over", "_law_place", "_law_own", "_law_royals", "_law_forms", "_law_listed", "_law_alone", "_law_short", "_law_mine", "_law_chosen", "_law_text", "_law_places", "_law_as_anew", "_law_there_and_back", "_law_deed"]
def names : List PySem.Str := names1 ++ names2 ++ names3
abbrev hk : PySem.W.Hook := hookX faL fnL tsL exL
def obL (s : PySem.W.SharedT) : hk.α := obsX faL fnL tsL exL (HandSHeadRun.getT s)
theorem obL_eq (s : PySem.W.SharedT) : obL s = hk.obs s.abs := obsX_eq (HandSHeadRun.getT_eq s)
theorem runF (w : World) : HandSHeadRun.RunEq rowL qv hk obL 6000 names (w.withFollow "special-get-raises" false) := by
  intro os
  kernel_rfl
theorem runT (w : World) : HandSHeadRun.RunEq rowL qv hk obL 6000 names (w.withFollow "special-get-raises" true) := by
  intro os
  kernel_rfl
theorem run (w : World) : HandSHeadRun.RunEq rowL qv hk obL 6000 names w := byRow2 "special-get-raises" runF runT w
end RB
set_option Elab.async false
set_option linter.all false
set_option maxRecDepth 100000
set_option maxHeartbeats 2000000
set_option autoImplicit false
/-! DSet: sets of nested tuples of whole numbers and texts, fewer than 64; sorted of such a set. The table's own laws are the library's (HandS.TupSets). -/
namespace RB
open PySem PySem.Spec PyProof.Rows L2
section
variable {P : Program} {w : World}

/-! ### questions about a key -/
mutual
/-- whether its hash goes by value: some answer, and nothing changes -/
theorem byval_key : ∀ (k : NestedKey) (v : Value) (s : Shared), NestedIs s.heap k v → ∀ (n : Nat) (A : Around) (E : Value → Shared → Prop) (Q : Bool → Shared → Prop), (∀ b, Q b s) → wpAny (model P w) A (hashByValue n v) Q E s
  | .none, _, s, x, n, A, E, Q, h => by
    cases x
    cases n <;> exact wpAny_pure (h true)
  | .num i, _, s, x, n, A, E, Q, h => by
    cases x with
    | bool e => cases n <;> exact wpAny_pure (h true)
    | int _ t => cases n <;> exact wpAny_pure (h true)
  | .text y, _, s, x, n, A, E, Q, h => by
    cases x
    cases n <;> exact wpAny_pure (h false)
  | .tup ks, _, s, x, n, A, E, Q, h => by
    cases x with
    | @tup b o vs m _ hg hc hd hk =>
      cases n with
      | zero => exact wpAny_pure (h false)
      | succ n =>
        have hT : s.TypeIs (.ref b) "tuple" := ⟨o, hg, hc⟩
        have all := byval_keys ks vs.toList s hk
        unfold hashByValue
        refine wpAny_bind (wpAny_specialOf hT F.slot_tuple_hash.lookup ?_)
        show wpAny _ _ (seqItems? (.ref b) >>= _) _ _ s
        refine wpAny_bind (wpAny_seqItems hg hd ?_)
        refine wpAny_bind ?_
        show wpAny _ _ (forIn vs _ _) _ _ s
        rw [← Array.forIn_toList]
        refine wpAny_forIn_list _ (fun rest r s1 => r.1 = none ∧ s1 = s ∧ ∀ v ∈ rest, v ∈ vs.toList) _ ?_ ?_ _ _ ⟨rfl, rfl, fun v hv => hv⟩
        · rintro v rest r s1 ⟨hr, rfl, hm⟩
          refine wpAny_bind (all v (hm v List.mem_cons_self) n _ _ _ fun q => ?_)
          cases q with
          | true => exact wpAny_pure ⟨rfl, rfl, fun u hu => hm u (List.mem_cons_of_mem _ hu)⟩
          | false => exact wpAny_pure (wpAny_pure (h false))
        · rintro ⟨r1, r2⟩ s1 ⟨hr, rfl, _⟩
          simp only at hr
          subst hr
          exact wpAny_pure (h true)
theorem byval_keys : ∀ (ks : List NestedKey) (vs : List Value) (s : Shared), NestedAll s.heap ks vs → ∀ v ∈ vs, ∀ (n : Nat) (A : Around) (E : Value → Shared → Prop) (Q : Bool → Shared → Prop), (∀ b, Q b s) → wpAny (model P w) A (hashByValue n v) Q E s
  | [], _, s, x, v, hv => by cases x; cases hv
  | k :: ks, _, s, x, v, hv => by
    cases x with
    | cons x1 x2 =>
      rcases List.mem_cons.mp hv with e | hv
      · subst e; exact byval_key k _ s x1
      · exact byval_keys ks _ s x2 v hv
end
mutual
/-- no class statement's -/
theorem cls_key : ∀ (k : NestedKey) (v : Value) (s : Shared) (n : Nat), NestedIs s.heap k v → k.depth ≤ n → ∀ (A : Around) (E : Value → Shared → Prop) (Q : Bool → Shared → Prop), Q false s → wpAny (model P w) A (ofAClassStatement n v) Q E s
  | .none, _, s, n, x, _, A, E, Q, h => by
    cases x
    cases n <;> exact wpAny_pure h
  | .num i, _, s, n, x, _, A, E, Q, h => by
    cases x with
    | bool e => cases n <;> exact wpAny_pure h
    | int _ t => cases n <;> exact wpAny_pure h
  | .text y, _, s, n, x, _, A, E, Q, h => by
    cases x
    cases n <;> exact wpAny_pure h
  | .tup ks, _, s, n, x, hn, A, E, Q, h => by
    cases x with
    | @tup b o vs m _ hg hc hd hk =>
      simp only [NestedKey.depth] at hn
      cases n with
      | zero => omega
      | succ n =>
        have hT : s.TypeIs (.ref b) "tuple" := ⟨o, hg, hc⟩
        have all := cls_keys ks vs.toList s n hk (by omega)
        unfold ofAClassStatement
        refine wpAny_bind (wpAny_typeOf hT ?_)
        dsimp only
        have e : (("tuple" : String) == "tuple") = true := by decide
        simp only [e, if_true, Bool.not_true, Bool.false_eq_true, if_false]
        try refine wpAny_bind (wpAny_pure ?_)
        try simp only [Bool.not_true, Bool.false_eq_true, if_false]
        show wpAny _ _ (seqItems? (.ref b) >>= _) _ _ s
        refine wpAny_bind (wpAny_seqItems hg hd ?_)
        dsimp only
        refine wpAny_bind ?_
        show wpAny _ _ (forIn vs _ _) _ _ s
        rw [← Array.forIn_toList]
        refine wpAny_forIn_list _ (fun rest r s1 => r.1 = none ∧ s1 = s ∧ ∀ v ∈ rest, v ∈ vs.toList) _ ?_ ?_ _ _ ⟨rfl, rfl, fun v hv => hv⟩
        · rintro v rest r s1 ⟨hr, rfl, hm⟩
          refine wpAny_bind (all v (hm v List.mem_cons_self) _ _ _ ?_)
          simp only [Bool.false_eq_true, if_false]
          exact wpAny_pure ⟨rfl, rfl, fun u hu => hm u (List.mem_cons_of_mem _ hu)⟩
        · rintro ⟨r1, r2⟩ s1 ⟨hr, rfl, _⟩
          simp only at hr
          subst hr
          exact wpAny_pure h
theorem cls_keys : ∀ (ks : List NestedKey) (vs : List Value) (s : Shared) (n : Nat), NestedAll s.heap ks vs → NestedKey.depthAll ks ≤ n → ∀ v ∈ vs, ∀ (A : Around) (E : Value → Shared → Prop) (Q : Bool → Shared → Prop), Q false s → wpAny (model P w) A (ofAClassStatement n v) Q E s
  | [], _, s, n, x, _, v, hv => by cases x; cases hv
  | k :: ks, _, s, n, x, hn, v, hv => by
    cases x with
    | cons x1 x2 =>
      simp only [NestedKey.depthAll] at hn
      rcases List.mem_cons.mp hv with e | hv
      · subst e; exact cls_key k _ s n x1 (by omega)
      · exact cls_keys ks _ s n x2 (by omega) v hv
end
/-- the tuple at a is the key k -/
abbrev IsN (h : Heap) (k : NestedKey) (a : Addr) : Prop := NestedIs h k (.ref a) ∧ k.depth ≤ 8
theorem isN_keep {h h' : Heap} {k : NestedKey} {b : Addr} (x : IsN h k b) (hk : ∀ c o, h.get? c = some o → h'.get? c = some o) : IsN h' k b := ⟨NestedIs.at (fun a o _ _ e _ => hk a o e) _ _ x.1, x.2⟩
theorem isN_same {h h' : Heap} {k : NestedKey} {a b : Addr} {o : Obj} {es : Array (Int × Value)} {ep : Nat} {t : SetTable} (x : IsN h k b) (ho : h.get? a = some o) (hd : o.data = .set es ep t) (hs : Heap.SameBut a h h') : IsN h' k b :=
  ⟨NestedIs.at (fun c q vs n e hq => (hs.2 c (fun z => by subst z; rw [ho] at e; cases e; rw [hd] at hq; cases hq)).trans e) _ _ x.1, x.2⟩
variable {A : Around} {E : Value → Shared → Prop} {s : Shared}
/-- a search among such keys shows nothing -/
theorem seen_keys {k : NestedKey} {b : Addr} {Q : Bool → Shared → Prop} (hk : IsN s.heap k b) {ys : List Value} (hy : ∀ y ∈ ys, ∃ k' c, y = Value.ref c ∧ IsN s.heap k' c) (h : Q false s) : wpAny (model P w) A (searchCouldBeSeen (.ref b) ys) Q E s := by
  unfold searchCouldBeSeen
  refine wpAny_bind ?_
  refine wpAny_forIn_list _ (fun rest r s1 => r.1 = none ∧ s1 = s ∧ ∀ y ∈ rest, ∃ k' c, y = Value.ref c ∧ IsN s.heap k' c) _ ?_ ?_ _ _ ⟨rfl, rfl, hy⟩
  · rintro v rest r s1 ⟨hr, rfl, hall⟩
    obtain ⟨k', c, rfl, hc⟩ := hall v List.mem_cons_self
    have more : ∀ y ∈ rest, ∃ k' c, y = Value.ref c ∧ IsN s1.heap k' c := fun u hu => hall u (List.mem_cons_of_mem _ hu)
    dsimp only
    by_cases hv : (b == c || (carriedByValue (.ref b) && carriedByValue (.ref c))) = true
    · exact wp_if_pos hv (wpAny_pure ⟨rfl, rfl, more⟩)
    · refine wp_if_neg hv ?_
      refine wpAny_bind (quiet_key k _ 8 s1 hk.1 hk.2 _ _ _ ?_)
      simp only [Bool.not_true, Bool.false_eq_true, if_false]
      refine wpAny_bind (quiet_key k' _ 8 s1 hc.1 hc.2 _ _ _ ?_)
      simp only [Bool.not_true, Bool.false_eq_true, if_false]
      refine wpAny_bind (cls_key k _ s1 8 hk.1 hk.2 _ _ _ ?_)
      simp only [Bool.false_eq_true, if_false]
      refine wpAny_bind (cls_key k' _ s1 8 hc.1 hc.2 _ _ _ ?_)
      simp only [Bool.false_eq_true, if_false]
      exact wpAny_pure ⟨rfl, rfl, more⟩
  · rintro ⟨r1, r2⟩ s1 ⟨hr, rfl, _⟩
    simp only at hr
    subst hr
    exact wpAny_pure h

/-! ### the set -/
abbrev NL : Type := List (Addr × NestedKey)
def rowsN (w : World) (L : NL) : List (Int × Value) := L.map fun p => (p.2.hash w, Value.ref p.1)
structure SetN (w : World) (h : Heap) (a : Addr) (L : NL) (es : Array (Int × Value)) (ep : Nat) (t : SetTable) : Prop where
  ob : ∃ o, h.get? a = some o ∧ o.ExactSet ∧ o.data = .set es ep t
  rows : es.toList = rowsN w L
  tab : TabOk t (L.map fun p => p.2.hash w)
  nd : (L.map (·.2)).Nodup
  key : ∀ p ∈ L, IsN h p.2 p.1
  led : w.params.followText "set-order" = true ∨ t.led = true
  room : L.length * 5 < t.mask * 3
  few : L.length < 64
theorem rowsN_len {L : NL} {es : Array (Int × Value)} (h : es.toList = rowsN w L) : es.size = L.length := by
  have e := congrArg List.length h
  rw [Array.length_toList] at e
  simpa [rowsN] using e
theorem rowsN_at {L : NL} {es : Array (Int × Value)} (h : es.toList = rowsN w L) {i : Nat} {p : Addr × NestedKey} (e : L[i]? = some p) : es[i]? = some (p.2.hash w, Value.ref p.1) := by
  rw [← Array.getElem?_toList, h, rowsN, List.getElem?_map, e] <;> rfl
variable {a : Addr} {L : NL} {es : Array (Int × Value)} {ep : Nat} {t : SetTable}
theorem SetN.fits (R : SetN w s.heap a L es ep t) : t.fits es.size = true := by
  have h1 := R.tab.sz
  rw [List.length_map] at h1
  have h2 := rowsN_len R.rows
  have h3 := R.room
  unfold SetTable.fits SetTable.fill
  rw [R.tab.dm, Bool.and_eq_true, beq_iff_eq, decide_eq_true_eq]
  show t.place.size = es.size ∧ t.place.size + 0 ≤ t.mask
  omega
theorem nth_dummy (m : Nat) : ∀ (n : Nat) (p : SetTable.Probe), p.dummy = none → (nth m p n).dummy = none
  | 0, p, h => h
  | n + 1, p, h => nth_dummy m n (adv m p) (by unfold adv; split <;> exact h)
abbrev wayP (m : Nat) (h : Int) (k : Nat) : SetTable.Probe := nth m (runAt m (SetTable.bits h % (m + 1)) (SetTable.bits h)) k
/-- the search, from the c-th step of the key's way on; K: the first empty slot of the way -/
theorem searchN (R : SetN w s.heap a L es ep t) {x : Addr} {k : NestedKey} (hx : IsN s.heap k x) (hu : A.units + 8 < cLine) {K : Nat} (hKf : K < 10 * SetTable.turns t.mask)
    (hK : way t.mask (k.hash w) K ∉ t.place.toList) (hKb : ∀ c, c < K → way t.mask (k.hash w) c ∈ t.place.toList) {Q : SetFound → Shared → Prop}
    (hin : k ∈ L.map (·.2) → Q (.there none) s) (hout : k ∉ L.map (·.2) → Q (.free (way t.mask (k.hash w) K) false) s) :
    ∀ (f c : Nat) (stand : Option SetTable.Probe), stand.getD (t.probeStart (k.hash w)) = wayP t.mask (k.hash w) c → c ≤ K → K - c < f →
      (∀ (i : Nat) p, L[i]? = some p → p.2 = k → ∃ c', c ≤ c' ∧ c' < K ∧ t.place.toList[i]? = some (way t.mask (k.hash w) c')) →
      wpAny (model P w) A (setSearchFrom a (.ref x) (k.hash w) true f stand) Q E s
  | 0, c, stand, _, _, hf, _ => absurd hf (Nat.not_lt_zero _)
  | f + 1, c, stand, hst, hc, hf, hre => by
    obtain ⟨o, ho, hex, hd⟩ := R.ob
    have hsz := rowsN_len R.rows
    rw [setSearchFrom_succ]
    refine wpAny_bind (wpAny_setState_of ho hd R.fits ?_)
    dsimp only
    refine wp_if_neg (by unfold SetTable.gaveWay; rw [mask_odd R.tab.mok]; decide) ?_
    try refine wpAny_bind (wpAny_pure ?_)
    have sh : ∀ q, nth t.mask (wayP t.mask (k.hash w) c) q = wayP t.mask (k.hash w) (c + q) := fun q => (nth_add t.mask c _ q).symm
    have e1 : ∀ q, (nth t.mask (wayP t.mask (k.hash w) c) q).j = way t.mask (k.hash w) (c + q) := fun q => congrArg SetTable.Probe.j (sh q)
    have spec := go_spec t R.tab.ris R.tab.dm (fun i => (es[i]?.map (·.1)).getD 0) (k.hash w) (10 * SetTable.turns t.mask) (K - c) _ (nth_dummy t.mask c _ rfl) (by omega)
      (fun q hq => by rw [e1]; exact hKb (c + q) (by omega)) (by rw [e1, show c + (K - c) = K by omega]; exact hK)
    have hashAt : ∀ (i : Nat) p, L[i]? = some p → (fun i => (es[i]?.map (·.1)).getD 0) i = p.2.hash w := fun i p hp => by
      show (es[i]?.map (·.1)).getD 0 = _
      rw [rowsN_at R.rows hp] <;> rfl
    rcases spec with ⟨q, i, hq, hi, hh, hno, hpr⟩ | ⟨hno, hpr⟩
    · have hpr2 : t.probe (fun i => (es[i]?.map (·.1)).getD 0) (k.hash w) (stand.getD (t.probeStart (k.hash w))) = some (.candidate (way t.mask (k.hash w) (c + q)) i (wayP t.mask (k.hash w) (c + (q + 1)))) := by
        rw [hst, ← e1, ← sh]
        exact hpr
      rw [hpr2]
      dsimp only
      rw [e1] at hi
      have hil : i < L.length := by
        have h1 := (List.getElem?_eq_some_iff.mp hi).1
        have h2 := R.tab.sz
        rw [List.length_map] at h2
        rw [Array.length_toList] at h1
        omega
      obtain ⟨p, hp⟩ : ∃ p, L[i]? = some p := ⟨_, List.getElem?_eq_getElem hil⟩
      have hmem : p ∈ L := List.mem_of_getElem? hp
      have hpt := R.key p hmem
      have onward : wpAny (model P w) A (searchRest a (.ref x) (k.hash w) true f es t (way t.mask (k.hash w) (c + q)) i (wayP t.mask (k.hash w) (c + (q + 1)))) Q E s := by
        unfold searchRest
        rw [rowsN_at R.rows hp]
        dsimp only
        refine wpAny_bind (wpAny_holding ((nestedKind P w).eqBool hu hpt hx ?_))
        refine wpAny_bind (wpAny_setState_of ho hd R.fits ?_)
        dsimp only
        by_cases hkk : p.2 = k
        · refine wp_if_pos (by simp [hkk]) ?_
          exact wpAny_pure (hin (List.mem_map.mpr ⟨p, hmem, hkk⟩))
        · refine wp_if_neg (by simp [hkk]) ?_
          try refine wpAny_bind (wpAny_pure ?_)
          rw [sameMem]
          dsimp only
          have hsl : t.slot (way t.mask (k.hash w) (c + q)) = .live i := slot_live R.tab.ris hi
          simp only [if_true, hsl, rowsN_at R.rows hp]
          refine wpAny_bind (wpAny_isSame_ref_self (wpAny_bind (wpAny_pure ?_)))
          simp only [if_true]
          refine wp_if_neg (by simp [hkk]) ?_
          refine searchN R hx hu hKf hK hKb hin hout f (c + (q + 1)) _ rfl (by omega) (by omega) fun i0 p0 h0 hk0 => ?_
          obtain ⟨c', a1, a2, a3⟩ := hre i0 p0 h0 hk0
          refine ⟨c', ?_, a2, a3⟩
          by_cases z1 : c' < c + q
          · exfalso
            exact hno (c' - c) i0 (by omega) (by rw [e1, show c + (c' - c) = c' by omega]; exact a3) ((hashAt i0 p0 h0).trans (congrArg (NestedKey.hash w) hk0))
          · by_cases z2 : c' = c + q
            · exfalso
              rw [z2] at a3
              have s0 := slot_live R.tab.ris a3
              rw [hsl] at s0
              injection s0 with s0
              rw [← s0, hp] at h0
              exact hkk ((congrArg Prod.snd (Option.some.inj h0)).trans hk0)
            · omega
      by_cases hl : t.led = true
      · refine wp_if_neg (by simp [hl]) ?_
        try refine wpAny_bind (wpAny_pure ?_)
        exact onward
      · refine wp_if_pos (by simp [hl]) ?_
        refine wpAny_bind (seen_keys hx (fun y hy => ?_) ?_)
        · obtain ⟨e, he, ee⟩ := List.mem_map.mp hy
          have he1 : e ∈ es ∧ e.1 = k.hash w := by simpa using he
          have he2 : e ∈ es.toList := by simpa using he1.1
          rw [R.rows] at he2
          obtain ⟨p2, hp2, e2⟩ := List.mem_map.mp he2
          exact ⟨p2.2, p2.1, by rw [← ee, ← e2], R.key p2 hp2⟩
        · refine wp_if_neg (by decide) ?_
          try refine wpAny_bind (wpAny_pure ?_)
          exact onward
    · have hpr2 : t.probe (fun i => (es[i]?.map (·.1)).getD 0) (k.hash w) (stand.getD (t.probeStart (k.hash w))) = some (.empty (way t.mask (k.hash w) K) none) := by
        have e2 : way t.mask (k.hash w) K = (nth t.mask (wayP t.mask (k.hash w) c) (K - c)).j := by rw [e1, show c + (K - c) = K by omega]
        rw [hst, e2]
        exact hpr
      rw [hpr2]
      dsimp only
      refine wpAny_pure (hout fun hm => ?_)
      obtain ⟨p0, h0, hk0⟩ := List.mem_map.mp hm
      obtain ⟨i0, hi0⟩ := List.mem_iff_getElem?.mp h0
      obtain ⟨c', a1, a2, a3⟩ := hre i0 p0 hi0 hk0
      exact hno (c' - c) i0 (by omega) (by rw [e1, show c + (c' - c) = c' by omega]; exact a3) ((hashAt i0 p0 hi0).trans (congrArg (NestedKey.hash w) hk0))
theorem searchN_at (R : SetN w s.heap a L es ep t) {x : Addr} {k : NestedKey} (hx : IsN s.heap k x) (hu : A.units + 8 < cLine) {Q : SetFound → Shared → Prop} (hin : k ∈ L.map (·.2) → Q (.there none) s)
    (hout : ∀ K, k ∉ L.map (·.2) → way t.mask (k.hash w) K ∉ t.place.toList → (∀ c, c < K → way t.mask (k.hash w) c ∈ t.place.toList) → Q (.free (way t.mask (k.hash w) K) false) s) : wpAny (model P w) A (setSearch a (.ref x) (k.hash w) true) Q E s := by
  have hroom := R.room
  obtain ⟨K, hKf, hK, hKb⟩ := R.tab.first (by rw [List.length_map]; omega) (k.hash w)
  have hbig : K < 100000 := by
    have : 10 * SetTable.turns t.mask ≤ 1420 := by
      unfold SetTable.turns
      rcases R.tab.mok with e | e | e <;> omega
    omega
  unfold setSearch
  refine searchN R hx hu hKf hK hKb hin (fun hn => hout K hn hK hKb) 100000 0 none rfl (Nat.zero_le _) (by omega) fun i p hp hk => ?_
  have hi : (L.map fun p => p.2.hash w)[i]? = some (k.hash w) := by rw [List.getElem?_map, hp, ← hk] <;> rfl
  have hil : i < t.place.toList.length := by
    have h1 := (List.getElem?_eq_some_iff.mp hp).1
    have h2 := R.tab.sz
    rw [List.length_map] at h2
    rw [Array.length_toList]
    omega
  have hj := List.getElem?_eq_getElem hil
  obtain ⟨c, hc, e⟩ := R.tab.before hK hi hj
  exact ⟨c, Nat.zero_le _, hc, by rw [hj, e]⟩
end
end RB
set_option Elab.async false
set_option linter.all false
set_option maxRecDepth 100000
set_option maxHeartbeats 3200000
set_option autoImplicit false
/-! DSet2: adding to a set of nested tuples; set(list); sorted(set). After the library's texts on tuples of whole numbers, for keys of any nesting. -/
namespace RB
open PySem PySem.Spec PyProof.Rows L2
section
variable {P : Program} {w : World} {A : Around} {E : Value → Shared → Prop} {s : Shared}
theorem rowsN_put (L : NL) (p : Nat) (x : Addr × NestedKey) : rowsN w (L.take p ++ x :: L.drop p) = (rowsN w L).take p ++ (x.2.hash w, Value.ref x.1) :: (rowsN w L).drop p := by
  unfold rowsN
  rw [List.map_append, List.map_cons, List.map_take, List.map_drop]
theorem rowsN_order (L : NL) (es : Array (Int × Value)) (order : Array Nat) (hr : es.toList = rowsN w L) (hp : order.toList.Perm (List.range L.length)) :
    ∃ L2 : NL, (order.filterMap (es[·]?)).toList = rowsN w L2 ∧ L2.Perm L ∧ (L2.map fun p => p.2.hash w) = order.toList.map fun i => (es.map (·.1)).getD i 0 := by
  have hsz := rowsN_len hr
  have key : ∀ l : List Nat, (∀ i ∈ l, i < L.length) → l.filterMap (fun i => es[i]?) = rowsN w (l.filterMap fun i => L[i]?) ∧ ((l.filterMap fun i => L[i]?).map fun p => p.2.hash w) = l.map fun i => (es.map (·.1)).getD i 0 := by
    intro l
    induction l with
    | nil => intro _; exact ⟨rfl, rfl⟩
    | cons i l ih =>
      intro hl
      obtain ⟨e1, e2⟩ := ih fun j hj => hl j (List.mem_cons_of_mem _ hj)
      obtain ⟨q, gi⟩ : ∃ q, L[i]? = some q := ⟨_, List.getElem?_eq_getElem (hl i List.mem_cons_self)⟩
      have ge := rowsN_at hr gi
      constructor
      · rw [List.filterMap_cons_some ge, List.filterMap_cons_some gi, e1] <;> rfl
      · rw [List.filterMap_cons_some gi, List.map_cons, List.map_cons, e2]
        have e5 : (es.map (·.1))[i]? = some (q.2.hash w) := by rw [Array.getElem?_map, ge] <;> rfl
        have e4 : (es.map (·.1)).getD i 0 = q.2.hash w := by simp [Array.getD_eq_getD_getElem?, e5]
        rw [e4]
  obtain ⟨e1, e2⟩ := key order.toList fun i hi => List.mem_range.mp (hp.mem_iff.mp hi)
  refine ⟨order.toList.filterMap fun i => L[i]?, by first | (rw [Array.toList_filterMap]; exact e1) | simpa using e1, ?_, e2⟩
  have h1 : (order.toList.filterMap fun i => L[i]?).Perm ((List.range L.length).filterMap fun i => L[i]?) := hp.filterMap _
  have h2 : ∀ n, n ≤ L.length → (List.range n).filterMap (fun i => L[i]?) = L.take n := by
    intro n
    induction n with
    | zero => intro _; rfl
    | succ n ih =>
      intro hn
      rw [List.range_succ, List.filterMap_append, ih (Nat.le_of_lt hn), List.take_succ, List.getElem?_eq_getElem hn, List.filterMap_cons_some (List.getElem?_eq_getElem hn)] <;> rfl
  rw [h2 _ (Nat.le_refl _), List.take_length] at h1
  exact h1
variable {a : Addr} {L : NL} {es : Array (Int × Value)} {ep : Nat} {t : SetTable}
/-- the table laid anew, larger -/
theorem relayN {o : Obj} (ho : s.heap.get? a = some o) (hex : o.ExactSet) (hd : o.data = .set es ep t) (hrows : es.toList = rowsN w L) (hsz : t.place.size = es.size) (hdm : t.dummies = #[]) (hfl : es.size ≤ t.mask)
    (nd : (L.map (·.2)).Nodup) (key : ∀ p ∈ L, IsN s.heap p.2 p.1) (ld : w.params.followText "set-order" = true ∨ t.led = true) (few : L.length < 64) {wanted M : Nat}
    (hw : SetTable.sizeAbove wanted - 1 = M) (hM : MaskOk M) (hw2 : SetTable.sizeAbove wanted ≤ 128) (hn : L.length * 5 < M * 3) {Q : Unit → Shared → Prop}
    (hQ : ∀ h' L' es' ep' t', Heap.SameBut a s.heap h' → SetN w h' a L' es' ep' t' → L'.Perm L → Q () { s with heap := h' }) : wpAny (model P w) A (setRelay a wanted) Q E s := by
  have hsl := rowsN_len hrows
  have hfits : t.fits es.size = true := by
    unfold SetTable.fits SetTable.fill
    rw [hdm, Bool.and_eq_true, beq_iff_eq, decide_eq_true_eq]
    show t.place.size = es.size ∧ t.place.size + 0 ≤ t.mask
    omega
  obtain ⟨t', order, e, hp, T, em, el, ep', ed⟩ := relaid_ok t (hs := es.map (·.1)) (wanted := wanted) hw hM (by rw [Array.size_map, hsl]; omega)
  rw [Array.size_map, hsl] at hp
  obtain ⟨L2, r1, r2, r3⟩ := rowsN_order L es order hrows hp
  rw [← r3] at T
  have hs2 : (order.filterMap (es[·]?)).size = es.size := by rw [rowsN_len r1, r2.length_eq, hsl]
  rw [setRelay_eq]
  refine wpAny_bind (wpAny_setState_of ho hd hfits ?_)
  dsimp only
  refine wp_if_neg (by rw [sizeLine_eq]; omega) ?_
  try refine wpAny_bind (wpAny_pure ?_)
  rw [e]
  dsimp only
  refine wpAny_bind ?_
  refine wp_if_neg (by rw [hs2]; simp) ?_
  try refine wpAny_bind (wpAny_pure ?_)
  refine wpAny_pure ?_
  dsimp only
  refine wpAny_storeSet_of ho hd ?_ (by rw [hs2, hsl, sizeLine_eq]; omega)
  have sb : Heap.SameBut a s.heap (s.heap.update a (Obj.putSet (order.filterMap (es[·]?)) t')) := Heap.SameBut.update ..
  refine hQ _ L2 (order.filterMap (es[·]?)) (ep + 1) t' sb ?_ r2
  exact ⟨⟨_, store_at ho hd, ⟨hex.1, hex.2.1, hex.2.2⟩, rfl⟩, r1, T, (r2.map (·.2)).nodup_iff.mpr nd, fun p hpm => isN_same (key p (r2.mem_iff.mp hpm)) ho hd sb, by rw [el]; exact ld, by rw [r2.length_eq, em]; exact hn, by rw [r2.length_eq]; exact few⟩
theorem tab_plain {t : SetTable} {hs : List Int} (T : TabOk t hs) (b : Bool) : TabOk (if b = true then t else { t with plain := false }) hs := by
  cases b
  · exact ⟨T.ris, T.dm, T.sz, T.mok, T.bd, T.reach⟩
  · exact T
/-- what is done once the place is found -/
theorem putN (R : SetN w s.heap a L es ep t) {x : Addr} {k : NestedKey} (hx : IsN s.heap k x) (hm : k ∉ L.map (·.2)) (hfew : L.length + 1 < 64) {Q : Bool → Shared → Prop} {t1 : SetTable} {p : Nat}
    (q3 : TabOk t1 ((L.map fun p => p.2.hash w).take p ++ k.hash w :: (L.map fun p => p.2.hash w).drop p)) (q4 : t1.mask = t.mask) (q5 : t1.led = t.led) (q9 : t1.fill = L.length + 1)
    (hQ : ∀ b h' L' es' ep' t', Heap.SameBut a s.heap h' → SetN w h' a L' es' ep' t' → (k ∈ L.map (·.2) → L' = L) → (k ∉ L.map (·.2) → L'.Perm ((x, k) :: L)) → Q b { s with heap := h' }) :
    wpAny (model P w) A (do
      storeSet a (SetTable.insertAt es p (k.hash w, Value.ref x)) t1
      if t1.tooFull then setRelay a (SetTable.grown (es.size + 1))
      return true) Q E s := by
  obtain ⟨o, ho, hex, hd⟩ := R.ob
  have hsl := rowsN_len R.rows
  have hroom := R.room
  have hin : (SetTable.insertAt es p (k.hash w, Value.ref x)).toList = rowsN w (L.take p ++ (x, k) :: L.drop p) := by
    rw [SetTable.toList_insertAt, rowsN_put, R.rows]
  have pm := put_perm L p (x, k)
  have hlen : (L.take p ++ (x, k) :: L.drop p).length = L.length + 1 := pm.length_eq
  have hhs : (L.take p ++ (x, k) :: L.drop p).map (fun p => p.2.hash w) = (L.map fun p => p.2.hash w).take p ++ k.hash w :: (L.map fun p => p.2.hash w).drop p := by
    rw [List.map_append, List.map_cons, List.map_take, List.map_drop]
  rw [← hhs] at q3
  have nd1 : ((L.take p ++ (x, k) :: L.drop p).map (·.2)).Nodup := by
    refine (pm.map (·.2)).nodup_iff.mpr ?_
    rw [List.map_cons]
    exact List.nodup_cons.mpr ⟨hm, R.nd⟩
  have hes : (SetTable.insertAt es p (k.hash w, Value.ref x)).size = L.length + 1 := by rw [rowsN_len hin, hlen]
  generalize SetTable.insertAt es p (k.hash w, Value.ref x) = es1 at hin hes ⊢
  generalize L.take p ++ (x, k) :: L.drop p = L1 at pm hlen q3 nd1 hin
  refine wpAny_bind (wpAny_storeSet_of ho hd ?_ (by rw [hes, sizeLine_eq]; omega))
  have sb : Heap.SameBut a s.heap (s.heap.update a (Obj.putSet es1 t1)) := Heap.SameBut.update ..
  have ho1 := store_at (es' := es1) (t' := t1) ho hd
  generalize s.heap.update a (Obj.putSet es1 t1) = h1 at sb ho1 ⊢
  have key1 : ∀ p ∈ L1, IsN h1 p.2 p.1 := fun p hp => by
    rcases List.mem_cons.mp (pm.mem_iff.mp hp) with e | hp
    · rw [e]; exact isN_same hx ho hd sb
    · exact isN_same (R.key p hp) ho hd sb
  have ld1 : w.params.followText "set-order" = true ∨ t1.led = true := by rw [q5]; exact R.led
  by_cases hf : t1.tooFull = true
  · refine wp_if_pos hf ?_
    refine wpAny_bind ?_
    have hfull : (L.length + 1) * 5 ≥ t1.mask * 3 := by
      have h := hf
      unfold SetTable.tooFull at h
      rw [decide_eq_true_eq, q9] at h
      exact h
    rw [hsl]
    have hsz1 : t1.place.size = es1.size := by
      have h := q3.sz
      rw [List.length_map, hlen] at h
      rw [h, hes]
    have cases2 : (t.mask = 7 ∧ L.length = 4) ∨ (t.mask = 31 ∧ L.length = 18) := by
      rcases R.tab.mok with e | e | e
      · left; rw [q4, e] at hfull; rw [e] at hroom; exact ⟨e, by omega⟩
      · right; rw [q4, e] at hfull; rw [e] at hroom; exact ⟨e, by omega⟩
      · exfalso; rw [q4, e] at hfull; omega
    have go : ∀ M, SetTable.sizeAbove (SetTable.grown (L.length + 1)) - 1 = M → MaskOk M → SetTable.sizeAbove (SetTable.grown (L.length + 1)) ≤ 128 → (L.length + 1) * 5 < M * 3 →
        wpAny (model P w) A (setRelay a (SetTable.grown (L.length + 1))) (fun _ s' => wpAny (model P w) A (pure true) Q E s') E { s with heap := h1 } := fun M h1' h2' h3' h4' => by
      refine relayN (s := { s with heap := h1 }) ho1 ⟨hex.1, hex.2.1, hex.2.2⟩ rfl hin hsz1 q3.dm (by rw [hes, q4]; rcases cases2 with ⟨e, e2⟩ | ⟨e, e2⟩ <;> omega) nd1 key1 ld1 (by rw [hlen]; exact hfew) h1' h2' h3' (by rw [hlen]; exact h4') ?_
      intro h2 L2 es2 ep2 t2 sb2 R2 pm2
      exact wpAny_pure (hQ true h2 L2 es2 ep2 t2 (sb.trans sb2) R2 (fun z => absurd z hm) fun _ => pm2.trans pm)
    rcases cases2 with ⟨_, e2⟩ | ⟨_, e2⟩
    · exact go 31 (by rw [e2, size_20]) (.inr (.inl rfl)) (by rw [e2, size_20]; decide) (by omega)
    · exact go 127 (by rw [e2, size_76]) (.inr (.inr rfl)) (by rw [e2, size_76]; decide) (by omega)
  · refine wp_if_neg hf ?_
    try refine wpAny_bind (wpAny_pure ?_)
    refine wpAny_pure (hQ true h1 L1 es1 (ep + 1) t1 sb ⟨⟨_, ho1, ⟨hex.1, hex.2.1, hex.2.2⟩, rfl⟩, hin, q3, nd1, key1, ld1, ?_, by rw [hlen]; exact hfew⟩ (fun z => absurd z hm) fun _ => pm)
    have h := hf
    unfold SetTable.tooFull at h
    rw [decide_eq_true_eq, q9] at h
    rw [hlen]
    omega
theorem addN (R : SetN w s.heap a L es ep t) {x : Addr} {k : NestedKey} (hx : IsN s.heap k x) (hu : A.units + 8 < cLine) (hfew : k ∉ L.map (·.2) → L.length + 1 < 64) {Q : Bool → Shared → Prop}
    (hQ : ∀ b h' L' es' ep' t', Heap.SameBut a s.heap h' → SetN w h' a L' es' ep' t' → (k ∈ L.map (·.2) → L' = L) → (k ∉ L.map (·.2) → L'.Perm ((x, k) :: L)) → Q b { s with heap := h' }) :
    wpAny (model P w) A (setAddHashed a (.ref x) (k.hash w)) Q E s := by
  obtain ⟨o, ho, hex, hd⟩ := R.ob
  unfold setAddHashed
  refine wpAny_holding ?_
  rw [show (100000 : Nat) = 99999 + 1 from rfl, setAddHashedIn_succ]
  refine wpAny_bind (wpAny_setState_of ho hd R.fits ?_)
  dsimp only
  refine wp_if_neg (by simp [byScan, Value.scannable]) ?_
  try refine wpAny_bind (wpAny_pure ?_)
  refine wpAny_bind (searchN_at R hx hu (fun hm => ?_) fun K hm hK hb => ?_)
  · dsimp only
    exact wpAny_pure (hQ false s.heap L es ep t (Heap.SameBut.refl a s.heap) R (fun _ => rfl) fun z => absurd hm z)
  · dsimp only
    refine wpAny_bind (wpAny_setState_of ho hd R.fits ?_)
    dsimp only
    obtain ⟨q1, q2, q3, q4, q5, q6, q7, q8, q9⟩ := R.tab.put hK hb
    rw [List.length_map] at q9
    generalize hpt : t.put (way t.mask (k.hash w) K) = pt at q1 q3 q4 q5 q6 q7 q8 q9 ⊢
    obtain ⟨t1, p⟩ := pt
    dsimp only at q1 q3 q4 q5 q6 q7 q8 q9 ⊢
    subst q1
    have fin : ∀ b : Bool, wpAny (model P w) A (do
        storeSet a (SetTable.insertAt es (SetTable.below t.place (way t.mask (k.hash w) K)) (k.hash w, Value.ref x)) (if b = true then t1 else { t1 with plain := false })
        if !false && (if b = true then t1 else { t1 with plain := false }).tooFull then setRelay a (SetTable.grown (es.size + 1))
        return true) Q E s := fun b => by
      have := putN (P := P) (A := A) (E := E) R hx hm (hfew hm) (t1 := if b = true then t1 else { t1 with plain := false }) (p := SetTable.below t.place (way t.mask (k.hash w) K)) (tab_plain q3 b) (by cases b <;> exact q4) (by cases b <;> exact q5) (by cases b <;> exact q9) hQ
      exact this
    by_cases hpl : t1.plain = true
    · first
        | (refine wpAny_bind ?_; refine wp_if_pos hpl ?_; refine byval_key k _ s hx.1 8 _ _ _ fun b => ?_; exact fin b)
        | (refine wp_if_pos hpl (wpAny_bind (byval_key k _ s hx.1 8 _ _ _ fun b => ?_)); exact fin b)
    · first
        | (refine wpAny_bind ?_; refine wp_if_neg hpl ?_; refine wpAny_pure ?_; exact fin true)
        | (refine wp_if_neg hpl ?_; refine wpAny_bind (wpAny_pure ?_); exact fin true)
        | (refine wp_if_neg hpl ?_; exact fin true)
end
end RB
set_option Elab.async false
set_option linter.all false
set_option maxRecDepth 100000
set_option maxHeartbeats 3200000
set_option autoImplicit false
/-! DSet3: set(list) of nested tuples; sorted(set) of them. -/
namespace RB
open PySem PySem.Spec PyProof.Rows L2
/-- what the set has got from the first i items -/
structure GotN (ks : NL) (i : Nat) (L : NL) : Prop where
  sub : ∀ p ∈ L, p ∈ ks.take i
  all : ∀ p ∈ ks.take i, p.2 ∈ L.map (·.2)
theorem GotN.zero (ks : NL) : GotN ks 0 [] := ⟨fun p h => (by cases h), fun p h => (by simp at h)⟩
theorem GotN.same {ks L : NL} {i : Nat} {x : Addr × NestedKey} (g : GotN ks i L) (h : ks[i]? = some x) (hm : x.2 ∈ L.map (·.2)) : GotN ks (i + 1) L := by
  refine ⟨fun p hp => ?_, fun p hp => ?_⟩
  · rw [take_next h]
    exact List.mem_append_left _ (g.sub p hp)
  · rw [take_next h] at hp
    rcases List.mem_append.mp hp with z | z
    · exact g.all p z
    · rw [List.mem_singleton.mp z]; exact hm
theorem GotN.more {ks L L' : NL} {i : Nat} {x : Addr × NestedKey} (g : GotN ks i L) (h : ks[i]? = some x) (pm : L'.Perm (x :: L)) : GotN ks (i + 1) L' := by
  refine ⟨fun p hp => ?_, fun p hp => ?_⟩
  · rw [take_next h]
    rcases List.mem_cons.mp (pm.mem_iff.mp hp) with e | z
    · rw [e]; exact List.mem_append_right _ (List.mem_singleton.mpr rfl)
    · exact List.mem_append_left _ (g.sub p z)
  · rw [(pm.map (·.2)).mem_iff, List.map_cons]
    rw [take_next h] at hp
    rcases List.mem_append.mp hp with z | z
    · exact List.mem_cons_of_mem _ (g.all p z)
    · rw [List.mem_singleton.mp z]; exact List.mem_cons_self
/-- the keys, each once -/
def dedupK : List NestedKey → List NestedKey
  | [] => []
  | k :: r => if k ∈ r then dedupK r else k :: dedupK r
theorem mem_dedupK {x : NestedKey} : ∀ {ks : List NestedKey}, x ∈ dedupK ks ↔ x ∈ ks
  | [] => Iff.rfl
  | k :: r => by
    unfold dedupK
    split
    · rename_i h
      rw [mem_dedupK (ks := r), List.mem_cons]
      exact ⟨.inr, fun z => z.elim (fun e => e ▸ h) id⟩
    · rw [List.mem_cons, mem_dedupK (ks := r), List.mem_cons]
theorem nodup_dedupK : ∀ {ks : List NestedKey}, (dedupK ks).Nodup
  | [] => List.nodup_nil
  | k :: r => by
    unfold dedupK
    split
    · exact nodup_dedupK
    · rename_i h
      exact List.nodup_cons.mpr ⟨fun z => h (mem_dedupK.mp z), nodup_dedupK⟩
theorem len_le_of_sub {α : Type} : ∀ {l m : List α}, l.Nodup → (∀ x ∈ l, x ∈ m) → l.length ≤ m.length
  | [], _, _, _ => Nat.zero_le _
  | x :: l, m, hn, hs => by
    obtain ⟨a, b, rfl⟩ := List.append_of_mem (hs x List.mem_cons_self)
    have h := List.nodup_cons.mp hn
    have := len_le_of_sub (m := a ++ b) h.2 fun y hy => by
      have hm := hs y (List.mem_cons_of_mem _ hy)
      rw [List.mem_append, List.mem_cons] at hm
      rw [List.mem_append]
      rcases hm with z | z | z
      · exact .inl z
      · exact absurd (z ▸ hy) h.1
      · exact .inr z
    rw [List.length_append] at this
    rw [List.length_append, List.length_cons, List.length_cons]
    omega
theorem GotN.len {ks L : NL} {i : Nat} (g : GotN ks i L) (nd : (L.map (·.2)).Nodup) : L.length ≤ (dedupK (ks.map (·.2))).length := by
  rw [← List.length_map (f := fun p : Addr × NestedKey => p.2)]
  refine len_le_of_sub nd fun x hx => mem_dedupK.mpr ?_
  obtain ⟨p, hp, rfl⟩ := List.mem_map.mp hx
  exact List.mem_map.mpr ⟨p, List.mem_of_mem_take (g.sub p hp), rfl⟩
theorem GotN.len1 {ks L : NL} {i : Nat} {x : Addr × NestedKey} (g : GotN ks i L) (nd : (L.map (·.2)).Nodup) (h : ks[i]? = some x) (hm : x.2 ∉ L.map (·.2)) : L.length + 1 ≤ (dedupK (ks.map (·.2))).length := by
  have : (x.2 :: L.map (·.2)).length ≤ (dedupK (ks.map (·.2))).length := by
    refine len_le_of_sub (List.nodup_cons.mpr ⟨hm, nd⟩) fun y hy => mem_dedupK.mpr ?_
    rcases List.mem_cons.mp hy with e | hy
    · rw [e]; exact List.mem_map.mpr ⟨x, List.mem_of_getElem? h, rfl⟩
    · obtain ⟨p, hp, rfl⟩ := List.mem_map.mp hy
      exact List.mem_map.mpr ⟨p, List.mem_of_mem_take (g.sub p hp), rfl⟩
  rw [List.length_cons, List.length_map] at this
  exact this
section
variable {P : Program} {w : World} {A : Around} {E : Value → Shared → Prop} {s : Shared}
theorem SetN.keep {h h' : Heap} {a : Addr} {L : NL} {es : Array (Int × Value)} {ep : Nat} {t : SetTable} (R : SetN w h a L es ep t) (ha : ∀ o, h.get? a = some o → h'.get? a = some o) (ht : ∀ p ∈ L, IsN h' p.2 p.1) : SetN w h' a L es ep t := by
  obtain ⟨o, ho, r⟩ := R.ob
  exact ⟨⟨o, ha o ho, r⟩, R.rows, R.tab, R.nd, ht, R.led, R.room, R.few⟩
abbrev newSetObj (w : World) : Obj := { cls := .type "set", dict := none, data := .set #[] 0 (.fresh 0 0 (!w.params.followText "set-order")) }
theorem setN_new {h : Heap} {a : Addr} (ho : h.get? a = some (newSetObj w)) : SetN w h a [] #[] 0 (.fresh 0 0 (!w.params.followText "set-order")) where
  ob := ⟨_, ho, ⟨rfl, rfl, rfl⟩, rfl⟩
  rows := rfl
  tab := ⟨List.Pairwise.nil, rfl, rfl, .inl rfl, fun x hx => (by cases hx), fun i h j hi => (by simp at hi)⟩
  nd := List.nodup_nil
  key := fun p hp => (by cases hp)
  led := by
    show _ ∨ (!w.params.followText "set-order") = true
    cases w.params.followText "set-order"
    · exact .inr rfl
    · exact .inl rfl
  room := by
    show 0 * 5 < 7 * 3
    decide
  few := by
    show 0 < 64
    decide
/-- set.update's loop -/
theorem updateN {I : Addr} {fp wr : List Addr} {G : Array GenState → Array GenState → Prop} {n : Nat} {Pv : Nat → Value → Prop} {St : Nat → Shared → Prop} {R : Result → Shared → Prop}
    (W : WalksS P w A.in1 I fp wr G n Pv St) (S : Addr) (hSf : S ∉ fp) (ks : NL) (hn : n = ks.length) (hfew : (dedupK (ks.map (·.2))).length < 64) (hval : ∀ i v, Pv i v → ∃ p, ks[i]? = some p ∧ v = .ref p.1)
    (h0 : Heap) (hk : ∀ p ∈ ks, IsN h0 p.2 p.1) (hS0 : h0.get? S = none) (hw0 : ∀ b ∈ wr, h0.get? b = none) (hu : A.in1.units + 8 < cLine) :
    ∀ (k i : Nat) (s : Shared), n - i = k → i ≤ n → St i s → (∀ b o, h0.get? b = some o → s.heap.get? b = some o) → (∃ L es ep t, SetN w s.heap S L es ep t ∧ GotN ks i L) →
      (∀ s' L es ep t, Moved (S :: wr) G s s' → SetN w s'.heap S L es ep t → GotN ks n L → (∀ b o, h0.get? b = some o → s'.heap.get? b = some o) → R (.ok (.ret .none)) s') →
      codeAny (model P w) A (.builtin "set.update.loop" ⟨[.ref S, .ref I], []⟩) R s := by
  have hSw : S ∉ wr := fun h => hSf (W.sub _ h)
  have hsub : ∀ b ∈ wr, b ∈ S :: wr := fun b hb => List.mem_cons_of_mem _ hb
  have keepM : ∀ {s s' : Shared}, Moved wr G s s' → (∀ b o, h0.get? b = some o → s.heap.get? b = some o) → ∀ b o, h0.get? b = some o → s'.heap.get? b = some o := fun hm hkp b o e =>
    hm.heap b o (fun hb => by rw [hw0 b hb] at e; cases e) (hkp b o e)
  intro k
  induction k with
  | zero =>
    intro i s hk' hi hst hkp ⟨L, es, ep, t, hS, g⟩ hR
    have hin : i = n := by omega
    subst hin
    refine codeAny_builtin F.entry_set_update_loop ?_
    rw [Around.under_plainId F.plain_set_update_loop _]
    show wpAny _ A.in1 (pyNext (.ref I) >>= _) _ _ s
    refine wpAny_bind (W.done s _ _ hst fun s' hm => ?_)
    show wpAny _ A.in1 (ret Value.none) _ _ s'
    have hkp' := keepM hm hkp
    have sub : ∀ p ∈ L, p ∈ ks := fun p hp => List.mem_of_mem_take (g.sub p hp)
    exact wpAny_pure (hR s' L es ep t (hm.mono hsub) (hS.keep (fun o e => hm.heap S o hSw e) fun p hp => isN_keep (hk p (sub p hp)) hkp') g hkp')
  | succ k ih =>
    intro i s hk' hi hst hkp ⟨L, es, ep, t, hS, g⟩ hR
    have hlt : i < n := by omega
    refine codeAny_builtin F.entry_set_update_loop ?_
    rw [Around.under_plainId F.plain_set_update_loop _]
    show wpAny _ A.in1 (pyNext (.ref I) >>= _) _ _ s
    refine wpAny_bind (W.item i s _ _ hlt hst fun v s' hP hst' hm => ?_)
    obtain ⟨p, hp, rfl⟩ := hval i v hP
    have hkp' := keepM hm hkp
    have sub : ∀ p ∈ L, p ∈ ks := fun p hp => List.mem_of_mem_take (g.sub p hp)
    have hS' : SetN w s'.heap S L es ep t := hS.keep (fun o e => hm.heap S o hSw e) fun q hq => isN_keep (hk q (sub q hq)) hkp'
    have hx : IsN s'.heap p.2 p.1 := isN_keep (hk p (List.mem_of_getElem? hp)) hkp'
    show wpAny _ A.in1 (holding [Value.ref p.1] (setAdd S (.ref p.1)) >>= _) _ _ s'
    refine wpAny_bind (wpAny_holding ?_)
    unfold setAdd
    refine wpAny_holding ?_
    refine wpAny_bind (pyHash_key p.2 _ _ _ _ hx.1 (by have := hx.2; omega) ?_)
    refine addN (s := { s' with toks := s'.toks + p.2.draws }) hS' hx hu (fun hm => by have := g.len1 hS.nd hp hm; omega) fun b h' L' es' ep' t' hsb hS2 c1 c2 => ?_
    have g' : GotN ks (i + 1) L' := by
      rcases Classical.em (p.2 ∈ L.map (·.2)) with c | c
      · rw [c1 c]; exact g.same hp c
      · exact g.more hp (c2 c)
    have hkp2 : ∀ b o, h0.get? b = some o → h'.get? b = some o := fun b o e => (hsb.2 b (fun z => by rw [z, hS0] at e; cases e)).trans (hkp' b o e)
    refine wpAny_pure ⟨plainId_quiet F.plain_set_update_loop _, ih (i + 1) _ (by omega) hlt (W.frame _ s' _ _ hst' (Nat.le_add_right _ _) fun b hb o e => ?_) hkp2 ⟨L', es', ep', t', hS2, g'⟩ fun s'' L2 es2 ep2 t2 hm'' hS'' g'' hkp'' => ?_⟩
    · rw [hsb.2 b (fun h : b = S => hSf (by rw [← h]; exact hb))]; exact e
    · refine hR s'' L2 es2 ep2 t2 (Moved.trans W.gtrans ((hm.mono hsub).then_heap (Nat.le_add_right _ _) fun b o hb e => ?_) hm'') hS'' g'' hkp''
      rw [hsb.2 b (fun h : b = S => hb (by rw [h]; exact List.mem_cons_self))]; exact e
/-- set(xs) -/
theorem call_setN {l : Addr} {items : Array Value} (ks : NL) {Q : Value → Shared → Prop} (hh : A.handled = none) (hl : s.heap.IsList l items) (hit : items.toList = ks.map fun p => Value.ref p.1)
    (hk : ∀ p ∈ ks, IsN s.heap p.2 p.1) (hfew : (dedupK (ks.map (·.2))).length < 64) (hu : A.units + 11 < cLine)
    (h : ∀ (h' : Heap) (tk : Nat) L es ep t, SetN w h' s.heap.objs.size L es ep t → GotN ks ks.length L → (∀ b o, s.heap.get? b = some o → h'.get? b = some o) → Q (.ref s.heap.objs.size) { s with heap := h', toks := tk }) :
    wpAny (model P w) A (call (.type "set") [.ref l]) Q E s := by
  have hisz : items.size = ks.length := by
    have q := congrArg List.length hit
    rw [Array.length_toList, List.length_map] at q
    exact q
  obtain ⟨c, tl, hmro⟩ := F.called_set.mro
  have hmade := F.called_set.made
  have hsub := F.called_set.sub
  refine wpAny_call (codeAny_of_tree ?_)
  show wpAny _ _ (callAny (.type "set") _) _ _ _
  refine wpAny_pure ⟨Code.quiet_builtin _ (by decide +kernel), codeAny_builtin F.entry_type_call ?_⟩
  rw [Around.under_plain (weight_type_call_type "set" [.ref l] []) rfl]
  have h1 := F.called_set.notType
  have h2 := F.called_set.canCreate
  have hct := F.typeCall_set_1 (.ref l)
  repeat (any_goals (first | assumption | wp_step))
  refine codeAny_mono (code_set_led1 (.ref l) (E := E) (Q₁ := fun obj s₁ => obj = .ref s.heap.objs.size ∧ s₁ = { s with heap := s.heap.push (newSetObj w) }) ⟨rfl, rfl⟩) fun r s₁ hr => ?_
  cases r with
  | error e => exact hr
  | ok fl =>
    cases fl with
    | ret obj =>
      obtain ⟨rfl, rfl⟩ := hr
      have hS : (s.heap.push (newSetObj w)).get? s.heap.objs.size = some (newSetObj w) := Heap.get?_push_size _ rfl
      have hT : Shared.TypeIs { s with heap := s.heap.push (newSetObj w) } (.ref s.heap.objs.size) "set" := ⟨_, hS, rfl⟩
      have hli := F.called_set.init.lookup
      have hbi := F.called_set.init.bind (.ref s.heap.objs.size)
      repeat (any_goals (first | assumption | wp_step))
      refine codeAny_mono (codeAny_call_builtin (R := wants (fun r s₂ => r = .none ∧ ∃ h' tk L es ep t, s₂ = { s with heap := h', toks := tk } ∧ SetN w h' s.heap.objs.size L es ep t ∧ GotN ks ks.length L ∧
          (∀ b o, s.heap.get? b = some o → h'.get? b = some o)) E) F.called_set.init.plain F.entry_set_init (check_set_init_1 hT ?_)) fun r₂ s₂ hr₂ => ?_
      · obtain ⟨ol, hol, hcl, nl, hdl⟩ := hl
        obtain ⟨ocls, odict, odata, oslots⟩ := ol
        simp only at hcl hdl
        subst hcl; subst hdl
        have hol' : (s.heap.push (newSetObj w)).get? l = some { cls := .type "list", dict := odict, data := .seq items nl, slots := oslots } := Heap.get?_push_of_some _ hol
        have hsls := F.sub_list_set
        have hslf := F.sub_list_frozenset
        have hne : (Value.type "list" == Value.type "dict") = false := by decide
        have hl1 : (s.heap.push (newSetObj w)).IsList l items := ⟨_, hol', rfl, nl, rfl⟩
        unfold Builtin.«set.__init__» noKeywords Builtin.Frozenset.updateFrom
        generalize hPI : pyIter = PI
        wp_walk
        subst hPI
        refine wpAny_pyIter_list hl1 ?_
        refine wpAny_bind (wpAny_runValue ?_)
        have hlS : l < s.heap.objs.size := Heap.lt_size hol
        have hh3 : A.in1.in1.in1.handled = none := by simp [hh]
        have hneI : l ≠ (s.heap.push (newSetObj w)).objs.size := by
          rw [Heap.size_push]; exact Nat.ne_of_lt (Nat.lt_succ_of_lt hlS)
        have hSf : s.heap.objs.size ∉ [(s.heap.push (newSetObj w)).objs.size, l] := by
          rw [Heap.size_push]; simp only [List.mem_cons, List.mem_singleton, List.not_mem_nil, or_false, not_or]
          exact ⟨Nat.ne_of_lt (Nat.lt_succ_self _), Nat.ne_of_gt hlS⟩
        have hval : ∀ (i : Nat) (v : Value), items[i]? = some v → ∃ p, ks[i]? = some p ∧ v = .ref p.1 := fun i v hv => by
          have q : items.toList[i]? = some v := by rw [Array.getElem?_toList]; exact hv
          rw [hit, List.getElem?_map] at q
          cases hq : ks[i]? with
          | none => rw [hq] at q; cases q
          | some p =>
            rw [hq] at q
            exact ⟨p, rfl, (Option.some.inj q).symm⟩
        have none_of : ∀ b, s.heap.objs.size ≤ b → s.heap.get? b = none := fun b hb => by
          cases q : s.heap.get? b with
          | none => rfl
          | some o => exact absurd (Nat.lt_of_lt_of_le (Heap.lt_size q) hb) (Nat.lt_irrefl _)
        refine updateN ((Walks.list hh3 _ l hneI items).toS) s.heap.objs.size
          hSf ks hisz hfew hval s.heap hk (none_of _ (Nat.le_refl _)) (fun b hb => none_of b (by
            rw [List.mem_singleton.mp hb, Heap.size_push]
            exact Nat.le_succ _)) (by simpa using hu) (items.size - 0) 0 _ (by omega) (Nat.zero_le _)
          ⟨⟨_, Heap.get?_push_size _ rfl, rfl, rfl⟩, (hl1.push _)⟩ (fun b o e => Heap.get?_push_of_some _ (Heap.get?_push_of_some _ e)) ?hS0 ?hR
        case hS0 =>
          have hget : ((s.heap.push (newSetObj w)).push { cls := .type "list_iterator", data := .fields #[.ref l, .int 0 0] }).get? s.heap.objs.size = some (newSetObj w) := Heap.get?_push_of_some _ hS
          exact ⟨[], #[], 0, _, setN_new hget, GotN.zero ks⟩
        case hR =>
          intro s' L es ep t hm hS' g' hkp
          obtain ⟨h', g2, d', tk', os'⟩ := s'
          have eg : g2 = s.gens := hm.gens
          have ed : d' = s.drawn := hm.drawn
          have eo : os' = s.os := hm.os
          subst eg; subst ed; subst eo
          show wpAny _ _ _ _ _ _
          refine wpAny_pure ?_
          show wpAny _ _ (ret Value.none) _ _ _
          rw [hisz] at g'
          exact wpAny_pure ⟨rfl, h', tk', L, es, ep, t, rfl, hS', g', hkp⟩
      · cases r₂ with
        | error e => exact hr₂
        | ok fl₂ =>
          cases fl₂ with
          | ret r =>
            obtain ⟨rfl, h', tk, L, es, ep, t, rfl, hS', g', hk'⟩ := hr₂
            repeat (any_goals (first | assumption | wp_step))
            exact h _ _ _ _ _ _ hS' g' hk'
          | _ => exact hr₂.elim
    | _ => exact hr.elim
end
end RB
set_option Elab.async false
set_option linter.all false
set_option maxRecDepth 100000
set_option maxHeartbeats 3200000
set_option autoImplicit false
/-! DSet4: sorted(set(xs)) over data. -/
namespace RB
open PySem PySem.Spec PyProof.Rows L2
mutual
/-- data as a key: whole numbers, texts, tuples of such -/
def keyOf : D → Option NestedKey
  | .int i => some (.num i)
  | .str x => some (.text x)
  | .tuple xs => (keysOf xs).map .tup
  | _ => none
def keysOf : List D → Option (List NestedKey)
  | [] => some []
  | d :: r => (keyOf d).bind fun k => (keysOf r).map fun ks => k :: ks
end
mutual
theorem data_keyOf : ∀ {d : D} {k : NestedKey}, keyOf d = some k → k.data = d
  | .int i, _, h => by cases h; rfl
  | .str x, _, h => by cases h; rfl
  | .tuple xs, _, h => by
    unfold keyOf at h
    obtain ⟨ks, e, rfl⟩ := map_some' h
    unfold NestedKey.data
    rw [datas_keysOf e]
  | .none, _, h => by cases h
  | .bool _, _, h => by cases h
  | .list _, _, h => by cases h
  | .dict _, _, h => by cases h
theorem datas_keysOf : ∀ {ds : List D} {ks : List NestedKey}, keysOf ds = some ks → NestedKey.datas ks = ds
  | [], _, h => by cases h; rfl
  | d :: r, _, h => by
    unfold keysOf at h
    obtain ⟨k, e1, h⟩ := bind_some h
    obtain ⟨ks, e2, rfl⟩ := map_some' h
    unfold NestedKey.datas
    rw [data_keyOf e1, datas_keysOf e2]
end
theorem datas_map : ∀ ks : List NestedKey, NestedKey.datas ks = ks.map NestedKey.data
  | [] => rfl
  | k :: ks => by unfold NestedKey.datas; rw [datas_map ks, List.map_cons]
/-! ### the order of keys -/
mutual
theorem toks_inj : ∀ (x y : NestedKey) (l m : List (Int ⊕ List Nat)), PySem.W.alike x.data y.data = true → PySem.W.keyToks x.data ++ l = PySem.W.keyToks y.data ++ m → x = y ∧ l = m
  | .none, .none, l, m, _, e => ⟨rfl, by simpa [NestedKey.data, PySem.W.keyToks] using e⟩
  | .num i, .num j, l, m, _, e => by
    simp only [NestedKey.data, PySem.W.keyToks, List.cons_append, List.nil_append, List.cons.injEq, Sum.inl.injEq] at e
    exact ⟨by rw [e.1], e.2⟩
  | .text x, .text y, l, m, _, e => by
    simp only [NestedKey.data, PySem.W.keyToks, List.cons_append, List.nil_append, List.cons.injEq, Sum.inr.injEq] at e
    exact ⟨by rw [PySem.W.str_of_cps e.1], e.2⟩
  | .tup xs, .tup ys, l, m, h, e => by
    simp only [NestedKey.data, PySem.W.alike] at h
    simp only [NestedKey.data, PySem.W.keyToks] at e
    obtain ⟨e1, e2⟩ := toksAll_inj xs ys l m h e
    exact ⟨by rw [e1], e2⟩
  | .none, .num _, _, _, h, _ | .none, .text _, _, _, h, _ | .none, .tup _, _, _, h, _ => by simp [NestedKey.data, PySem.W.alike] at h
  | .num _, .none, _, _, h, _ | .num _, .text _, _, _, h, _ | .num _, .tup _, _, _, h, _ => by simp [NestedKey.data, PySem.W.alike] at h
  | .text _, .none, _, _, h, _ | .text _, .num _, _, _, h, _ | .text _, .tup _, _, _, h, _ => by simp [NestedKey.data, PySem.W.alike] at h
  | .tup _, .none, _, _, h, _ | .tup _, .num _, _, _, h, _ | .tup _, .text _, _, _, h, _ => by simp [NestedKey.data, PySem.W.alike] at h
theorem toksAll_inj : ∀ (xs ys : List NestedKey) (l m : List (Int ⊕ List Nat)), PySem.W.alikeAll (NestedKey.datas xs) (NestedKey.datas ys) = true → PySem.W.keyToksAll (NestedKey.datas xs) ++ l = PySem.W.keyToksAll (NestedKey.datas ys) ++ m → xs = ys ∧ l = m
  | [], [], l, m, _, e => by
    simp only [NestedKey.datas, PySem.W.keyToksAll, List.cons_append, List.nil_append, List.cons.injEq] at e
    exact ⟨rfl, e.2⟩
  | [], y :: ys, l, m, _, e => by
    simp only [NestedKey.datas, PySem.W.keyToksAll, List.cons_append, List.nil_append, List.cons.injEq, Sum.inl.injEq] at e
    exact absurd e.1 (by decide)
  | x :: xs, [], l, m, _, e => by
    simp only [NestedKey.datas, PySem.W.keyToksAll, List.cons_append, List.nil_append, List.cons.injEq, Sum.inl.injEq] at e
    exact absurd e.1 (by decide)
  | x :: xs, y :: ys, l, m, h, e => by
    simp only [NestedKey.datas, PySem.W.alikeAll, Bool.and_eq_true] at h
    simp only [NestedKey.datas, PySem.W.keyToksAll, List.cons_append, List.cons.injEq, true_and, List.append_assoc] at e
    obtain ⟨e1, e2⟩ := toks_inj x y _ _ h.1 e
    obtain ⟨e3, e4⟩ := toksAll_inj xs ys l m h.2 e2
    exact ⟨by rw [e1, e3], e4⟩
end
abbrev leK : NestedKey → NestedKey → Bool := PySem.W.dataLe false NestedKey.data
theorem leK_total : PySem.W.TotalLe leK := PySem.W.sortLe_total _ _ _
theorem leK_antisymm {x y : NestedKey} (h : PySem.W.alike x.data y.data = true) (h1 : leK x y = true) (h2 : leK y x = true) : x = y := by
  have e1 : PyProof.Rows.lexLt itemOrd (PySem.W.keyToks y.data) (PySem.W.keyToks x.data) = false := by simpa [leK, PySem.W.dataLe, PySem.W.sortLe, listOrd] using h1
  have e2 : PyProof.Rows.lexLt itemOrd (PySem.W.keyToks x.data) (PySem.W.keyToks y.data) = false := by simpa [leK, PySem.W.dataLe, PySem.W.sortLe, listOrd] using h2
  have e := PyProof.Rows.lex_total (O := itemOrd) _ _ e2 e1
  exact (toks_inj x y [] [] h (by rw [e])).1
def alikeK (ks : List NestedKey) : Bool := ks.all fun x => ks.all fun y => PySem.W.alike x.data y.data
theorem alikeK_at {ks : List NestedKey} (h : alikeK ks = true) {x y : NestedKey} (hx : x ∈ ks) (hy : y ∈ ks) : PySem.W.alike x.data y.data = true := by
  unfold alikeK at h
  rw [List.all_eq_true] at h
  exact List.all_eq_true.mp (h x hx) y hy
theorem sorted_unique {ks l m : List NestedKey} (ha : alikeK ks = true) (sl : ∀ x ∈ l, x ∈ ks) (pm : l.Perm m) (pw : l.Pairwise fun x y => leK x y = true) : l = m.mergeSort leK := by
  refine List.Perm.eq_of_pairwise (le := fun x y => leK x y = true) (fun a b h1 h2 h3 h4 => leK_antisymm (alikeK_at ha (sl a h1) (sl b ?_)) h3 h4) pw (PySem.W.sort_pairwise leK_total m) (pm.trans (List.mergeSort_perm m leK).symm)
  exact pm.mem_iff.mpr ((List.mergeSort_perm m leK).mem_iff.mp h2)
theorem sortD_keys (ks : List NestedKey) : (ks.mergeSort leK).map NestedKey.data = sortD (ks.map NestedKey.data) := PySem.W.sort_maps NestedKey.data fun _ _ _ _ => rfl
section
variable {P : Program} {w : World} {A : Around} {E : Value → Shared → Prop} {s : Shared}
theorem eachRef : ∀ (L : NL), PySem.W.EachIs (fun (v : Value) (p : Addr × NestedKey) => v = .ref p.1) (L.map fun p => Value.ref p.1) L
  | [] => .nil
  | p :: L => .cons rfl (eachRef L)
theorem eachRef_of : ∀ {vs : List Value} {L : NL}, PySem.W.EachIs (fun (v : Value) (p : Addr × NestedKey) => v = .ref p.1) vs L → vs = L.map fun p => Value.ref p.1
  | _, _, .nil => rfl
  | _, _, .cons h t => by rw [List.map_cons, h, eachRef_of t]
theorem nodup_map {α β : Type} {f : α → β} {l : List α} (h : (l.map f).Nodup) : l.Nodup := List.Pairwise.of_map f (fun _ _ hne e => hne (congrArg f e)) h
theorem sorted_setN {a : Addr} {L : NL} {es : Array (Int × Value)} {ep : Nat} {t : SetTable} {Q : Value → Shared → Prop} (R : SetN w s.heap a L es ep t) (hh : A.handled = none) (hu : A.units + 20 < cLine)
    (hr : ∀ p ∈ L, ∃ as, PySem.Reads s.heap (.ref p.1) p.2.data as) (ha : alikeK (L.map (·.2)) = true) (hne : ∀ p ∈ L, ∃ k r, p.2 = .tup (k :: r)) (hdp : ∀ p ∈ L, p.2.data.depth ≤ 8)
    (hQ : ∀ s' p (out : Array Value) (c : Nat) (L' : NL), (∀ b o, s.heap.get? b = some o → s'.heap.get? b = some o) → s'.gens = s.gens → s'.os = s.os → s.heap.objs.size ≤ p →
      s'.heap.get? p = some (seqObj "list" out c) → out.toList = L'.map (fun q => Value.ref q.1) → L'.Perm L → (L'.map (·.2)).Pairwise (fun x y => leK x y = true) → Q (.ref p) s') :
    wpAny (model P w) A (call (.builtin "sorted") [.ref a]) Q E s := by
  obtain ⟨o, ho, hex, hd⟩ := R.ob
  have hsz := rowsN_len R.rows
  have hfew := R.few
  refine Calls.call_function_entry kind_sorted plain_sorted entry_sorted (args_sorted1 _) ?_
  unfold Builtin.«sorted»
  refine wpAny_bind (m := checkCount "sorted" 1 1 _) (wpAny_pure ?_)
  refine wpAny_bind (collect_set (A := A.in1) hh ⟨o, ho, hex.1, hd⟩ R.fits (by unfold scanBound; omega) R.tab.ris R.led fun s1 vs k1 hz g1 o1 pm => ?_)
  have hes : es.toList.map (·.2) = L.map fun q => Value.ref q.1 := by
    rw [R.rows]
    unfold rowsN
    rw [List.map_map] <;> rfl
  rw [hes] at pm
  have ord : ∀ vs : List Value, (∀ v ∈ vs, ∃ q ∈ L, v = Value.ref q.1) → ∃ L1 : NL, vs = L1.map (fun q => Value.ref q.1) ∧ ∀ q ∈ L1, q ∈ L := by
    intro vs
    induction vs with
    | nil => intro _; exact ⟨[], rfl, fun q hq => (by cases hq)⟩
    | cons v vs ih =>
      intro hv
      obtain ⟨q, hq, e⟩ := hv v List.mem_cons_self
      obtain ⟨L1, e1, hs⟩ := ih fun u hu => hv u (List.mem_cons_of_mem _ hu)
      refine ⟨q :: L1, by rw [List.map_cons, e, e1], fun r hr => ?_⟩
      rcases List.mem_cons.mp hr with z | z
      · rw [z]; exact hq
      · exact hs r z
  have one : ∀ q ∈ L, ∀ r ∈ L, q.1 = r.1 → q = r := fun q hq r hr e => by
    have a1 := (R.key q hq).1
    have a2 := (R.key r hr).1
    rw [e] at a1
    exact Prod.ext e (NestedIs.inj _ _ _ a1 a2)
  obtain ⟨L1, e1, hs1⟩ := ord vs fun v hv => by
    obtain ⟨q, hq, e⟩ := List.mem_map.mp (pm.mem_iff.mp hv)
    exact ⟨q, hq, e.symm⟩
  have p1 : L1.Perm L := by
    rw [e1] at pm
    have nL : L.Nodup := nodup_map R.nd
    have nref : (L.map fun q => Value.ref q.1).Nodup := by
      refine List.pairwise_map.mpr (List.Pairwise.imp_of_mem (fun {q r} hq hr hne e => ?_) nL)
      injection e with e
      exact hne (one q hq r hr e)
    have n1 : L1.Nodup := nodup_map (pm.nodup_iff.mpr nref)
    refine (List.perm_ext_iff_of_nodup n1 nL).mpr fun q => ⟨hs1 q, fun hq => ?_⟩
    have hm : Value.ref q.1 ∈ L1.map (fun q => Value.ref q.1) := pm.mem_iff.mpr (List.mem_map.mpr ⟨q, hq, rfl⟩)
    obtain ⟨r, hr, e⟩ := List.mem_map.mp hm
    injection e with e
    rw [← one r (hs1 r hr) q hq e]
    exact hr
  have hvl : vs.length < 64 := by rw [e1, List.length_map, p1.length_eq]; exact hfew
  refine wpAny_bind (wpAny_newList ?_ (by rw [sizeLine_eq]; omega))
  have hoL : (s1.heap.push (seqObj "list" vs.toArray 0)).get? s1.heap.objs.size = some (seqObj "list" vs.toArray 0) := Heap.get?_push_size _ rfl
  have rdAll : ∀ q ∈ L1, ∃ as, PySem.Reads (s1.heap.push (seqObj "list" vs.toArray 0)) (.ref q.1) q.2.data as ∧ s1.heap.objs.size ∉ as := fun q hq => by
    obtain ⟨as, r⟩ := hr q (hs1 q hq)
    refine ⟨as, PyProof.Rows.Reads.keeps (fun b u e => Heap.get?_push_of_some _ (k1 b u e)) r, fun hm => ?_⟩
    obtain ⟨u, hu⟩ := PyProof.On.reads_mem_get r _ hm
    exact absurd (Heap.lt_size (k1 _ _ hu)) (Nat.lt_irrefl _)
  have er : ∀ M : NL, (∀ q ∈ M, q ∈ L1) → PySem.W.EachIs (fun (v : Value) (p : Addr × NestedKey) => ∃ as, PySem.Reads (s1.heap.push (seqObj "list" vs.toArray 0)) v p.2.data as ∧ s1.heap.objs.size ∉ as) (M.map fun p => Value.ref p.1) M := by
    intro M
    induction M with
    | nil => intro _; exact .nil
    | cons q M ih => intro hM; exact .cons (rdAll q (hM q List.mem_cons_self)) (ih fun r hr => hM r (List.mem_cons_of_mem _ hr))
  have hal : PySem.W.AllAlike (L1.map fun p => p.2.data) := fun d hd e he => by
    obtain ⟨q, hq, rfl⟩ := List.mem_map.mp hd
    obtain ⟨r, hr, rfl⟩ := List.mem_map.mp he
    exact alikeK_at ha (List.mem_map.mpr ⟨q, hs1 q hq, rfl⟩) (List.mem_map.mpr ⟨r, hs1 r hr, rfl⟩)
  have hab : PySem.W.Sortable (L1.map fun p => p.2.data) := .inl fun d hd => by
    obtain ⟨q, hq, rfl⟩ := List.mem_map.mp hd
    obtain ⟨k, r, e⟩ := hne q (hs1 q hq)
    rw [e]
    exact ⟨k.data, NestedKey.datas r, rfl⟩
  refine wpAny_bind (wpAny_holding (PySem.W.list_sort_data (s := { s1 with heap := s1.heap.push (seqObj "list" vs.toArray 0) }) (R := fun v p => v = Value.ref p.1) (enc := fun p : Addr × NestedKey => p.2.data) (bs := L1) hoL (by rw [e1]; exact eachRef L1) (by
      have := er L1 fun q hq => hq
      rw [← e1] at this
      exact this) hal hab (by rw [p1.length_eq, sizeLine_eq]; omega) (fun q hq => by
      have h1 := hdp q (hs1 q hq)
      have h2 : A.in1.units + 1 + 8 < cLine := by
        have h3 : A.in1.units + 1 + 8 ≤ A.units + 20 := by simp
        omega
      show A.in1.units + 1 + q.2.data.depth < cLine
      omega) fun out a1 a2 => ?_))
  obtain ⟨c, hc⟩ := sortedHeap_at (vs := vs) (out := out.toArray) hoL
  have eo := eachRef_of a2
  have pp := List.mergeSort_perm L1 (PySem.W.dataLe false fun p : Addr × NestedKey => p.2.data)
  have pw : (L1.mergeSort (PySem.W.dataLe false fun p : Addr × NestedKey => p.2.data)).Pairwise fun x y => leK x.2 y.2 = true := PySem.W.sort_pairwise (PySem.W.sortLe_total _ _ _) L1
  refine wpAny_pure ⟨_, rfl, hQ _ s1.heap.objs.size out.toArray c _ (fun b u e => ?_) g1 o1 hz hc (by simpa using eo) (pp.trans p1) (List.pairwise_map.mpr pw)⟩
  have q := k1 b u e
  have hlt := Heap.lt_size q
  show (sortedHeap (s1.heap.push (seqObj "list" vs.toArray 0)) s1.heap.objs.size vs out.toArray).get? b = some u
  rw [sortedHeap_old (Nat.ne_of_lt hlt) (by rw [size_push']; exact Nat.lt_succ_of_lt hlt)]
  exact Heap.get?_push_of_some _ q
end
end RB
set_option Elab.async false
set_option linter.all false
set_option maxRecDepth 100000
set_option maxHeartbeats 3200000
set_option autoImplicit false
/-! DSet5: the rule for sorted(set(xs)). -/
namespace RB
open PySem PySem.Spec L2
/-- the set at a, without the keys themselves -/
structure SetN0 (w : World) (h : Heap) (a : Addr) (L : NL) : Prop where
  ex : ∃ (es : Array (Int × Value)) (ep : Nat) (t : SetTable), (∃ o, h.get? a = some o ∧ o.ExactSet ∧ o.data = .set es ep t) ∧ es.toList = rowsN w L ∧ TabOk t (L.map fun p => p.2.hash w) ∧ (L.map (·.2)).Nodup ∧
    (w.params.followText "set-order" = true ∨ t.led = true) ∧ L.length * 5 < t.mask * 3 ∧ L.length < 64
def SetNO (w : World) (a : Addr) (L : NL) : HO := .ext fun h => SetN0 w h a L
theorem SetN.t0 {w : World} {h : Heap} {a : Addr} {L : NL} {es : Array (Int × Value)} {ep : Nat} {t : SetTable} (R : SetN w h a L es ep t) : SetN0 w h a L := ⟨es, ep, t, R.ob, R.rows, R.tab, R.nd, R.led, R.room, R.few⟩
theorem SetN0.full {w : World} {h : Heap} {a : Addr} {L : NL} (R : SetN0 w h a L) (hk : ∀ p ∈ L, IsN h p.2 p.1) : ∃ es ep t, SetN w h a L es ep t := by
  obtain ⟨es, ep, t, h1, h2, h3, h4, h6, h7, h8⟩ := R.ex
  exact ⟨es, ep, t, h1, h2, h3, h4, hk, h6, h7, h8⟩
theorem setNO_new {P : Program} {w : World} {H : Hp} {h : Heap} {a : Addr} {L : NL} (R : SetN0 w h a L) : ObjOk P w H h a (SetNO w a L) := by
  have ⟨es, ep, t, ⟨o, ho, r⟩, q⟩ := R.ex
  refine ⟨R, ⟨o, ho⟩, fun h1 h2 p k => ?_⟩
  have ⟨es', ep', t', ⟨o', ho', r'⟩, q'⟩ := SetN0.ex p
  exact ⟨es', ep', t', ⟨o', k o' ho', r'⟩, q'⟩
section
variable {X : Cx} {pins : List (Addr × Obj)} {σ : L2.St} {H I : Hp} {s : Shared}
mutual
theorem nested_of (J : Inv X pins σ H s) (e : Same I H) : ∀ (d : D) (k : NestedKey) (v : V) (u : Value), keyOf d = some k → Dv I v d → RelV v u → NestedIs s.heap k u
  | .int i, _, _, _, h, .int _, r => by
    cases h
    obtain ⟨t, rfl⟩ := r
    exact .int i t
  | .str x, _, _, _, h, .str _, r => by
    cases h
    obtain ⟨t, rfl⟩ := r
    exact .text x t
  | .tuple xs, _, _, _, h, .tup ha hd, r => by
    unfold keyOf at h
    obtain ⟨ks, e1, rfl⟩ := map_some' h
    cases r
    obtain ⟨its, rv, ⟨o, ho, hc, n, hdat⟩, _⟩ := J.tuple (SqT.of (e _ _ ha))
    exact .tup ho hc hdat (by simpa using nesteds_of J e xs ks _ _ e1 hd rv)
  | .none, _, _, _, h, _, _ => by cases h
  | .bool _, _, _, _, h, _, _ => by cases h
  | .list _, _, _, _, h, _, _ => by cases h
  | .dict _, _, _, _, h, _, _ => by cases h
theorem nesteds_of (J : Inv X pins σ H s) (e : Same I H) : ∀ (ds : List D) (ks : List NestedKey) (vs : List V) (us : List Value), keysOf ds = some ks → DvAll I vs ds → Vals vs us → NestedAll s.heap ks us
  | [], _, _, _, h, .nil, .nil => by cases h; exact .nil
  | d :: r, _, _, _, h, .cons h1 h2, .cons r1 r2 => by
    unfold keysOf at h
    obtain ⟨k, e1, h⟩ := bind_some h
    obtain ⟨ks, e2, rfl⟩ := map_some' h
    exact .cons (nested_of J e d k _ _ e1 h1 r1) (nesteds_of J e r ks _ _ e2 h2 r2)
end
end
/-- keys that a set may hold and sorted may order -/
def setC (ks : List NestedKey) : Bool := (ks.all fun k => (match k with | .tup (_ :: _) => true | _ => false) && decide (k.depth ≤ 8) && decide (k.data.depth ≤ 8)) && decide ((dedupK ks).length < 64) && alikeK ks
theorem setC_at {ks : List NestedKey} (h : setC ks = true) {k : NestedKey} (hk : k ∈ ks) : (∃ x r, k = .tup (x :: r)) ∧ k.depth ≤ 8 ∧ k.data.depth ≤ 8 := by
  unfold setC at h
  simp only [Bool.and_eq_true, List.all_eq_true, decide_eq_true_eq] at h
  obtain ⟨⟨a, b⟩, c⟩ := h.1.1 k hk
  refine ⟨?_, b, c⟩
  split at a
  · exact ⟨_, _, rfl⟩
  · cases a
theorem setC_few {ks : List NestedKey} (h : setC ks = true) : (dedupK ks).length < 64 := by
  unfold setC at h
  simp only [Bool.and_eq_true, decide_eq_true_eq] at h
  exact h.1.2
theorem setC_alike {ks : List NestedKey} (h : setC ks = true) : alikeK ks = true := by
  unfold setC at h
  simp only [Bool.and_eq_true] at h
  exact h.2
/-- the list's addresses with their keys -/
theorem rows_of {I : Hp} : ∀ {vs : List V} {ds : List D} {ks : List NestedKey}, DvAll I vs ds → keysOf ds = some ks → (∀ k ∈ ks, ∃ x r, k = NestedKey.tup (x :: r)) → ∃ L : NL, vs = (L.map fun p => V.ref p.1) ∧ ks = L.map (·.2) ∧ ∀ p ∈ L, Dv I (.ref p.1) p.2.data ∧ keyOf p.2.data = some p.2
  | _, _, _, .nil, h, _ => by cases h; exact ⟨[], rfl, rfl, fun p hp => nomatch hp⟩
  | _, _, _, .cons (d := d) h1 h2, h, ht => by
    unfold keysOf at h
    obtain ⟨k, e1, h⟩ := bind_some h
    obtain ⟨ks, e2, rfl⟩ := map_some' h
    obtain ⟨L, rfl, rfl, hL⟩ := rows_of h2 e2 fun q hq => ht q (List.mem_cons_of_mem _ hq)
    have ed := data_keyOf e1
    obtain ⟨x, r, rfl⟩ := ht k List.mem_cons_self
    subst ed
    have ⟨a, xs, ev, _, _⟩ : ∃ a xs, _ = V.ref a ∧ I a = some (.tup xs) ∧ DvAll I xs _ := dv_tup h1
    subst ev
    refine ⟨(a, _) :: L, rfl, rfl, fun p hp => ?_⟩
    rcases List.mem_cons.mp hp with z | z
    · subst z; exact ⟨h1, e1⟩
    · exact hL p z
section
variable {X : Cx}
/-- set(xs), xs a list of keys -/
def rSetN (w : World) : List V → Hp → VK → Prop := fun xs H Q => ∃ (I : Hp) (l : Addr) (ks : NL), xs = [V.ref l] ∧ Same I H ∧ H l = some (.lst (ks.map fun p => V.ref p.1)) ∧ (∀ p ∈ ks, Dv I (.ref p.1) p.2.data ∧ keyOf p.2.data = some p.2) ∧ setC (ks.map (·.2)) = true ∧
  ∀ a L, H a = none → (∀ p ∈ L, p ∈ ks) → (∀ p ∈ ks, p.2 ∈ L.map (·.2)) → (L.map (·.2)).Nodup → Q (.ref a) (upd H a (SetNO w a L))
theorem vals_refN : ∀ {ks : NL} {us : List Value}, Vals (ks.map fun p => V.ref p.1) us → us = ks.map fun p => Value.ref p.1
  | [], _, .nil => rfl
  | p :: ks, _, .cons r t => by
    cases r
    rw [vals_refN t] <;> rfl
theorem refN_vals : ∀ (ks : NL), Vals (ks.map fun p => V.ref p.1) (ks.map fun p => Value.ref p.1)
  | [] => .nil
  | p :: ks => .cons rfl (refN_vals ks)
theorem cr_setN (hc : X.calm = true) (hu : X.A.units + 90 < cLine) : CallR X (.type "set") (rSetN X.w) := by
  intro pins s σ H xs us Q J r h
  obtain ⟨I, l, ks, rfl, hs, hl, hk, hf, q⟩ := h
  rw [Vals.ref1 r]
  obtain ⟨its, rv, pl, hz⟩ := J.list (SqL.of hl)
  have hn : H s.heap.objs.size = none := J.hok.fresh (Nat.le_refl _)
  refine call_setN (P := X.prog) (w := X.w) ks (J.ok.hd hc) pl.isList (by simpa using vals_refN rv) (fun p hp => ⟨nested_of J hs _ _ _ _ (hk p hp).2 (hk p hp).1 rfl, (setC_at hf (List.mem_map.mpr ⟨p, hp, rfl⟩)).2.1⟩) (setC_few hf) (by omega) fun h' tk L es ep t R g k => ?_
  refine ⟨.ref s.heap.objs.size, upd H s.heap.objs.size (SetNO X.w s.heap.objs.size L), J.laid (t' := tk) k (Nat.le_refl _) (setNO_new R.t0), rfl, q _ L hn (fun p hp => ?_) (fun p hp => ?_) R.nd⟩
  · exact List.mem_of_mem_take (g.sub p hp)
  · exact g.all p (by rw [List.take_length]; exact hp)
/-- sorted(set) -/
def rSortedN (w : World) : List V → Hp → VK → Prop := fun vs H Q => ∃ (I : Hp) (a : Addr) (L : NL), vs = [V.ref a] ∧ Same I H ∧ H a = some (SetNO w a L) ∧ (∀ p ∈ L, Dv I (.ref p.1) p.2.data ∧ keyOf p.2.data = some p.2) ∧ setC (L.map (·.2)) = true ∧ plainDs (L.map fun p => p.2.data) = true ∧
  ∀ (L' : NL) (p : Addr), L'.Perm L → (L'.map (·.2)).Pairwise (fun x y => leK x y = true) → H p = none → Q (.ref p) (upd H p (.lst (L'.map fun q => V.ref q.1)))
theorem plainDs_at : ∀ {ds : List D} {d : D}, plainDs ds = true → d ∈ ds → plainD d = true
  | e :: r, d, h, hd => by
    simp only [plainDs, Bool.and_eq_true] at h
    rcases List.mem_cons.mp hd with z | z
    · rw [z]; exact h.1
    · exact plainDs_at h.2 z
theorem cr_sortedN (hc : X.calm = true) (hu : X.A.units + 90 < cLine) : CallR X (.builtin "sorted") (rSortedN X.w) := by
  intro pins s σ H vs us Q J r h
  obtain ⟨I, a, L, rfl, hs, ha, hk, hC, hp, q⟩ := h
  have R0 : SetN0 X.w s.heap a L := (J.hok a _ ha).1
  obtain ⟨es, ep, t, R⟩ := R0.full fun p hp => ⟨nested_of J hs _ _ _ _ (hk p hp).2 (hk p hp).1 rfl, (setC_at hC (List.mem_map.mpr ⟨p, hp, rfl⟩)).2.1⟩
  rw [Vals.ref1 r]
  refine sorted_setN (P := X.prog) R (J.ok.hd hc) (by omega) (fun p hm => Dp.reads J _ (.ref p.1) _ (dp_of (dv_mono hs (hk p hm).1) (plainDs_at hp (List.mem_map.mpr ⟨p, hm, rfl⟩))) rfl) (setC_alike hC)
    (fun p hp => (setC_at hC (List.mem_map.mpr ⟨p, hp, rfl⟩)).1) (fun p hp => (setC_at hC (List.mem_map.mpr ⟨p, hp, rfl⟩)).2.2) fun s' p out c L' k g o hp' hg hout pm pw => ?_
  have hfew : L'.length < 64 := by rw [pm.length_eq]; exact R.few
  have hlen : (L'.map fun q => V.ref q.1).length ≤ sizeLine := by rw [List.length_map, sizeLine_eq]; omega
  have hn : H p = none := J.hok.fresh hp'
  have hv : Vals (L'.map fun q => V.ref q.1) out.toList := by rw [hout]; exact refN_vals L'
  have J' : Inv X pins σ (upd H p (.lst (L'.map fun q => V.ref q.1))) { s with heap := s'.heap, gens := s'.gens, drawn := s'.drawn, toks := s'.toks } :=
    J.call (ch := []) (Un.laid k hp' hn) (J.hok.laid k hp' ⟨hlen, out.toList, c, hv, hg⟩) (by rw [g]; exact J.bare) (fun _ z => nomatch z)
  have e : s' = { s with heap := s'.heap, gens := s'.gens, drawn := s'.drawn, toks := s'.toks } := by
    cases s'
    cases s
    cases o
    rfl
  rw [e]
  exact ⟨.ref p, _, J', rfl, q L' p pm pw hn⟩
def sortK (ks : List NestedKey) : List D := sortD ((dedupK ks).map NestedKey.data)
def sortSetE (f : FE) : FE := fun ρ => (f ρ).bind fun d => match d with
  | .list ds => (keysOf ds).bind fun ks => if setC ks = true ∧ plainDs ds = true then some (.list (sortK ks)) else none
  | _ => none
theorem plainDs_of : ∀ {ds : List D}, (∀ d ∈ ds, plainD d = true) → plainDs ds = true
  | [], _ => rfl
  | d :: r, h => by
    simp only [plainDs, Bool.and_eq_true]
    exact ⟨h d List.mem_cons_self, plainDs_of fun e he => h e (List.mem_cons_of_mem _ he)⟩
theorem dvs_refN {I : Hp} : ∀ (L : NL), (∀ p ∈ L, Dv I (.ref p.1) p.2.data) → DvAll I (L.map fun p => V.ref p.1) (L.map fun p => p.2.data)
  | [], _ => .nil
  | p :: L, h => .cons (h p List.mem_cons_self) (dvs_refN L fun q hq => h q (List.mem_cons_of_mem _ hq))
variable {pos p1 p2 p3 p4 : Pos} {a : Expr} {f : FE}
theorem de_sortSet (hc : X.calm = true) (hu : X.A.units + 90 < cLine) (hg : Gl X "sorted") (hm : X.mg "sorted" = none) (hg' : Gl X "set") (hm' : X.mg "set" = none) (ha : DE X a f)
    (hs1 : starEach [a] X.env = (false, eval a X.env) :: starEach [] X.env := by rfl) (hs2 : starEach [.Call (.Name "set" p2) [a] [] p3] X.env = (false, eval (.Call (.Name "set" p2) [a] [] p3) X.env) :: starEach [] X.env := by rfl) :
    DE X (.Call (.Name "sorted" p1) [.Call (.Name "set" p2) [a] [] p3] [] p4) (sortSetE f) := ⟨fun ρ d e I0 H0 => by
  obtain ⟨x, ex, e⟩ := bind_some e
  split at e
  · rename_i ds
    obtain ⟨ks, ek, e⟩ := bind_some e
    split at e
    · rename_i hC
      obtain ⟨hC, hP⟩ := hC
      cases e
      refine PE.imp (pe_callB (cr_sortedN hc hu) hg hm (by decide +kernel) (pa_cons (pe_callTy (cr_setN hc hu) hg' hm' (by decide +kernel) (pa_cons (ha.run ρ _ ex I0 H0) pa_nil hs1) (by decide) (by decide) hs1) pa_nil hs2) (by decide) (by decide) hs2) ?_
      intro σ H Q ⟨I, b, q⟩
      refine ⟨I, b, fun v H1 I1 s1 d1 => ?_⟩
      obtain ⟨l, vs, rfl, hl, hd⟩ := dv_lst d1
      obtain ⟨L, rfl, rfl, hL⟩ := rows_of hd ek fun k hk => (setC_at hC hk).1
      refine ⟨I1, l, L, rfl, s1.s, s1.s _ _ hl, hL, hC, fun S M hS sub all nd => ?_⟩
      have hMks : ∀ p ∈ M, p.2 ∈ L.map (·.2) := fun p hp => List.mem_map.mpr ⟨p, sub p hp, rfl⟩
      have s0 : Step I1 H1 I1 (upd H1 S (SetNO X.w S M)) := ⟨same_upd hS, Same.refl _, s1.s.trans (same_upd hS), fun _ h _ => h⟩
      have ed : ds = L.map fun p => p.2.data := by
        have := datas_keysOf ek
        rw [datas_map, List.map_map] at this
        exact this.symm
      have hCM : setC (M.map (·.2)) = true := by
        have c := hC
        unfold setC at c ⊢
        simp only [Bool.and_eq_true, List.all_eq_true, decide_eq_true_eq] at c ⊢
        refine ⟨⟨fun k hk => ?_, ?_⟩, ?_⟩
        · obtain ⟨p, hp, rfl⟩ := List.mem_map.mp hk
          exact c.1.1 _ (hMks p hp)
        · refine Nat.lt_of_le_of_lt (len_le_of_sub nodup_dedupK fun k hk => ?_) c.1.2
          obtain ⟨p, hp, rfl⟩ := List.mem_map.mp (mem_dedupK.mp hk)
          exact mem_dedupK.mpr (hMks p hp)
        · unfold alikeK
          rw [List.all_eq_true]
          intro x hx
          rw [List.all_eq_true]
          intro y hy
          obtain ⟨p, hp, rfl⟩ := List.mem_map.mp hx
          obtain ⟨q, hq, rfl⟩ := List.mem_map.mp hy
          exact alikeK_at c.2 (hMks p hp) (hMks q hq)
      refine ⟨I1, S, M, rfl, s0.s, upd_same, fun p hp => hL p (sub p hp), hCM, ?_, fun L' p pm pw hp => ?_⟩
      · refine plainDs_of fun d hd => ?_
        obtain ⟨p, hp, rfl⟩ := List.mem_map.mp hd
        exact plainDs_at hP (by rw [ed]; exact List.mem_map.mpr ⟨p, sub p hp, rfl⟩)
      · have pk : (L'.map (·.2)).Perm (dedupK (L.map (·.2))) := by
          refine (pm.map (·.2)).trans ((List.perm_ext_iff_of_nodup nd nodup_dedupK).mpr fun k => ⟨fun hk => ?_, fun hk => ?_⟩)
          · obtain ⟨p, hp, rfl⟩ := List.mem_map.mp hk
            exact mem_dedupK.mpr (hMks p hp)
          · obtain ⟨p, hp, rfl⟩ := List.mem_map.mp (mem_dedupK.mp hk)
            exact all p hp
        have eu := sorted_unique (setC_alike hC) (fun x hx => mem_dedupK.mp (pk.mem_iff.mp hx)) pk pw
        have es : L'.map (fun p => p.2.data) = sortK (L.map (·.2)) := by
          unfold sortK
          rw [← sortD_keys, ← eu, List.map_map]
          rfl
        have s2 := s1.trans s0
        have hd' : DvAll I1 (L'.map fun p => V.ref p.1) (sortK (L.map (·.2))) := by
          rw [← es]
          exact dvs_refN L' fun p hp => (hL p (sub p (pm.mem_iff.mp hp))).1
        exact q _ _ _ (s2.trans (Step.new s0.s hp)) (dv_newL (s0.s.free hp) hd')
    · cases e
  · cases e⟩
end
end RB
set_option Elab.async false
set_option linter.all false
set_option maxRecDepth 100000
set_option maxHeartbeats 2000000
set_option autoImplicit false
/-! DV8: movers over data: fields, methods, new ones. -/
namespace RB
open PySem PySem.Spec L2
def bkS : FS := fun ρ => some (.bk ρ)
/-- a mover of one of the classes cs -/
def movAt (cs : List Addr) : D → Option (Addr × Int × Int × Int)
  | .dict [(.int c, .tuple [.int i, .int j, .int k])] => if 0 ≤ c ∧ c.toNat ∈ cs then some (c.toNat, i, j, k) else none
  | _ => none
theorem movAt_some {cs : List Addr} {d : D} {C : Addr} {i j k : Int} (h : movAt cs d = some (C, i, j, k)) : d = movD C i j k ∧ C ∈ cs := by
  unfold movAt at h
  split at h
  · split at h
    · rename_i c _ _ _ hc
      cases h
      refine ⟨?_, hc.2⟩
      show _ = PyData.dict [(.int ((c.toNat : Nat) : Int), _)]
      rw [Int.toNat_of_nonneg hc.1]
    · cases h
  · cases h
theorem dv_mov {I : Hp} {v : V} {C : Addr} {i j k : Int} (h : Dv I v (movD C i j k)) : ∃ a dx, v = .ref a ∧ I a = some (.ins C dx (movF i j k)) := by
  generalize e : movD C i j k = d at h
  cases h with
  | mov h =>
    injection e with e
    injection e with e _
    injection e with e1 e2
    injection e1 with e1
    injection e2 with e2
    injection e2 with e3 e2
    injection e2 with e4 e2
    injection e2 with e5 _
    injection e3 with e3
    injection e4 with e4
    injection e5 with e5
    have : C = _ := Int.ofNat.inj e1
    subst this
    subst e3
    subst e4
    subst e5
    exact ⟨_, _, rfl, h⟩
  | _ => first | cases e | (injection e with e; injection e with e _; injection e with e1 _; cases e1)
def pickF : Nat → Int → Int → Int → Int
  | 0, i, _, _ => i
  | 1, _, j, _ => j
  | _, _, _, k => k
def fldE (cs : List Addr) (n : Nat) (g : FE) : FE := fun ρ => (g ρ).bind fun d => (movAt cs d).map fun m => .int (pickF n m.2.1 m.2.2.1 m.2.2.2)
def methE (cs : List Addr) (n : Nat) (G : List D → Option D) (f : FE) (fs : FA) : FE := fun ρ => (f ρ).bind fun d => (movAt cs d).bind fun _ => (fs ρ).bind fun ds => if ds.length + 1 = n then G (d :: ds) else none
/-- the movers' classes -/
structure MovT (K : KF) (cs : List Addr) : Prop where
  cl : ∀ C ∈ cs, Cls K C
  nx : ∀ C ∈ cs, NoAttr K C "dx"
  ny : ∀ C ∈ cs, NoAttr K C "dy"
  nm : ∀ C ∈ cs, NoAttr K C "most"
/-- the method m of all of them -/
def MethD (P : Program) (w : World) (K : KF) (mg : Str → Option Value) (base : Heap) (cs : List Addr) (k : Nat) (m : Str) (n : Nat) (g : List D → Option D) : Prop :=
  ∃ fa fd ps, FnOk P w K mg base CX0 k fa fd ps (spD n g) ∧ (∀ C ∈ cs, Meth K C m fa) ∧ Binds K fd ps []
section
variable {X : Cx} {pos apos p1 p2 p3 p4 : Pos} {a o : Expr} {f : FE} {fs gs : FA} {e : Expr} {es : List Expr} {cs : List Addr}
theorem de_fld (n : Nat) {x : Str} (T : ∀ C ∈ cs, Cls X.K C) (na : ∀ C ∈ cs, NoAttr X.K C x) (ha : DE X a f) (hl : ∀ i j k, (movF i j k).lookup x = some (.int (pickF n i j k)) := by intro i j k; rfl) (hb : attributeBase a x X.env (eval a X.env) = eval a X.env := by rfl) :
    DE X (.Attribute a x pos) (fldE cs n f) := ⟨fun ρ d q I0 H0 => by
  obtain ⟨z, ez, q⟩ := bind_some q
  obtain ⟨⟨C, i, j, k⟩, em, rfl⟩ := map_some' q
  obtain ⟨rfl, hC⟩ := movAt_some em
  exact PE.imp (pe_fld (ha.run ρ _ ez I0 H0) hb) fun σ H Q ⟨I, b, q⟩ => ⟨I, b, fun v H1 I1 s1 d1 => by
    obtain ⟨c, dx, rfl, hi⟩ := dv_mov d1
    exact ⟨c, C, dx, _, _, rfl, s1.s _ _ hi, T C hC, na C hC, hl i j k, q _ H1 I1 s1 (.int _)⟩⟩⟩
theorem de_meth {m : Str} {k n : Nat} {G : List D → Option D} {pl : Sem Bool} (M : MethD X.prog X.w X.K X.mg X.base cs k m n G) (T : ∀ C ∈ cs, Cls X.K C) (hr : Room k X.A) (ho : DE X o f) (ha : DA X (e :: es) fs) (hl : ∀ i j k, (movF i j k).lookup m = none := by intro i j k; rfl)
    (hst : starEach (e :: es) X.env = (false, eval e X.env) :: starEach es X.env := by rfl) (hpl : (backTo pos (starEach es X.env)).any (·.1) = false := by rfl)
    (ht : eval (.Call (.Attribute o m apos) (e :: es) [] pos) X.env = (do
      let ov ← eval o X.env
      standAt apos.atName
      let (f, first) ← holding [ov] (getMethod ov m pl)
      callWith pos f first (backTo pos (starEach (e :: es) X.env)) (backToKw pos (keywordEach [] X.env))) := by rfl) :
    DE X (.Call (.Attribute o m apos) (e :: es) [] pos) (methE cs n G f fs) := ⟨fun ρ d q I0 H0 => by
  obtain ⟨z, ez, q⟩ := bind_some q
  obtain ⟨⟨C, i, j, l⟩, em, q⟩ := bind_some q
  obtain ⟨rfl, hC⟩ := movAt_some em
  obtain ⟨ds, eds, q⟩ := bind_some q
  split at q
  · rename_i hn
    obtain ⟨fa, fd, ps, F, hM, hb⟩ := M
    refine PE.imp (pe_meth (pl := pl) (ho.run ρ _ ez I0 H0) (T C hC) (hM C hC) F hr hb .nil pass0 (ha.run ρ ds eds I0 H0) hst hpl ht) fun σ H Q ⟨I, b, z⟩ => ⟨I, b, fun v H1 I1 s1 d1 => ?_⟩
    obtain ⟨c, dx, rfl, hi⟩ := dv_mov d1
    refine ⟨c, dx, _, rfl, s1.s _ _ hi, hl i j l, I1, b.step s1, fun vs H2 I2 s2 d2 => ?_⟩
    show spD n G (V.ref c :: (vs ++ [])) H2 Q E0
    rw [List.append_nil]
    exact ⟨I2, movD C i j l :: ds, d, by rw [List.length_cons]; exact hn, s2.s, .cons (dv_mono s2.i d1) d2, q, fun v H' I' s3 d3 => z v H' I' ((s1.trans s2).trans s3) d3⟩
  · cases q⟩
/-- what Mover.__init__ does -/
def spInit (cs : List Addr) : Sp := fun vs H Q _ => ∃ (C p dx : Addr) (i j k : Int), vs = [.ref p, .int i, .int j, .int k] ∧ C ∈ cs ∧ H p = some (.ins C dx []) ∧ Q .non (upd H p (.ins C dx (movF i j k)))
def NewD (P : Program) (w : World) (K : KF) (mg : Str → Option Value) (base : Heap) (cs : List Addr) (x : Str) (C : Addr) : Prop :=
  ∃ fa fd ps, Mk K C fa ∧ FnOk P w K mg base CX0 1 fa fd ps (spInit cs) ∧ mg x = some (.ref C) ∧ Binds K fd ps []
def newE (C : Addr) (f : FA) : FE := fun ρ => (f ρ).bind fun ds => match ds with
  | [.int i, .int j, .int k] => some (movD C i j k)
  | _ => none
theorem de_new {x : Str} {C : Addr} (N : NewD X.prog X.w X.K X.mg X.base cs x C) (hC : C ∈ cs) (hr : Room 2 X.A) (hg : Gl X x) (ha : DA X (e :: es) fs)
    (hdb : (x == ("__debug__" : Str)) = false := by decide) (he : starEach (e :: es) X.env = (false, eval e X.env) :: starEach es X.env := by rfl) (hpl : (backTo pos (starEach es X.env)).any (·.1) = false := by rfl) : DE X (.Call (.Name x p1) (e :: es) [] pos) (newE C fs) := ⟨fun ρ d q I0 H0 => by
  obtain ⟨ds, eds, q⟩ := bind_some q
  split at q
  · rename_i i j k
    cases q
    obtain ⟨fa, fd, ps, M, F, hm, hb⟩ := N
    refine PE.imp (pe_make M F hr hg hm hb .nil pass0 (ha.run ρ _ eds I0 H0) hdb he hpl) fun σ H Q ⟨I, b, z⟩ => ⟨I, b, fun vs H1 I1 s1 d1 => ?_⟩
    intro y dx hy hdx hne
    cases d1 with
    | cons e1 d1 => cases d1 with
      | cons e2 d1 => cases d1 with
        | cons e3 d1 =>
          cases d1
          cases e1
          cases e2
          cases e3
          have s2 : Step I1 H1 I1 (upd H1 dx (.own y)) := ⟨same_upd hdx, Same.refl _, s1.s.trans (same_upd hdx), fun _ h _ => h⟩
          have hy2 : (upd H1 dx (HO.own y)) y = none := by rw [upd_ne (Ne.symm hne)]; exact hy
          refine ⟨C, y, dx, i, j, k, rfl, hC, upd_same, rfl, ?_⟩
          have e : upd (upd (upd H1 dx (HO.own y)) y (HO.ins C dx [])) y (HO.ins C dx (movF i j k)) = upd (upd H1 dx (HO.own y)) y (HO.ins C dx (movF i j k)) := by
            funext q
            by_cases hq : q = y
            · subst hq; rw [upd_same, upd_same]
            · rw [upd_ne hq, upd_ne hq, upd_ne hq]
          rw [e]
          exact z _ _ _ ((s1.trans s2).trans (Step.new s2.s hy2)) (.mov upd_same)
  · cases q⟩
end
section
variable {P : Program} {w : World} {K : KF} {mg : Str → Option Value} {base : Heap} {cs : List Addr}
abbrev s_init : Stmt := inClass (top 16) 0
theorem sc_init : FnScope ["self", "dx", "dy", "most"] ["self", "dx", "dy", "most"] (defScope s_init) := ⟨rfl, rfl, rfl, by decide +kernel, rfl, by decide +kernel, by decide +kernel⟩
theorem ok_init {f : Addr} {fd : FuncData} {dvs : List V} (F : FunD K "__init__" "Mover.__init__" (defArgs s_init) (defBody s_init) (defScope s_init) dvs [] f fd) (T : MovT K cs) : FnOk P w K mg base CX0 1 f fd ["self", "dx", "dy", "most"] (spInit cs) := by
  refine F.ok (CX := CX0) sc_init (fun vs H Q E h => ?_) (fun cdv A outer s H vs Q E hr h => ?_)
  · obtain ⟨C, p, dx, i, j, k, rfl, _⟩ := h
    rfl
  · obtain ⟨C, p, dx, i, j, k, rfl, hC, hp, q⟩ := h
    refine ⟨_, PSs.nox (pss_cons (ps_fld (pv 0) (pv 1) rfl) (pss_cons (ps_fld (pv 0) (pv 2) rfl) (pss_one (ps_fld (pv 0) (pv 3) rfl)))), ?_⟩
    refine ⟨_, rfl, _, rfl, p, C, dx, [], rfl, hp, T.cl C hC, T.nx C hC, by decide, ?_⟩
    refine ⟨_, rfl, _, rfl, p, C, dx, _, rfl, upd_same, T.cl C hC, T.ny C hC, (by show 1 < 1000; decide), ?_⟩
    refine ⟨_, rfl, _, rfl, p, C, dx, _, rfl, upd_same, T.cl C hC, T.nm C hC, (by show 2 < 1000; decide), ?_⟩
    have e : ∀ (fs gs hs : List (Str × V)), upd (upd (upd H p (HO.ins C dx fs)) p (HO.ins C dx gs)) p (HO.ins C dx hs) = upd H p (HO.ins C dx hs) := fun fs gs hs => by
      funext q
      by_cases hq : q = p
      · subst hq; rw [upd_same, upd_same]
      · rw [upd_ne hq, upd_ne hq, upd_ne hq, upd_ne hq]
    rw [e]
    have e2 : putF "most" (.int k) (putF "dy" (.int j) (putF "dx" (.int i) [])) = movF i j k := by rfl
    rw [e2]
    exact q
end
end RB
set_option Elab.async false
set_option linter.all false
set_option maxRecDepth 100000
set_option maxHeartbeats 4000000
set_option autoImplicit false
/-! printed by gen.py: defs over data -/
namespace RB
open PySem PySem.Spec L2
abbrev s_square_at : Stmt := top 13
abbrev N_square_at : List Str := ["board", "column", "row", "spot"]
def g_square_at : FS := (seqS (ifS [] (orT (notT (chainT dLe dLt (litE (.int 0)) (varE 1) (binE dAt (varE 0) (litE (.int 0))))) (notT (chainT dLe dLt (litE (.int 0)) (varE 2) (binE dAt (varE 0) (litE (.int 1)))))) (retS [] (litE .none)) nilS)
    (seqS (asgS 3 [] (binE dAdd (binE dMul (varE 2) (binE dAt (varE 0) (litE (.int 0)))) (varE 1)))
    (seqS (ifS [] (binT dEq (binE dAnd (binE dShr (binE dAt (varE 0) (litE (.int 2))) (varE 3)) (litE (.int 1))) (litE (.int 1))) (retS [] (litE .none)) nilS)
    (retS [] (varE 3)))))
def m_square_at : List D → Option D := semD 4 g_square_at
theorem sc_square_at : FnScope N_square_at ["board", "column", "row"] (defScope s_square_at) := ⟨rfl, rfl, rfl, by decide +kernel, rfl, by decide +kernel, by decide +kernel⟩
theorem ok_square_at {P : Program} {w : World} {K : KF} {mg : Str → Option Value} {base : Heap} (T : Txt K w mg) {f : Addr} {fd : FuncData} (F : FnP K "square_at" s_square_at f fd) : FnOk P w K mg base CX0 1 f fd ["board", "column", "row"] (spD 3 m_square_at) := by
  refine okFn (N := N_square_at) (g := g_square_at) F sc_square_at rfl (fun cdv A outer s H E hr => ?_)
  exact (dss_cons (ds_if [] (DW.dt (dw_or (dt_not (dt_chain opd_le opd_lt de_int (de_var 1) (de_sub (de_var 0) de_int))) (dw_or1 (dt_not (dt_chain opd_le opd_lt de_int (de_var 2) (de_sub (de_var 0) de_int)))))) (dss_one (ds_ret [] de_non)) dss_nil)
      (dss_cons (ds_set 3 [] sc_square_at.nd (de_bin opd_add (de_bin opd_mul (de_var 2) (de_sub (de_var 0) de_int)) (de_var 1)))
      (dss_cons (ds_if [] (dt_cmp (opd_eq hr.units) (de_bin opd_and (de_bin opd_shr (de_sub (de_var 0) de_int) (de_var 3)) de_int) de_int (nomark _)) (dss_one (ds_ret [] de_non)) dss_nil)
      (dss_one (ds_ret [] (de_var 3))))))
abbrev s_ahead : Stmt := inClass (top 16) 1
abbrev N_ahead : List Str := ["self", "board", "at"]
def g_ahead (cs : List Addr) : FS := (retS [] (callD 3 m_square_at (consA (varE 1) (consA (binE dAdd (binE dMod (varE 2) (binE dAt (varE 1) (litE (.int 0)))) (fldE cs 0 (varE 0))) (consA (binE dAdd (binE dFdiv (varE 2) (binE dAt (varE 1) (litE (.int 0)))) (fldE cs 1 (varE 0))) nilA)))))
def m_ahead (cs : List Addr) : List D → Option D := semD 3 (g_ahead cs)
theorem sc_ahead : FnScope N_ahead ["self", "board", "at"] (defScope s_ahead) := ⟨rfl, rfl, rfl, by decide +kernel, rfl, by decide +kernel, by decide +kernel⟩
theorem ok_ahead {P : Program} {w : World} {K : KF} {mg : Str → Option Value} {base : Heap} {cs : List Addr} (T : Txt K w mg) (M : MovT K cs) (C_square_at : CallD P w K mg base 1 "square_at" 3 m_square_at) {f : Addr} {fd : FuncData} (F : FunD K "ahead" "Mover.ahead" (defArgs s_ahead) (defBody s_ahead) (defScope s_ahead) [] [] f fd) : FnOk P w K mg base CX0 2 f fd ["self", "board", "at"] (spD 3 (m_ahead cs)) := by
  refine okFn (N := N_ahead) (g := g_ahead cs) F sc_ahead rfl (fun cdv A outer s H E hr => ?_)
  exact (dss_one (ds_ret [] (de_call C_square_at (hr.mono (by decide)) (by rfl) (da_cons (de_var 1) (da_cons (de_bin opd_add (de_bin opd_mod (de_var 2) (de_sub (de_var 1) de_int)) (de_fld 0 M.cl M.nx (de_var 0))) (da_cons (de_bin opd_add (de_bin opd_fdiv (de_var 2) (de_sub (de_var 1) de_int)) (de_fld 1 M.cl M.ny (de_var 0))) da_nil))))))
abbrev s_goes_on : Stmt := inClass (top 16) 2
abbrev N_goes_on : List Str := ["self", "line"]
def g_goes_on (cs : List Addr) : FS := (retS [] (orE (binE dEq (fldE cs 2 (varE 0)) (litE (.int 0))) (binE dLe (callE gLen (consA (varE 1) nilA)) (fldE cs 2 (varE 0)))))
def m_goes_on (cs : List Addr) : List D → Option D := semD 2 (g_goes_on cs)
theorem sc_goes_on : FnScope N_goes_on ["self", "line"] (defScope s_goes_on) := ⟨rfl, rfl, rfl, by decide +kernel, rfl, by decide +kernel, by decide +kernel⟩
theorem ok_goes_on {P : Program} {w : World} {K : KF} {mg : Str → Option Value} {base : Heap} {cs : List Addr} (T : Txt K w mg) (M : MovT K cs) {f : Addr} {fd : FuncData} (F : FunD K "goes_on" "Mover.goes_on" (defArgs s_goes_on) (defBody s_goes_on) (defScope s_goes_on) [] [] f fd) : FnOk P w K mg base CX0 1 f fd ["self", "line"] (spD 2 (m_goes_on cs)) := by
  refine okFn (N := N_goes_on) (g := g_goes_on cs) F sc_goes_on rfl (fun cdv A outer s H E hr => ?_)
  exact (dss_one (ds_ret [] (de_or (de_cmp (opd_eq hr.units) (de_fld 2 M.cl M.nm (de_var 0)) de_int (nomark _)) (de_one (de_cmp opd_le (de_callB (cld_len) (by rfl) T.len (by decide +kernel) (da_cons (de_var 1) da_nil)) (de_fld 2 M.cl M.nm (de_var 0)) (nomark _))))))
abbrev s_leap : Stmt := inClass (top 17) 0
abbrev N_leap : List Str := ["self", "board", "full", "at", "to"]
def g_leap (cs : List Addr) : FS := (seqS (asgS 4 [] (methE cs 3 (m_ahead cs) (varE 0) (consA (varE 1) (consA (varE 3) nilA))))
    (seqS (ifS [] (binT dIs (varE 4) (litE .none)) (retS [] (lstE nilA)) nilS)
    (retS [] (lstE (consA (lstE (consA (varE 3) (consA (varE 4) nilA))) nilA)))))
def m_leap (cs : List Addr) : List D → Option D := semD 5 (g_leap cs)
theorem sc_leap : FnScope N_leap ["self", "board", "full", "at"] (defScope s_leap) := ⟨rfl, rfl, rfl, by decide +kernel, rfl, by decide +kernel, by decide +kernel⟩
theorem ok_leap {P : Program} {w : World} {K : KF} {mg : Str → Option Value} {base : Heap} {cs : List Addr} (T : Txt K w mg) (M : MovT K cs) (C_ahead : MethD P w K mg base cs 2 "ahead" 3 (m_ahead cs)) {f : Addr} {fd : FuncData} (F : FunD K "lines" "Leap.lines" (defArgs s_leap) (defBody s_leap) (defScope s_leap) [] [] f fd) : FnOk P w K mg base CX0 3 f fd ["self", "board", "full", "at"] (spD 4 (m_leap cs)) := by
  refine okFn (N := N_leap) (g := g_leap cs) F sc_leap rfl (fun cdv A outer s H E hr => ?_)
  exact (dss_cons (ds_set 4 [] sc_leap.nd (de_meth C_ahead M.cl (hr.mono (by decide)) (de_var 0) (da_cons (de_var 1) (da_cons (de_var 3) da_nil))))
      (dss_cons (ds_if [] (dt_cmp opd_is (de_var 4) de_non (nomark _)) (dss_one (ds_ret [] (de_lst da_nil))) dss_nil)
      (dss_one (ds_ret [] (de_lst (da_cons (de_lst (da_cons (de_var 3) (da_cons (de_var 4) da_nil))) da_nil))))))
abbrev s_ride : Stmt := inClass (top 18) 0
abbrev N_ride : List Str := ["self", "board", "full", "at", "found", "line", "to"]
def g_ride (cs : List Addr) : FS := (seqS (ownS 4 [] nilA)
    (seqS (asgS 5 [] (lstE (consA (varE 3) nilA)))
    (seqS (loopW (tstT (methE cs 2 (m_goes_on cs) (varE 0) (consA (varE 5) nilA))) (seqS (asgS 6 [] (methE cs 3 (m_ahead cs) (varE 0) (consA (varE 1) (consA (binE dAt (varE 5) (unE dNeg (litE (.int 1)))) nilA))))
    (seqS (ifS [] (binT dIs (varE 6) (litE .none)) bkS nilS)
    (seqS (asgS 5 [] (binE dAdd (varE 5) (lstE (consA (varE 6) nilA))))
    (seqS (appS 4 [] (varE 5))
    (ifS [] (binT dEq (binE dAnd (binE dShr (varE 2) (varE 6)) (litE (.int 1))) (litE (.int 1))) bkS nilS))))) 1000)
    (retS [4] (varE 4)))))
def m_ride (cs : List Addr) : List D → Option D := semD 7 (g_ride cs)
theorem sc_ride : FnScope N_ride ["self", "board", "full", "at"] (defScope s_ride) := ⟨rfl, rfl, rfl, by decide +kernel, rfl, by decide +kernel, by decide +kernel⟩
theorem ok_ride {P : Program} {w : World} {K : KF} {mg : Str → Option Value} {base : Heap} {cs : List Addr} (T : Txt K w mg) (M : MovT K cs) (C_goes_on : MethD P w K mg base cs 1 "goes_on" 2 (m_goes_on cs)) (C_ahead : MethD P w K mg base cs 2 "ahead" 3 (m_ahead cs)) {f : Addr} {fd : FuncData} (F : FunD K "lines" "Ride.lines" (defArgs s_ride) (defBody s_ride) (defScope s_ride) [] [] f fd) : FnOk P w K mg base CX0 3 f fd ["self", "board", "full", "at"] (spD 4 (m_ride cs)) := by
  refine okFn (N := N_ride) (g := g_ride cs) F sc_ride rfl (fun cdv A outer s H E hr => ?_)
  exact (dss_cons (ds_own 4 [] sc_ride.nd da_nil)
      (dss_cons (ds_set 5 [] sc_ride.nd (de_lst (da_cons (de_var 3) da_nil)))
      (dss_cons (ds_while 1000 (dt_val (de_meth C_goes_on M.cl (hr.mono (by decide)) (de_var 0) (da_cons (de_var 5) da_nil))) (dss_cons (ds_set 6 [] sc_ride.nd (de_meth C_ahead M.cl (hr.mono (by decide)) (de_var 0) (da_cons (de_var 1) (da_cons (de_sub (de_var 5) (de_neg de_int)) da_nil))))
      (dss_cons (ds_if [] (dt_cmp opd_is (de_var 6) de_non (nomark _)) (dss_one ds_break) dss_nil)
      (dss_cons (ds_set 5 [] sc_ride.nd (de_bin opd_add (de_var 5) (de_lst (da_cons (de_var 6) da_nil))))
      (dss_cons (ds_append 4 [] (de_var 5))
      (dss_one (ds_if [] (dt_cmp (opd_eq hr.units) (de_bin opd_and (de_bin opd_shr (de_var 2) (de_var 6)) de_int) de_int (nomark _)) (dss_one ds_break) dss_nil)))))))
      (dss_one (ds_ret [4] (de_var 4))))))
abbrev s_hop : Stmt := inClass (top 19) 0
abbrev N_hop : List Str := ["self", "board", "full", "at", "found", "line", "over", "to"]
def g_hop (cs : List Addr) : FS := (seqS (ownS 4 [] nilA)
    (seqS (asgS 5 [] (lstE (consA (varE 3) nilA)))
    (seqS (asgS 6 [] (litE (.int 0)))
    (seqS (loopW (andT (binT dLt (varE 6) (litE (.int 2))) (tstT (methE cs 2 (m_goes_on cs) (varE 0) (consA (varE 5) nilA)))) (seqS (asgS 7 [] (methE cs 3 (m_ahead cs) (varE 0) (consA (varE 1) (consA (binE dAt (varE 5) (unE dNeg (litE (.int 1)))) nilA))))
    (seqS (ifS [] (binT dIs (varE 7) (litE .none)) bkS nilS)
    (seqS (asgS 5 [] (binE dAdd (varE 5) (lstE (consA (varE 7) nilA))))
    (seqS (ifS [] (binT dEq (varE 6) (litE (.int 1))) (appS 4 [] (varE 5)) nilS)
    (asgS 6 [] (binE dAdd (varE 6) (binE dAnd (binE dShr (varE 2) (varE 7)) (litE (.int 1))))))))) 1000)
    (retS [4] (varE 4))))))
def m_hop (cs : List Addr) : List D → Option D := semD 8 (g_hop cs)
theorem sc_hop : FnScope N_hop ["self", "board", "full", "at"] (defScope s_hop) := ⟨rfl, rfl, rfl, by decide +kernel, rfl, by decide +kernel, by decide +kernel⟩
theorem ok_hop {P : Program} {w : World} {K : KF} {mg : Str → Option Value} {base : Heap} {cs : List Addr} (T : Txt K w mg) (M : MovT K cs) (C_goes_on : MethD P w K mg base cs 1 "goes_on" 2 (m_goes_on cs)) (C_ahead : MethD P w K mg base cs 2 "ahead" 3 (m_ahead cs)) {f : Addr} {fd : FuncData} (F : FunD K "lines" "Hop.lines" (defArgs s_hop) (defBody s_hop) (defScope s_hop) [] [] f fd) : FnOk P w K mg base CX0 3 f fd ["self", "board", "full", "at"] (spD 4 (m_hop cs)) := by
  refine okFn (N := N_hop) (g := g_hop cs) F sc_hop rfl (fun cdv A outer s H E hr => ?_)
  exact (dss_cons (ds_own 4 [] sc_hop.nd da_nil)
      (dss_cons (ds_set 5 [] sc_hop.nd (de_lst (da_cons (de_var 3) da_nil)))
      (dss_cons (ds_set 6 [] sc_hop.nd de_int)
      (dss_cons (ds_while 1000 (DW.dt (dw_and (dt_cmp opd_lt (de_var 6) de_int (nomark _)) (dw_and1 (dt_val (de_meth C_goes_on M.cl (hr.mono (by decide)) (de_var 0) (da_cons (de_var 5) da_nil)))))) (dss_cons (ds_set 7 [] sc_hop.nd (de_meth C_ahead M.cl (hr.mono (by decide)) (de_var 0) (da_cons (de_var 1) (da_cons (de_sub (de_var 5) (de_neg de_int)) da_nil))))
      (dss_cons (ds_if [] (dt_cmp opd_is (de_var 7) de_non (nomark _)) (dss_one ds_break) dss_nil)
      (dss_cons (ds_set 5 [] sc_hop.nd (de_bin opd_add (de_var 5) (de_lst (da_cons (de_var 7) da_nil))))
      (dss_cons (ds_if [] (dt_cmp (opd_eq hr.units) (de_var 6) de_int (nomark _)) (dss_one (ds_append 4 [] (de_var 5))) dss_nil)
      (dss_one (ds_set 6 [] sc_hop.nd (de_bin opd_add (de_var 6) (de_bin opd_and (de_bin opd_shr (de_var 2) (de_var 7)) de_int)))))))))
      (dss_one (ds_ret [4] (de_var 4)))))))
abbrev s_mover : Stmt := top 20
abbrev N_mover : List Str := ["word", "dx", "dy", "most"]
def g_mover (CL CR CH : Addr) : FS := (seqS (ifS [] (binT dEq (varE 0) (litE (.str "leap"))) (retS [] (newE CL (consA (varE 1) (consA (varE 2) (consA (varE 3) nilA))))) nilS)
    (seqS (ifS [] (binT dEq (varE 0) (litE (.str "ride"))) (retS [] (newE CR (consA (varE 1) (consA (varE 2) (consA (varE 3) nilA))))) nilS)
    (retS [] (newE CH (consA (varE 1) (consA (varE 2) (consA (varE 3) nilA)))))))
def m_mover (CL CR CH : Addr) : List D → Option D := semD 4 (g_mover CL CR CH)
theorem sc_mover : FnScope N_mover ["word", "dx", "dy", "most"] (defScope s_mover) := ⟨rfl, rfl, rfl, by decide +kernel, rfl, by decide +kernel, by decide +kernel⟩
theorem ok_mover {P : Program} {w : World} {K : KF} {mg : Str → Option Value} {base : Heap} {cs : List Addr} {CL CR CH : Addr} (T : Txt K w mg) (hCL : CL ∈ cs) (hCR : CR ∈ cs) (hCH : CH ∈ cs) (N_Leap : NewD P w K mg base cs "Leap" CL) (N_Ride : NewD P w K mg base cs "Ride" CR) (N_Hop : NewD P w K mg base cs "Hop" CH) {f : Addr} {fd : FuncData} {dvs : List V} (F : FunD K "mover" "mover" (defArgs s_mover) (defBody s_mover) (defScope s_mover) dvs [] f fd) : FnOk P w K mg base CX0 3 f fd ["word", "dx", "dy", "most"] (spD 4 (m_mover CL CR CH)) := by
  refine okFn (N := N_mover) (g := g_mover CL CR CH) F sc_mover rfl (fun cdv A outer s H E hr => ?_)
  exact (dss_cons (ds_if [] (dt_cmp (opd_eq hr.units) (de_var 0) de_str (nomark _)) (dss_one (ds_ret [] (de_new N_Leap hCL (hr.mono (by decide)) (by rfl) (da_cons (de_var 1) (da_cons (de_var 2) (da_cons (de_var 3) da_nil)))))) dss_nil)
      (dss_cons (ds_if [] (dt_cmp (opd_eq hr.units) (de_var 0) de_str (nomark _)) (dss_one (ds_ret [] (de_new N_Ride hCR (hr.mono (by decide)) (by rfl) (da_cons (de_var 1) (da_cons (de_var 2) (da_cons (de_var 3) da_nil)))))) dss_nil)
      (dss_one (ds_ret [] (de_new N_Hop hCH (hr.mono (by decide)) (by rfl) (da_cons (de_var 1) (da_cons (de_var 2) (da_cons (de_var 3) da_nil))))))))
end RB
set_option Elab.async false
set_option linter.all false
set_option maxRecDepth 100000
set_option maxHeartbeats 2000000
set_option autoImplicit false
/-! EV: reckoning with meanings: rules for simp. -/
namespace RB
open PySem PySem.Spec L2
/-! ### slots -/
section
variable {i : Nat} {s : SD} {r ρ : Sl} {d : D} {ds : List D}
@[simp] theorem varE_im : varE 0 (.im d :: r) = some d := rfl
@[simp] theorem varE_ow : varE 0 (.ow ds :: r) = none := rfl
@[simp] theorem varE_no : varE 0 (.no :: r) = none := rfl
@[simp] theorem varE_succ : varE (i + 1) (s :: r) = varE i r := rfl
@[simp] theorem ownE_im : ownE 0 (.im d :: r) = some d := rfl
@[simp] theorem ownE_ow : ownE 0 (.ow ds :: r) = some (.list ds) := rfl
@[simp] theorem ownE_succ : ownE (i + 1) (s :: r) = ownE i r := rfl
@[simp] theorem frz_nil : frz [] ρ = ρ := rfl
@[simp] theorem frz_cons {is : List Nat} : frz (i :: is) ρ = frz is (frz1 i ρ) := rfl
@[simp] theorem frz1_im : frz1 0 (.im d :: r) = .im d :: r := rfl
@[simp] theorem frz1_no : frz1 0 (.no :: r) = .no :: r := rfl
@[simp] theorem frz1_ow : frz1 0 (.ow ds :: r) = .im (.list ds) :: r := rfl
@[simp] theorem frz1_succ : frz1 (i + 1) (s :: r) = s :: frz1 i r := by
  show (match (s :: r)[i + 1]? with | some (.ow ds) => (s :: r).set (i + 1) (.im (.list ds)) | _ => s :: r) = s :: (match r[i]? with | some (.ow ds) => r.set i (.im (.list ds)) | _ => r)
  rw [List.getElem?_cons_succ]
  cases r[i]? with
  | none => rfl
  | some x => cases x <;> rfl
@[simp] theorem wipeS_nil : wipeS ρ [] = ρ := rfl
@[simp] theorem wipeS_cons {is : List Nat} : wipeS ρ (i :: is) = (wipeS ρ is).set i .no := rfl
@[simp] theorem start0_eq {N : Nat} : start0 N ds = ds.map .im ++ List.replicate (N - ds.length) .no := rfl
@[simp] theorem semD_eq {N : Nat} {g : FS} : semD N g ds = (g (start0 N ds)).bind fun o => match o with
  | .rt d => some d
  | .nx _ => some .none
  | _ => none := rfl
end
/-! ### expressions -/
section
variable {ρ : Sl} {f g h k : FE} {t u : FT} {fs gs : FA} {G G' : D → D → Option D} {is : List Nat} {i n : Nat} {a b : FS} {fi : FI} {tg : Tg} {d : D} {ds : List D}
@[simp] theorem litE_eq : litE d ρ = some d := rfl
@[simp] theorem binE_eq : binE G f g ρ = (f ρ).bind fun x => (g ρ).bind fun y => G x y := rfl
@[simp] theorem unE_eq {G : D → Option D} : unE G f ρ = (f ρ).bind G := rfl
@[simp] theorem asB_bool {b : Bool} : asB (.bool b) = some b := rfl
@[simp] theorem asI_int {i : Int} : asI (.int i) = some i := rfl
@[simp] theorem tstT_eq : tstT f ρ = (f ρ).bind asB := rfl
@[simp] theorem binT_eq : binT G f g ρ = ((f ρ).bind fun x => (g ρ).bind fun y => G x y).bind asB := rfl
@[simp] theorem andT_eq : andT t u ρ = (t ρ).bind fun b => if b = true then u ρ else some false := rfl
@[simp] theorem orT_eq : orT t u ρ = (t ρ).bind fun b => if b = true then some true else u ρ := rfl
@[simp] theorem notT_eq : notT t ρ = (t ρ).map fun b => !b := rfl
@[simp] theorem andE_eq : andE f g ρ = (tstT f ρ).bind fun b => if b = true then g ρ else some (.bool false) := rfl
@[simp] theorem orE_eq : orE f g ρ = (tstT f ρ).bind fun b => if b = true then some (.bool true) else g ρ := rfl
@[simp] theorem notE_eq : notE f ρ = (tstT f ρ).map fun b => .bool (!b) := rfl
@[simp] theorem nilA_eq : nilA ρ = some [] := rfl
@[simp] theorem consA_eq : consA f fs ρ = (f ρ).bind fun d => (fs ρ).map fun ds => d :: ds := rfl
@[simp] theorem lineA_eq : lineA fs ρ = (fs ρ).bind fun ds => if ds.length ≤ sizeLine then some ds else none := rfl
@[simp] theorem tupE_eq : tupE fs ρ = (lineA fs ρ).map .tuple := rfl
@[simp] theorem lstE_eq : lstE fs ρ = (lineA fs ρ).map .list := rfl
@[simp] theorem callE_eq {G : List D → Option D} : callE G fs ρ = (fs ρ).bind G := rfl
@[simp] theorem noneO_eq : noneO ρ = some none := rfl
@[simp] theorem someO_eq : someO f ρ = (f ρ).bind fun d => (asI d).map some := rfl
@[simp] theorem slE_eq {l h : FO} {G : D → Option Int → Option Int → Option D} : slE f l h G ρ = (f ρ).bind fun d => (l ρ).bind fun a => (h ρ).bind fun b => G d a b := rfl
@[simp] theorem chainT_eq : chainT G G' f g h ρ = (f ρ).bind fun x => (g ρ).bind fun y => (G x y).bind fun z => (asB z).bind fun b =>
  if b = true then (h ρ).bind fun w => (G' y w).bind asB else some false := rfl
@[simp] theorem callD_eq {G : List D → Option D} : callD n G fs ρ = (fs ρ).bind fun ds => if ds.length = n then G ds else none := rfl
@[simp] theorem lenOwnE_eq : lenOwnE i ρ = (ownE i ρ).bind fun d => gLen [d] := rfl
def strL (G : Str → Option D) : D → Option D
  | .str z => G z
  | _ => none
@[simp] theorem strL_str {G : Str → Option D} {z : Str} : strL G (.str z) = G z := rfl
@[simp] theorem mE_eq {G : Str → Option D} : mE G f ρ = (f ρ).bind (strL G) := by
  unfold mE
  cases f ρ with
  | none => rfl
  | some d => cases d <;> rfl
@[simp] theorem isStrE_eq : isStrE f ρ = (f ρ).bind (strL fun _ => some (.bool true)) := by
  unfold isStrE
  cases f ρ with
  | none => rfl
  | some d => cases d <;> rfl
@[simp] theorem yesT_eq : yesT ρ = some true := rfl
@[simp] theorem seqI_eq : seqI f ρ = (f ρ).bind seqD := rfl
@[simp] theorem seqD_list : seqD (.list ds) = some ds := rfl
@[simp] theorem seqD_tuple : seqD (.tuple ds) = some ds := rfl
@[simp] theorem seqD_str {z : Str} : seqD (.str z) = some (signsD z) := rfl
@[simp] theorem enumI_eq : enumI f ρ = (f ρ).bind enumD := rfl
@[simp] theorem enumD_list : enumD (.list ds) = some (enumFrom 0 ds) := rfl
@[simp] theorem enumD_str {z : Str} : enumD (.str z) = some (enumFrom 0 (signsD z)) := rfl
@[simp] theorem rng1I_eq : rng1I f ρ = ((f ρ).bind asI).bind fun j => if smallI j = true then some (rngD 0 j.toNat) else none := rfl
@[simp] theorem rng2I_eq : rng2I f g ρ = ((f ρ).bind asI).bind fun i => ((g ρ).bind asI).bind fun j => if smallI i = true ∧ smallI j = true then some (rngD i (j - i).toNat) else none := rfl
@[simp] theorem compE_eq {own : List Nat} : compE own tg fi t f ρ = (fi ρ).bind fun ds => if ds.length ≤ sizeLine then (loopC tg t f (wipeS ρ own) ds).map .list else none := rfl
/-! ### statements -/
@[simp] theorem nilS_eq : nilS ρ = some (.nx ρ) := rfl
@[simp] theorem bkS_eq : bkS ρ = some (.bk ρ) := rfl
@[simp] theorem stuckS_eq : stuckS ρ = none := rfl
@[simp] theorem asgS_eq : asgS i is f ρ = (f (frz is ρ)).map fun d => .nx ((frz is ρ).set i (.im d)) := rfl
@[simp] theorem ownS_eq : ownS i is fs ρ = (lineA fs (frz is ρ)).map fun ds => .nx ((frz is ρ).set i (.ow ds)) := rfl
@[simp] theorem unpS_eq : unpS tg is f ρ = (f (frz is ρ)).bind fun d => (tg.s d (frz is ρ)).map .nx := rfl
@[simp] theorem retS_eq : retS is f ρ = (f (frz is ρ)).map .rt := rfl
@[simp] theorem ifS_eq : ifS is t a b ρ = (t (frz is ρ)).bind fun k => if k = true then a (frz is ρ) else b (frz is ρ) := rfl
@[simp] theorem forS_eq : forS tg is fi a ρ = (fi (frz is ρ)).bind fun ds => loopF tg a ds (frz is ρ) := rfl
theorem seqS_nx {ρ' : Sl} (h : a ρ = some (.nx ρ')) : seqS a b ρ = b ρ' := by unfold seqS; rw [h]; rfl
theorem seqS_rt {d : D} (h : a ρ = some (.rt d)) : seqS a b ρ = some (.rt d) := by unfold seqS; rw [h]; rfl
theorem seqS_bk {ρ' : Sl} (h : a ρ = some (.bk ρ')) : seqS a b ρ = some (.bk ρ') := by unfold seqS; rw [h]; rfl
@[simp] theorem seqS_eq : seqS a b ρ = (a ρ).bind fun o => match o with
  | .nx ρ' => b ρ'
  | o => some o := rfl
@[simp] theorem appS_eq : appS i is f ρ = (f (frz is ρ)).bind fun d => match (frz is ρ)[i]? with
  | some (.ow ds) => if ds.length < sizeLine then some (.nx ((frz is ρ).set i (.ow (ds ++ [d])))) else none
  | _ => none := rfl
@[simp] theorem extS_eq : extS i is f ρ = (f (frz is ρ)).bind fun d => match (frz is ρ)[i]?, d with
  | some (.ow ds), .list zs => if ds.length + zs.length ≤ sizeLine then some (.nx ((frz is ρ).set i (.ow (ds ++ zs)))) else none
  | _, _ => none := rfl
@[simp] theorem tg_nm : (Tg.nm i).s d ρ = some (ρ.set i (.im d)) := rfl
@[simp] theorem tg_tp : (Tg.tp is).s (.tuple ds) ρ = setN is ds ρ := rfl
@[simp] theorem setN_nil : setN [] [] ρ = some ρ := rfl
@[simp] theorem setN_cons : setN (i :: is) (d :: ds) ρ = setN is ds (ρ.set i (.im d)) := rfl
end
/-! ### operators -/
section
variable {i j : Int} {x y : Str} {ds es : List D} {c : Bool}
@[simp] theorem dAdd_int : dAdd (.int i) (.int j) = some (.int (i + j)) := rfl
@[simp] theorem dSub_int : dSub (.int i) (.int j) = some (.int (i - j)) := rfl
@[simp] theorem dAnd_int : dAnd (.int i) (.int j) = some (.int (Builtin.bitAnd i j)) := rfl
@[simp] theorem dOr_int : dOr (.int i) (.int j) = some (.int (Builtin.bitOr i j)) := rfl
@[simp] theorem dNeg_int : dNeg (.int i) = some (.int (-i)) := rfl
@[simp] theorem dLt_int : dLt (.int i) (.int j) = some (.bool (decide (i < j))) := rfl
@[simp] theorem dLe_int : dLe (.int i) (.int j) = some (.bool (decide (i ≤ j))) := rfl
@[simp] theorem dGt_int : dGt (.int i) (.int j) = some (.bool (decide (j < i))) := rfl
@[simp] theorem dGe_int : dGe (.int i) (.int j) = some (.bool (decide (j ≤ i))) := rfl
@[simp] theorem dFdiv_eq : dFdiv (.int i) (.int j) = if 0 < j ∧ j < 1073741824 then some (.int (i / j)) else none := rfl
@[simp] theorem dMod_eq : dMod (.int i) (.int j) = if 0 < j then some (.int (i % j)) else none := rfl
@[simp] theorem dMul_eq : dMul (.int i) (.int j) = if i.natAbs.log2 + j.natAbs.log2 < 100000000 then some (.int (i * j)) else none := rfl
@[simp] theorem dShr_eq : dShr (.int i) (.int j) = if 0 ≤ j then some (.int (i / 2 ^ j.toNat)) else none := rfl
@[simp] theorem dShl_eq : dShl (.int i) (.int j) = if 0 ≤ j ∧ j ≤ 1000000 ∧ i.natAbs < 2 ^ 64 then some (.int (i * 2 ^ j.toNat)) else none := rfl
@[simp] theorem dAdd_str : dAdd (.str x) (.str y) = if x.length + y.length ≤ sizeLine then some (.str (x ++ y)) else none := rfl
@[simp] theorem dAdd_list : dAdd (.list ds) (.list es) = if ds.length + es.length ≤ sizeLine then some (.list (ds ++ es)) else none := rfl
@[simp] theorem dIs_none : dIs .none .none = some (.bool true) := rfl
@[simp] theorem dIs_int : dIs (.int i) .none = some (.bool false) := rfl
@[simp] theorem dIs_tup : dIs (.tuple ds) .none = some (.bool false) := rfl
@[simp] theorem dIs_str : dIs (.str x) .none = some (.bool false) := rfl
@[simp] theorem dIsNot_none : dIsNot .none .none = some (.bool false) := rfl
@[simp] theorem dIsNot_int : dIsNot (.int i) .none = some (.bool true) := rfl
@[simp] theorem dIsNot_tup : dIsNot (.tuple ds) .none = some (.bool true) := rfl
@[simp] theorem gLen_list : gLen [.list ds] = some (.int ds.length) := rfl
@[simp] theorem gLen_tuple : gLen [.tuple ds] = some (.int ds.length) := rfl
@[simp] theorem gLen_str : gLen [.str x] = if x.length ≤ sizeLine then some (.int x.length) else none := rfl
@[simp] theorem gTuple_list : gTuple [.list ds] = some (.tuple ds) := rfl
@[simp] theorem gList_list : gList [.list ds] = some (.list ds) := rfl
@[simp] theorem gList_tuple : gList [.tuple ds] = some (.list ds) := rfl
@[simp] theorem gInt_bool : gInt [.bool c] = some (.int (if c then 1 else 0)) := rfl
@[simp] theorem gAbs_int : gAbs [.int i] = some (.int (if i < 0 then -i else i)) := rfl
@[simp] theorem gMin_int : gMin [.int i, .int j] = some (.int (if j < i then j else i)) := rfl
@[simp] theorem okD_int : okD (.int i) = true := by simp [okD, plainD, SeqAt.shaped, PyData.canLay0, PyData.depth]
@[simp] theorem okD_bool : okD (.bool c) = true := by simp [okD, plainD, SeqAt.shaped, PyData.canLay0, PyData.depth]
@[simp] theorem okD_none : okD .none = true := by simp [okD, plainD, SeqAt.shaped, PyData.canLay0, PyData.depth]
theorem okD_str_eq : okD (.str x) = PyData.strOk x := by simp [okD, plainD, SeqAt.shaped, PyData.canLay0, PyData.depth]
@[simp] theorem okD_str (h : PyData.strOk x = true) : okD (.str x) = true := okD_str_eq.trans h
@[simp] theorem dEq_int : dEq (.int i) (.int j) = some (.bool (decide (i = j))) := by simp [dEq, PyData.eqv]; rfl
@[simp] theorem dNe_int : dNe (.int i) (.int j) = some (.bool (decide (i ≠ j))) := by simp [dNe, PyData.eqv]; rfl
@[simp] theorem dEq_str (hx : PyData.strOk x = true) (hy : PyData.strOk y = true) : dEq (.str x) (.str y) = some (.bool (decide (x = y))) := by
  simp [dEq, PyData.eqv, hx, hy]; rfl
@[simp] theorem dNe_str (hx : PyData.strOk x = true) (hy : PyData.strOk y = true) : dNe (.str x) (.str y) = some (.bool (decide (x ≠ y))) := by
  simp [dNe, PyData.eqv, hx, hy]; rfl
@[simp] theorem dEq_bool {b : Bool} : dEq (.bool c) (.bool b) = some (.bool (decide (c = b))) := by simp [dEq, PyData.eqv]; rfl
theorem movAt_mem {cs : List Addr} {C : Addr} {i j k : Int} (h : C ∈ cs) : movAt cs (movD C i j k) = some (C, i, j, k) := by simp [movAt, movD, h]
@[simp] theorem fldE_eq {cs : List Addr} {n : Nat} {f : FE} {ρ : Sl} : fldE cs n f ρ = (f ρ).bind fun d => (movAt cs d).map fun m => .int (pickF n m.2.1 m.2.2.1 m.2.2.2) := rfl
@[simp] theorem methE_eq {cs : List Addr} {n : Nat} {G : List D → Option D} {f : FE} {fs : FA} {ρ : Sl} : methE cs n G f fs ρ = (f ρ).bind fun d => (movAt cs d).bind fun _ => (fs ρ).bind fun ds => if ds.length + 1 = n then G (d :: ds) else none := rfl
def newL (C : Addr) : List D → Option D
  | [.int i, .int j, .int k] => some (movD C i j k)
  | _ => none
@[simp] theorem newL_eq {C : Addr} {i j k : Int} : newL C [.int i, .int j, .int k] = some (movD C i j k) := rfl
@[simp] theorem newE_eq {C : Addr} {fs : FA} {ρ : Sl} : newE C fs ρ = (fs ρ).bind (newL C) := rfl
@[simp] theorem pickF0 {i j k : Int} : pickF 0 i j k = i := rfl
@[simp] theorem pickF1 {i j k : Int} : pickF 1 i j k = j := rfl
@[simp] theorem pickF2 {i j k : Int} : pickF 2 i j k = k := rfl
end
/-! ### ifs -/
section
variable {α β : Type} {c : Prop} [Decidable c] {x y : Option α}
@[simp] theorem bind_ite {k : α → Option β} : (if c then x else y).bind k = if c then x.bind k else y.bind k := by split <;> rfl
@[simp] theorem map_ite {k : α → β} : (if c then x else y).map k = if c then x.map k else y.map k := by split <;> rfl
theorem some_ite {a b : α} : (if c then some a else some b) = some (if c then a else b) := by split <;> rfl
end
/-! ### subscripts -/
section
variable {a b c d e f g : D} {r ds : List D}
@[simp] theorem atT0 : dAt (.tuple (a :: r)) (.int 0) = some a := by simp [dAt, atI, ixN]
@[simp] theorem atT1 : dAt (.tuple (a :: b :: r)) (.int 1) = some b := by simp [dAt, atI, ixN]; omega
@[simp] theorem atT2 : dAt (.tuple (a :: b :: c :: r)) (.int 2) = some c := by simp [dAt, atI, ixN]; omega
@[simp] theorem atT3 : dAt (.tuple (a :: b :: c :: d :: r)) (.int 3) = some d := by simp [dAt, atI, ixN]; omega
@[simp] theorem atT4 : dAt (.tuple (a :: b :: c :: d :: e :: r)) (.int 4) = some e := by simp [dAt, atI, ixN]; omega
@[simp] theorem atT5 : dAt (.tuple (a :: b :: c :: d :: e :: f :: r)) (.int 5) = some f := by simp [dAt, atI, ixN]; omega
@[simp] theorem atT6 : dAt (.tuple (a :: b :: c :: d :: e :: f :: g :: r)) (.int 6) = some g := by simp [dAt, atI, ixN]; omega
end
theorem sizeLine_big : 1000000 ≤ sizeLine := by rw [sizeLine_eq]; decide
@[simp] theorem sl0 : 0 ≤ sizeLine := Nat.zero_le _
/-! ### words -/
@[simp] theorem ok_leap_ : PyData.strOk "leap" = true := by decide +kernel
@[simp] theorem ok_ride_ : PyData.strOk "ride" = true := by decide +kernel
@[simp] theorem ok_hop_ : PyData.strOk "hop" = true := by decide +kernel
@[simp] theorem ok_one_ : PyData.strOk "one" = true := by decide +kernel
@[simp] theorem ok_wide_ : PyData.strOk "wide" = true := by decide +kernel
@[simp] theorem ok_all_ : PyData.strOk "all" = true := by decide +kernel
@[simp] theorem ok_both_ : PyData.strOk "both" = true := by decide +kernel
@[simp] theorem ok_go_ : PyData.strOk "go" = true := by decide +kernel
@[simp] theorem ok_take_ : PyData.strOk "take" = true := by decide +kernel
@[simp] theorem ok_pass_ : PyData.strOk "pass" = true := by decide +kernel
@[simp] theorem ok_pair_ : PyData.strOk "pair" = true := by decide +kernel
@[simp] theorem ok_empty_ : PyData.strOk "" = true := by decide +kernel
@[simp] theorem ok_dot_ : PyData.strOk "." = true := by decide +kernel
@[simp] theorem ok_hash_ : PyData.strOk "#" = true := by decide +kernel
@[simp] theorem ok_eq_ : PyData.strOk "=" = true := by decide +kernel
@[simp] theorem ok_x_ : PyData.strOk "x" = true := by decide +kernel
@[simp] theorem ok_amp_ : PyData.strOk "&" = true := by decide +kernel
@[simp] theorem ne_leap_ride : ¬ (("leap" : Str) = "ride") := by decide +kernel
@[simp] theorem ne_ride_leap : ¬ (("ride" : Str) = "leap") := by decide +kernel
@[simp] theorem ne_leap_hop : ¬ (("leap" : Str) = "hop") := by decide +kernel
@[simp] theorem ne_hop_leap : ¬ (("hop" : Str) = "leap") := by decide +kernel
@[simp] theorem ne_ride_hop : ¬ (("ride" : Str) = "hop") := by decide +kernel
@[simp] theorem ne_hop_ride : ¬ (("hop" : Str) = "ride") := by decide +kernel
theorem mover_leap (CL CR CH : Addr) (i j k : Int) : m_mover CL CR CH [.str "leap", .int i, .int j, .int k] = some (movD CL i j k) := by
  simp [m_mover, g_mover]
theorem mover_ride (CL CR CH : Addr) (i j k : Int) : m_mover CL CR CH [.str "ride", .int i, .int j, .int k] = some (movD CR i j k) := by
  simp [m_mover, g_mover]
theorem mover_hop (CL CR CH : Addr) (i j k : Int) : m_mover CL CR CH [.str "hop", .int i, .int j, .int k] = some (movD CH i j k) := by
  simp [m_mover, g_mover]
end RB
set_option Elab.async false
set_option linter.all false
set_option maxRecDepth 100000
set_option maxHeartbeats 2000000
set_option autoImplicit false
/-! DV9: mover(..).lines(..); the table of marks. -/
namespace RB
open PySem PySem.Spec L2
/-- d is what lines gives, whatever the classes' places -/
inductive LinesR : List D → D → Prop
  | leap {i j k : Int} {rest : List D} {d : D} : rest.length = 3 → (∀ cs C, C ∈ cs → m_leap cs (movD C i j k :: rest) = some d) → LinesR (.str "leap" :: .int i :: .int j :: .int k :: rest) d
  | ride {i j k : Int} {rest : List D} {d : D} : rest.length = 3 → (∀ cs C, C ∈ cs → m_ride cs (movD C i j k :: rest) = some d) → LinesR (.str "ride" :: .int i :: .int j :: .int k :: rest) d
  | hop {i j k : Int} {rest : List D} {d : D} : rest.length = 3 → (∀ cs C, C ∈ cs → m_hop cs (movD C i j k :: rest) = some d) → LinesR (.str "hop" :: .int i :: .int j :: .int k :: rest) d
open Classical in
noncomputable def m_lines (xs : List D) : Option D := if h : ∃ d, LinesR xs d then some h.choose else none
theorem m_lines_some {xs : List D} {d : D} (h : m_lines xs = some d) : LinesR xs d := by
  unfold m_lines at h
  split at h
  · rename_i hd
    cases h
    exact hd.choose_spec
  · cases h
theorem LinesR.unique {xs : List D} {d e : D} (h : LinesR xs d) (g : LinesR xs e) : d = e := by
  have key : ∀ {f : List Addr → List D → Option D} {i j k : Int} {rest : List D}, (∀ cs C, C ∈ cs → f cs (movD C i j k :: rest) = some d) → (∀ cs C, C ∈ cs → f cs (movD C i j k :: rest) = some e) → d = e := fun h g => by
    have a := h [0] 0 (by decide)
    rw [g [0] 0 (by decide)] at a
    cases a; rfl
  generalize ex : xs = ys at g
  cases h with
  | leap _ h => cases g with
    | leap _ g => cases ex; exact key h g
    | ride _ g => exact absurd ((PyData.str.inj (List.cons.inj ex).1)) (by decide)
    | hop _ g => exact absurd ((PyData.str.inj (List.cons.inj ex).1)) (by decide)
  | ride _ h => cases g with
    | ride _ g => cases ex; exact key h g
    | leap _ g => exact absurd ((PyData.str.inj (List.cons.inj ex).1)) (by decide)
    | hop _ g => exact absurd ((PyData.str.inj (List.cons.inj ex).1)) (by decide)
  | hop _ h => cases g with
    | hop _ g => cases ex; exact key h g
    | leap _ g => exact absurd ((PyData.str.inj (List.cons.inj ex).1)) (by decide)
    | ride _ g => exact absurd ((PyData.str.inj (List.cons.inj ex).1)) (by decide)
theorem m_lines_of {xs : List D} {d : D} (h : LinesR xs d) : m_lines xs = some d := by
  unfold m_lines
  have hd : ∃ d, LinesR xs d := ⟨d, h⟩
  rw [dif_pos hd]
  exact congrArg some (hd.choose_spec.unique h)
noncomputable def linesE (f g : FA) : FE := fun ρ => (f ρ).bind fun xs => (g ρ).bind fun ys => if xs.length = 4 then m_lines (xs ++ ys) else none
def LinesOf (P : Program) (w : World) (K : KF) (mg : Str → Option Value) (base : Heap) (C : Addr) (g : List D → Option D) : Prop :=
  ∃ fa fd ps, FnOk P w K mg base CX0 3 fa fd ps (spD 4 g) ∧ Meth K C "lines" fa ∧ Binds K fd ps []
/-- mover and the three classes stand -/
def LinesD (P : Program) (w : World) (K : KF) (mg : Str → Option Value) (base : Heap) (k : Nat) : Prop := 3 ≤ k ∧ ∃ cs CL CR CH, MovT K cs ∧ CL ∈ cs ∧ CR ∈ cs ∧ CH ∈ cs ∧ CallD P w K mg base 3 "mover" 4 (m_mover CL CR CH) ∧
  LinesOf P w K mg base CL (m_leap cs) ∧ LinesOf P w K mg base CR (m_ride cs) ∧ LinesOf P w K mg base CH (m_hop cs)
theorem movAt_mov (C : Addr) (i j k : Int) : movAt [C] (movD C i j k) = some (C, i, j, k) := by
  unfold movAt movD
  simp
section
variable {X : Cx} {pos p1 p2 p3 p4 : Pos} {a : Expr} {f : FE} {fs gs : FA} {e e' : Expr} {es es' : List Expr}
theorem de_lines {k : Nat} {pl : Sem Bool} (L : LinesD X.prog X.w X.K X.mg X.base k) (hr : Room k X.A) (hg : Gl X "mover") (ha : DA X (e :: es) fs) (hb : DA X (e' :: es') gs)
    (he : starEach (e :: es) X.env = (false, eval e X.env) :: starEach es X.env := by rfl) (hpl : (backTo p2 (starEach es X.env)).any (·.1) = false := by rfl)
    (hst : starEach (e' :: es') X.env = (false, eval e' X.env) :: starEach es' X.env := by rfl) (hpl' : (backTo p4 (starEach es' X.env)).any (·.1) = false := by rfl)
    (ht : eval (.Call (.Attribute (.Call (.Name "mover" p1) (e :: es) [] p2) "lines" p3) (e' :: es') [] p4) X.env = (do
      let ov ← eval (.Call (.Name "mover" p1) (e :: es) [] p2) X.env
      standAt p3.atName
      let (f, first) ← holding [ov] (getMethod ov "lines" pl)
      callWith p4 f first (backTo p4 (starEach (e' :: es') X.env)) (backToKw p4 (keywordEach [] X.env))) := by rfl) :
    DE X (.Call (.Attribute (.Call (.Name "mover" p1) (e :: es) [] p2) "lines" p3) (e' :: es') [] p4) (linesE fs gs) := ⟨fun ρ d q I0 H0 => by
  obtain ⟨xs, ex, q⟩ := bind_some q
  obtain ⟨ys, ey, q⟩ := bind_some q
  split at q
  · rename_i hx
    obtain ⟨hk, cs, CL, CR, CH, M, hL, hR, hH, CM, mL, mR, mH⟩ := L
    have mk : DE X (.Call (.Name "mover" p1) (e :: es) [] p2) (callD 4 (m_mover CL CR CH) fs) := de_call CM (hr.mono hk) hg ha (by decide) he hpl
    have one : ∀ {C : Addr} {G : List D → Option D} {i j k : Int}, C ∈ cs → LinesOf X.prog X.w X.K X.mg X.base C G → m_mover CL CR CH xs = some (movD C i j k) → ys.length = 3 → G (movD C i j k :: ys) = some d → PE X (.Call (.Attribute (.Call (.Name "mover" p1) (e :: es) [] p2) "lines" p3) (e' :: es') [] p4) (rd I0 H0 ρ d) := by
      intro C G i j k hC ⟨fa, fd, ps, F, hM, hB⟩ h1 h2 h3
      have D1 : DE X (.Call (.Attribute (.Call (.Name "mover" p1) (e :: es) [] p2) "lines" p3) (e' :: es') [] p4) (methE [C] 4 G (callD 4 (m_mover CL CR CH) fs) gs) :=
        de_meth (pl := pl) (k := 3) ⟨fa, fd, ps, F, fun c hc => by rw [List.mem_singleton.mp hc]; exact hM, hB⟩ (fun c hc => by rw [List.mem_singleton.mp hc]; exact M.cl C hC) (hr.mono hk) mk hb (by intro i j k; rfl) hst hpl' ht
      refine D1.run ρ d ?_ I0 H0
      unfold methE callD
      rw [ex]
      show (((if xs.length = 4 then m_mover CL CR CH xs else none).bind _) : Option D) = some d
      rw [if_pos hx, h1]
      show ((movAt [C] (movD C i j k)).bind _ : Option D) = some d
      rw [movAt_mov]
      show ((gs ρ).bind _ : Option D) = some d
      rw [ey]
      show (if ys.length + 1 = 4 then G (movD C i j k :: ys) else none) = some d
      rw [if_pos (by omega), h3]
    have hl := m_lines_some q
    generalize ez : xs ++ ys = zs at hl
    have cut : ∀ {w : D} {i j k : Int} {rest : List D}, xs ++ ys = w :: .int i :: .int j :: .int k :: rest → xs = [w, .int i, .int j, .int k] ∧ ys = rest := by
      intro w i j k rest h
      match xs, hx with
      | [x1, x2, x3, x4], _ =>
        simp only [List.cons_append, List.nil_append, List.cons.injEq] at h
        obtain ⟨rfl, rfl, rfl, rfl, rfl⟩ := h
        exact ⟨rfl, rfl⟩
    cases hl with
    | leap h1 h2 =>
      obtain ⟨e1, e2⟩ := cut ez
      exact one hL mL (by rw [e1]; exact mover_leap ..) (by rw [e2]; exact h1) (by rw [e2]; exact h2 cs CL hL)
    | ride h1 h2 =>
      obtain ⟨e1, e2⟩ := cut ez
      exact one hR mR (by rw [e1]; exact mover_ride ..) (by rw [e2]; exact h1) (by rw [e2]; exact h2 cs CR hR)
    | hop h1 h2 =>
      obtain ⟨e1, e2⟩ := cut ez
      exact one hH mH (by rw [e1]; exact mover_hop ..) (by rw [e2]; exact h1) (by rw [e2]; exact h2 cs CH hH)
  · cases q⟩
def marks (z : Str) : Option Str := if z = "go" then some "" else if z = "take" then some "x" else if z = "pass" then some "x" else if z = "pair" then some "&" else none
def marksE (f : FE) : FE := fun ρ => (f ρ).bind fun d => match d with
  | .str z => (marks z).map .str
  | _ => none
theorem de_marks (M : MarksD X.K X.w X.mg) (hg : Gl X "MARKS") (ha : DE X a f) (hs : PlainIx a := by exact fun _ _ => rfl) : DE X (.Subscript (.Name "MARKS" p1) a p2) (marksE f) := ⟨fun ρ d q I0 H0 => by
  obtain ⟨z, ez, q⟩ := bind_some q
  split at q
  · rename_i z
    obtain ⟨y, ey, rfl⟩ := map_some' q
    obtain ⟨p, hm, k1, k2, k3, k4⟩ := M
    have kd : KDct X.K X.w p z (.str y) := by
      unfold marks at ey
      repeat (split at ey; (rename_i h; subst h; cases ey; assumption))
      cases ey
    refine PE.imp (pe_ix ix_kdict (pe_glob (v := .ref p) hg hm rfl) (ha.run ρ _ ez I0 H0) hs) fun σ H Q ⟨I, b, q⟩ => ?_
    exact ⟨I, b, fun v H1 I1 s1 d1 => ⟨p, z, .str y, rfl, dv_str d1, kd, q _ H1 I1 s1 (.str y)⟩⟩
  · cases q⟩
end
end RB
set_option Elab.async false
set_option linter.all false
set_option maxRecDepth 100000
set_option maxHeartbeats 4000000
set_option autoImplicit false
/-! printed by gen.py: defs over data -/
namespace RB
open PySem PySem.Spec L2
noncomputable section
abbrev s_squares_of : Stmt := top 11
abbrev N_squares_of : List Str := ["bits", "found", "spot"]
abbrev c_squares_of_1 : FT := (binT dGt (varE 0) (litE (.int 0)))
abbrev b_squares_of_2 : FS := (seqS (ifS [] (binT dEq (binE dAnd (varE 0) (litE (.int 1))) (litE (.int 1))) (appS 1 [] (varE 2)) nilS)
    (seqS (asgS 0 [] (binE dShr (varE 0) (litE (.int 1))))
    (asgS 2 [] (binE dAdd (varE 2) (litE (.int 1))))))
def g_squares_of : FS := (seqS (ownS 1 [] nilA)
    (seqS (asgS 2 [] (litE (.int 0)))
    (seqS (loopW c_squares_of_1 b_squares_of_2 1000)
    (retS [1] (varE 1)))))
def m_squares_of : List D → Option D := semD 3 g_squares_of
theorem sc_squares_of : FnScope N_squares_of ["bits"] (defScope s_squares_of) := ⟨rfl, rfl, rfl, by decide +kernel, rfl, by decide +kernel, by decide +kernel⟩
theorem ok_squares_of {P : Program} {w : World} {K : KF} {mg : Str → Option Value} {base : Heap} (T : Txt K w mg) {f : Addr} {fd : FuncData} (F : FnP K "squares_of" s_squares_of f fd) : FnOk P w K mg base CX0 1 f fd ["bits"] (spD 1 m_squares_of) := by
  refine okFn (N := N_squares_of) (g := g_squares_of) F sc_squares_of rfl (fun cdv A outer s H E hr => ?_)
  exact (dss_cons (ds_own 1 [] sc_squares_of.nd da_nil)
      (dss_cons (ds_set 2 [] sc_squares_of.nd de_int)
      (dss_cons (ds_while 1000 (dt_cmp opd_gt (de_var 0) de_int (nomark _)) (dss_cons (ds_if [] (dt_cmp (opd_eq hr.units) (de_bin opd_and (de_var 0) de_int) de_int (nomark _)) (dss_one (ds_append 1 [] (de_var 2))) dss_nil)
      (dss_cons (ds_set 0 [] sc_squares_of.nd (de_bin opd_shr (de_var 0) de_int))
      (dss_one (ds_set 2 [] sc_squares_of.nd (de_bin opd_add (de_var 2) de_int))))))
      (dss_one (ds_ret [1] (de_var 1))))))
abbrev s_bits_of : Stmt := top 12
abbrev N_bits_of : List Str := ["spots", "found", "spot"]
abbrev b_bits_of_1 : FS := (asgS 1 [] (binE dOr (varE 1) (binE dShl (litE (.int 1)) (varE 2))))
def g_bits_of : FS := (seqS (asgS 1 [] (litE (.int 0)))
    (seqS (forS (.nm 2) [] (seqI (varE 0)) b_bits_of_1)
    (retS [] (varE 1))))
def m_bits_of : List D → Option D := semD 3 g_bits_of
theorem sc_bits_of : FnScope N_bits_of ["spots"] (defScope s_bits_of) := ⟨rfl, rfl, rfl, by decide +kernel, rfl, by decide +kernel, by decide +kernel⟩
theorem ok_bits_of {P : Program} {w : World} {K : KF} {mg : Str → Option Value} {base : Heap} (T : Txt K w mg) {f : Addr} {fd : FuncData} (F : FnP K "bits_of" s_bits_of f fd) : FnOk P w K mg base CX0 1 f fd ["spots"] (spD 1 m_bits_of) := by
  refine okFn (N := N_bits_of) (g := g_bits_of) F sc_bits_of rfl (fun cdv A outer s H E hr => ?_)
  exact (dss_cons (ds_set 1 [] sc_bits_of.nd de_int)
      (dss_cons (ds_for (.nm 2) [] rfl (di_seq (de_var 0)) (pg_nm 2 sc_bits_of.nd) (dss_one (ds_set 1 [] sc_bits_of.nd (de_bin opd_or (de_var 1) (de_bin opd_shl de_int (de_var 2))))))
      (dss_one (ds_ret [] (de_var 1)))))
abbrev s_name_of : Stmt := top 14
abbrev N_name_of : List Str := ["board", "square"]
def g_name_of : FS := (retS [] (binE dAdd (binE dAt (litE (.str "abcdefgh")) (binE dMod (varE 1) (binE dAt (varE 0) (litE (.int 0))))) (binE dAt (litE (.str "12345678")) (binE dFdiv (varE 1) (binE dAt (varE 0) (litE (.int 0)))))))
def m_name_of : List D → Option D := semD 2 g_name_of
theorem sc_name_of : FnScope N_name_of ["board", "square"] (defScope s_name_of) := ⟨rfl, rfl, rfl, by decide +kernel, rfl, by decide +kernel, by decide +kernel⟩
theorem ok_name_of {P : Program} {w : World} {K : KF} {mg : Str → Option Value} {base : Heap} (T : Txt K w mg) {f : Addr} {fd : FuncData} (F : FnP K "name_of" s_name_of f fd) : FnOk P w K mg base CX0 1 f fd ["board", "square"] (spD 2 m_name_of) := by
  refine okFn (N := N_name_of) (g := g_name_of) F sc_name_of rfl (fun cdv A outer s H E hr => ?_)
  exact (dss_one (ds_ret [] (de_bin opd_add (de_sub (de_gstr' (by rfl) T.COLUMNS) (de_bin opd_mod (de_var 1) (de_sub (de_var 0) de_int))) (de_sub (de_gstr' (by rfl) T.ROWS) (de_bin opd_fdiv (de_var 1) (de_sub (de_var 0) de_int))))))
abbrev s_steps : Stmt := top 22
abbrev N_steps : List Str := ["way", "side", "found", "one", "other", "dx", "dy"]
abbrev b_steps_1 : FS := (extS 2 [] (lstE (consA (tupE (consA (varE 3) (consA (varE 4) nilA))) (consA (tupE (consA (binE dSub (litE (.int 0)) (varE 3)) (consA (varE 4) nilA))) (consA (tupE (consA (varE 3) (consA (binE dSub (litE (.int 0)) (varE 4)) nilA))) (consA (tupE (consA (binE dSub (litE (.int 0)) (varE 3)) (consA (binE dSub (litE (.int 0)) (varE 4)) nilA))) nilA))))))
abbrev e_steps_2 : FE := (tupE (consA (varE 5) (consA (binE dSub (litE (.int 0)) (varE 6)) nilA)))
def g_steps : FS := (seqS (ownS 2 [] (consA (tupE (consA (binE dAt (varE 0) (litE (.int 1))) (consA (binE dAt (varE 0) (litE (.int 2))) nilA))) nilA))
    (seqS (ifS [] (binT dEq (binE dAt (varE 0) (litE (.int 3))) (litE (.str "wide"))) (appS 2 [] (tupE (consA (binE dSub (litE (.int 0)) (binE dAt (varE 0) (litE (.int 1)))) (consA (binE dAt (varE 0) (litE (.int 2))) nilA)))) nilS)
    (seqS (ifS [] (binT dEq (binE dAt (varE 0) (litE (.int 3))) (litE (.str "all"))) (forS (.tp [3, 4]) [] (seqI (tupE (consA (tupE (consA (binE dAt (varE 0) (litE (.int 1))) (consA (binE dAt (varE 0) (litE (.int 2))) nilA))) (consA (tupE (consA (binE dAt (varE 0) (litE (.int 2))) (consA (binE dAt (varE 0) (litE (.int 1))) nilA))) nilA)))) b_steps_1) nilS)
    (seqS (ifS [] (binT dEq (varE 1) (litE (.int 1))) (asgS 2 [2] (compE [5, 6] (.tp [5, 6]) (seqI (varE 2)) yesT e_steps_2)) nilS)
    (retS [2] (sortSetE (varE 2)))))))
def m_steps : List D → Option D := semD 7 g_steps
theorem sc_steps : FnScope N_steps ["way", "side"] (defScope s_steps) := ⟨rfl, rfl, rfl, by decide +kernel, rfl, by decide +kernel, by decide +kernel⟩
theorem ok_steps {P : Program} {w : World} {K : KF} {mg : Str → Option Value} {base : Heap} (T : Txt K w mg) {f : Addr} {fd : FuncData} (F : FnP K "steps" s_steps f fd) : FnOk P w K mg base CX0 1 f fd ["way", "side"] (spD 2 m_steps) := by
  refine okFn (N := N_steps) (g := g_steps) F sc_steps rfl (fun cdv A outer s H E hr => ?_)
  exact (dss_cons (ds_own 2 [] sc_steps.nd (da_cons (de_tup (da_cons (de_sub (de_var 0) de_int) (da_cons (de_sub (de_var 0) de_int) da_nil))) da_nil))
      (dss_cons (ds_if [] (dt_cmp (opd_eq hr.units) (de_sub (de_var 0) de_int) de_str (nomark _)) (dss_one (ds_append 2 [] (de_tup (da_cons (de_bin opd_sub de_int (de_sub (de_var 0) de_int)) (da_cons (de_sub (de_var 0) de_int) da_nil))))) dss_nil)
      (dss_cons (ds_if [] (dt_cmp (opd_eq hr.units) (de_sub (de_var 0) de_int) de_str (nomark _)) (dss_one (ds_for (.tp [3, 4]) [] rfl (di_seq (de_tup (da_cons (de_tup (da_cons (de_sub (de_var 0) de_int) (da_cons (de_sub (de_var 0) de_int) da_nil))) (da_cons (de_tup (da_cons (de_sub (de_var 0) de_int) (da_cons (de_sub (de_var 0) de_int) da_nil))) da_nil)))) (pg_tp rfl (pgs_cn 3 sc_steps.nd (pgs_cn 4 sc_steps.nd pgs_nl))) (dss_one (ds_extend 2 [] (de_lst (da_cons (de_tup (da_cons (de_var 3) (da_cons (de_var 4) da_nil))) (da_cons (de_tup (da_cons (de_bin opd_sub de_int (de_var 3)) (da_cons (de_var 4) da_nil))) (da_cons (de_tup (da_cons (de_var 3) (da_cons (de_bin opd_sub de_int (de_var 4)) da_nil))) (da_cons (de_tup (da_cons (de_bin opd_sub de_int (de_var 3)) (da_cons (de_bin opd_sub de_int (de_var 4)) da_nil))) da_nil))))))))) dss_nil)
      (dss_cons (ds_if [] (dt_cmp (opd_eq hr.units) (de_var 1) de_int (nomark _)) (dss_one (ds_setC 2 [2] [("dx", 5), ("dy", 6)] (.tp [5, 6]) rfl sc_steps.nd (di_seq (de_var 2)) (blkOk_by (N := N_steps) (sc := defScope s_steps) (by decide +kernel)) (fun _ _ _ _ _ => (pg_tp rfl (pgs_cn 5 sc_steps.nd (pgs_cn 6 sc_steps.nd pgs_nl)))) (fun _ _ _ _ _ => dts_nil) (fun _ _ _ _ _ => (de_tup (da_cons (de_var 5) (da_cons (de_bin opd_sub de_int (de_var 6)) da_nil)))))) dss_nil)
      (dss_one (ds_ret [2] (de_sortSet rfl hr.u90 (by rfl) T.sorted (by rfl) T.set (de_var 2))))))))
abbrev s_is_ride_once : Stmt := top 23
abbrev N_is_ride_once : List Str := ["way"]
def g_is_ride_once : FS := (retS [] (andE (binE dEq (binE dAt (varE 0) (litE (.int 0))) (litE (.str "ride"))) (andE (binE dAt (varE 0) (litE (.int 5))) (andE (binE dNe (binE dAt (varE 0) (litE (.int 4))) (litE (.str "take"))) (binE dNe (binE dAt (varE 0) (litE (.int 6))) (litE (.int 1)))))))
def m_is_ride_once : List D → Option D := semD 1 g_is_ride_once
theorem sc_is_ride_once : FnScope N_is_ride_once ["way"] (defScope s_is_ride_once) := ⟨rfl, rfl, rfl, by decide +kernel, rfl, by decide +kernel, by decide +kernel⟩
theorem ok_is_ride_once {P : Program} {w : World} {K : KF} {mg : Str → Option Value} {base : Heap} (T : Txt K w mg) {f : Addr} {fd : FuncData} (F : FnP K "is_ride_once" s_is_ride_once f fd) : FnOk P w K mg base CX0 1 f fd ["way"] (spD 1 m_is_ride_once) := by
  refine okFn (N := N_is_ride_once) (g := g_is_ride_once) F sc_is_ride_once rfl (fun cdv A outer s H E hr => ?_)
  exact (dss_one (ds_ret [] (de_and (de_cmp (opd_eq hr.units) (de_sub (de_var 0) de_int) de_str (nomark _)) (de_and (de_sub (de_var 0) de_int) (de_and (de_cmp (opd_ne hr.units) (de_sub (de_var 0) de_int) de_str (nomark _)) (de_one (de_cmp (opd_ne hr.units) (de_sub (de_var 0) de_int) de_int (nomark _))))))))
abbrev s_kind_of : Stmt := top 26
abbrev N_kind_of : List Str := ["rules", "sign", "kind"]
abbrev b_kind_of_1 : FS := (ifS [] (binT dEq (binE dAt (varE 2) (litE (.int 0))) (mE gLower (varE 1))) (retS [] (varE 2)) nilS)
def g_kind_of : FS := (seqS (forS (.nm 2) [] (seqI (binE dAt (varE 0) (litE (.int 1)))) b_kind_of_1)
    (retS [] (litE .none)))
def m_kind_of : List D → Option D := semD 3 g_kind_of
theorem sc_kind_of : FnScope N_kind_of ["rules", "sign"] (defScope s_kind_of) := ⟨rfl, rfl, rfl, by decide +kernel, rfl, by decide +kernel, by decide +kernel⟩
theorem ok_kind_of {P : Program} {w : World} {K : KF} {mg : Str → Option Value} {base : Heap} (T : Txt K w mg) {f : Addr} {fd : FuncData} (F : FnP K "kind_of" s_kind_of f fd) : FnOk P w K mg base CX0 1 f fd ["rules", "sign"] (spD 2 m_kind_of) := by
  refine okFn (N := N_kind_of) (g := g_kind_of) F sc_kind_of rfl (fun cdv A outer s H E hr => ?_)
  exact (dss_cons (ds_for (.nm 2) [] rfl (di_seq (de_sub (de_var 0) de_int)) (pg_nm 2 sc_kind_of.nd) (dss_one (ds_if [] (dt_cmp (opd_eq hr.units) (de_sub (de_var 2) de_int) (de_lower (de_var 1)) (nomark _)) (dss_one (ds_ret [] (de_var 2))) dss_nil)))
      (dss_one (ds_ret [] de_non)))
abbrev s_full : Stmt := top 29
abbrev N_full : List Str := ["place", "at", "sign"]
abbrev c_full_1 : FT := (andT (binT dNe (varE 2) (litE (.str "."))) (binT dNe (varE 2) (litE (.str "#"))))
abbrev e_full_2 : FE := (varE 1)
def g_full : FS := (retS [] (callD 1 m_bits_of (consA (compE [1, 2] (.tp [1, 2]) (enumI (binE dAt (varE 0) (litE (.int 0)))) c_full_1 e_full_2) nilA)))
def m_full : List D → Option D := semD 3 g_full
theorem sc_full : FnScope N_full ["place"] (defScope s_full) := ⟨rfl, rfl, rfl, by decide +kernel, rfl, by decide +kernel, by decide +kernel⟩
theorem ok_full {P : Program} {w : World} {K : KF} {mg : Str → Option Value} {base : Heap} (T : Txt K w mg) (C_bits_of : CallD P w K mg base 1 "bits_of" 1 m_bits_of) {f : Addr} {fd : FuncData} (F : FnP K "full" s_full f fd) : FnOk P w K mg base CX0 2 f fd ["place"] (spD 1 m_full) := by
  refine okFn (N := N_full) (g := g_full) F sc_full rfl (fun cdv A outer s H E hr => ?_)
  exact (dss_one (ds_ret [] (de_call C_bits_of (hr.mono (by decide)) (by rfl) (da_cons (de_comp [("at", 1), ("sign", 2)] (.tp [1, 2]) rfl sc_full.nd (di_enum (by rfl) T.enumerate (de_sub (de_var 0) de_int)) (blkOk_by (N := N_full) (sc := defScope s_full) (by decide +kernel)) (fun _ _ _ _ _ => (pg_tp rfl (pgs_cn 1 sc_full.nd (pgs_cn 2 sc_full.nd pgs_nl)))) (fun _ _ _ _ _ => (dts_one (DW.dt (dw_and (dt_cmp (opd_ne hr.units) (de_var 2) de_str (nomark _)) (dw_and1 (dt_cmp (opd_ne hr.units) (de_var 2) de_str (nomark _))))))) (fun _ _ _ _ _ => (de_var 1))) da_nil))))
abbrev s_pieces : Stmt := top 30
abbrev N_pieces : List Str := ["place", "side", "signs", "at", "sign"]
abbrev c_pieces_1 : FT := (binT dIn (varE 4) (varE 2))
abbrev e_pieces_2 : FE := (varE 3)
def g_pieces : FS := (seqS (asgS 2 [] (litE (.str "abcdefghijklmnopqrstuvwxyz")))
    (seqS (ifS [] (binT dEq (varE 1) (litE (.int 0))) (asgS 2 [] (litE (.str "ABCDEFGHIJKLMNOPQRSTUVWXYZ"))) nilS)
    (retS [] (callD 1 m_bits_of (consA (compE [3, 4] (.tp [3, 4]) (enumI (binE dAt (varE 0) (litE (.int 0)))) c_pieces_1 e_pieces_2) nilA)))))
def m_pieces : List D → Option D := semD 5 g_pieces
theorem sc_pieces : FnScope N_pieces ["place", "side"] (defScope s_pieces) := ⟨rfl, rfl, rfl, by decide +kernel, rfl, by decide +kernel, by decide +kernel⟩
theorem ok_pieces {P : Program} {w : World} {K : KF} {mg : Str → Option Value} {base : Heap} (T : Txt K w mg) (C_bits_of : CallD P w K mg base 1 "bits_of" 1 m_bits_of) {f : Addr} {fd : FuncData} (F : FnP K "pieces" s_pieces f fd) : FnOk P w K mg base CX0 2 f fd ["place", "side"] (spD 2 m_pieces) := by
  refine okFn (N := N_pieces) (g := g_pieces) F sc_pieces rfl (fun cdv A outer s H E hr => ?_)
  exact (dss_cons (ds_set 2 [] sc_pieces.nd (de_gstr' (by rfl) T.LETTERS))
      (dss_cons (ds_if [] (dt_cmp (opd_eq hr.units) (de_var 1) de_int (nomark _)) (dss_one (ds_set 2 [] sc_pieces.nd (de_gstr' (by rfl) T.GREAT))) dss_nil)
      (dss_one (ds_ret [] (de_call C_bits_of (hr.mono (by decide)) (by rfl) (da_cons (de_comp [("at", 3), ("sign", 4)] (.tp [3, 4]) rfl sc_pieces.nd (di_enum (by rfl) T.enumerate (de_sub (de_var 0) de_int)) (blkOk_by (N := N_pieces) (sc := defScope s_pieces) (by decide +kernel)) (fun _ _ _ _ _ => (pg_tp rfl (pgs_cn 3 sc_pieces.nd (pgs_cn 4 sc_pieces.nd pgs_nl)))) (fun _ _ _ _ _ => (dts_one (dt_cmp (opd_in hr.u65) (de_var 4) (de_var 2) (by rfl)))) (fun _ _ _ _ _ => (de_var 3))) da_nil))))))
abbrev s_reach : Stmt := top 32
abbrev N_reach : List Str := ["rules", "place", "at", "sign", "found", "taken", "way", "dx", "dy", "line", "use"]
abbrev b_reach_1 : FS := (appS 4 [] (tupE (consA (callE gTuple (consA (varE 9) nilA)) (consA (binE dAt (varE 6) (litE (.int 4))) nilA))))
abbrev b_reach_2 : FS := (forS (.nm 9) [] (seqI (linesE (consA (binE dAt (varE 6) (litE (.int 0))) (consA (varE 7) (consA (varE 8) (consA (binE dAt (varE 6) (litE (.int 6))) nilA)))) (consA (binE dAt (varE 0) (litE (.int 0))) (consA (varE 5) (consA (varE 2) nilA))))) b_reach_1)
abbrev b_reach_3 : FS := (ifS [] (orT (notT (tstT (binE dAt (varE 6) (litE (.int 5))))) (binT dEq (binE dAnd (binE dShr (binE dAt (varE 1) (litE (.int 2))) (varE 2)) (litE (.int 1))) (litE (.int 1)))) (forS (.tp [7, 8]) [] (seqI (callD 2 m_steps (consA (varE 6) (consA (callE gInt (consA (mE gIsLower (varE 3)) nilA)) nilA)))) b_reach_2) nilS)
abbrev e_reach_4 : FE := (tupE (consA (callE gList (consA (varE 9) nilA)) (consA (varE 10) nilA)))
def g_reach : FS := (seqS (asgS 3 [] (binE dAt (binE dAt (varE 1) (litE (.int 0))) (varE 2)))
    (seqS (ifS [] (orT (binT dEq (varE 3) (litE (.str "."))) (binT dEq (varE 3) (litE (.str "#")))) (retS [] (lstE nilA)) nilS)
    (seqS (ownS 4 [] nilA)
    (seqS (asgS 5 [] (callD 1 m_full (consA (varE 1) nilA)))
    (seqS (forS (.nm 6) [] (seqI (binE dAt (callD 2 m_kind_of (consA (varE 0) (consA (varE 3) nilA))) (litE (.int 5)))) b_reach_3)
    (retS [4] (compE [9, 10] (.tp [9, 10]) (seqI (sortSetE (varE 4))) yesT e_reach_4)))))))
def m_reach : List D → Option D := semD 11 g_reach
theorem sc_reach : FnScope N_reach ["rules", "place", "at"] (defScope s_reach) := ⟨rfl, rfl, rfl, by decide +kernel, rfl, by decide +kernel, by decide +kernel⟩
theorem ok_reach {P : Program} {w : World} {K : KF} {mg : Str → Option Value} {base : Heap} (T : Txt K w mg) (C_full : CallD P w K mg base 2 "full" 1 m_full) (C_kind_of : CallD P w K mg base 1 "kind_of" 2 m_kind_of) (C_steps : CallD P w K mg base 1 "steps" 2 m_steps) (C_LINES : LinesD P w K mg base 4) {f : Addr} {fd : FuncData} (F : FnP K "reach" s_reach f fd) : FnOk P w K mg base CX0 5 f fd ["rules", "place", "at"] (spD 3 m_reach) := by
  refine okFn (N := N_reach) (g := g_reach) F sc_reach rfl (fun cdv A outer s H E hr => ?_)
  have hr2 : Room 4 _ := hr.mono (by decide)
  exact (dss_cons (ds_set 3 [] sc_reach.nd (de_sub (de_sub (de_var 1) de_int) (de_var 2)))
      (dss_cons (ds_if [] (DW.dt (dw_or (dt_cmp (opd_eq hr.units) (de_var 3) de_str (nomark _)) (dw_or1 (dt_cmp (opd_eq hr.units) (de_var 3) de_str (nomark _))))) (dss_one (ds_ret [] (de_lst da_nil))) dss_nil)
      (dss_cons (ds_own 4 [] sc_reach.nd da_nil)
      (dss_cons (ds_set 5 [] sc_reach.nd (de_call C_full (hr.mono (by decide)) (by rfl) (da_cons (de_var 1) da_nil)))
      (dss_cons (ds_for (.nm 6) [] rfl (di_seq (de_sub (de_call C_kind_of (hr.mono (by decide)) (by rfl) (da_cons (de_var 0) (da_cons (de_var 3) da_nil))) de_int)) (pg_nm 6 sc_reach.nd) (dss_one (ds_if [] (DW.dt (dw_or (dt_not (dt_val (de_sub (de_var 6) de_int))) (dw_or1 (dt_cmp (opd_eq hr.units) (de_bin opd_and (de_bin opd_shr (de_sub (de_var 1) de_int) (de_var 2)) de_int) de_int (nomark _))))) (dss_one (ds_for (.tp [7, 8]) [] rfl (di_seq (de_call C_steps (hr.mono (by decide)) (by rfl) (da_cons (de_var 6) (da_cons (de_callTy (cld_int) (by rfl) T.int (by decide +kernel) (da_cons (de_islower (de_var 3)) da_nil)) da_nil)))) (pg_tp rfl (pgs_cn 7 sc_reach.nd (pgs_cn 8 sc_reach.nd pgs_nl))) (dss_one (ds_for (.nm 9) [] rfl (di_seq (de_lines C_LINES hr2 (by rfl) (da_cons (de_sub (de_var 6) de_int) (da_cons (de_var 7) (da_cons (de_var 8) (da_cons (de_sub (de_var 6) de_int) da_nil)))) (da_cons (de_sub (de_var 0) de_int) (da_cons (de_var 5) (da_cons (de_var 2) da_nil))))) (pg_nm 9 sc_reach.nd) (dss_one (ds_append 4 [] (de_tup (da_cons (de_callTy (cld_tuple) (by rfl) T.tuple (by decide +kernel) (da_cons (de_var 9) da_nil)) (da_cons (de_sub (de_var 6) de_int) da_nil))))))))) dss_nil)))
      (dss_one (ds_ret [4] (de_comp [("line", 9), ("use", 10)] (.tp [9, 10]) rfl sc_reach.nd (di_seq (de_sortSet rfl hr.u90 (by rfl) T.sorted (by rfl) T.set (de_var 4))) (blkOk_by (N := N_reach) (sc := defScope s_reach) (by decide +kernel)) (fun _ _ _ _ _ => (pg_tp rfl (pgs_cn 9 sc_reach.nd (pgs_cn 10 sc_reach.nd pgs_nl)))) (fun _ _ _ _ _ => dts_nil) (fun _ _ _ _ _ => (de_tup (da_cons (de_callTy (cld_list) (by rfl) T.list (by decide +kernel) (da_cons (de_var 9) da_nil)) (da_cons (de_var 10) da_nil))))))))))))
abbrev s_attacks : Stmt := top 33
abbrev N_attacks : List Str := ["rules", "place", "side", "square", "found", "at", "line", "use"]
abbrev b_attacks_1 : FS := (ifS [] (andT (binT dNe (varE 7) (litE (.str "go"))) (andT (binT dEq (binE dAt (varE 6) (unE dNeg (litE (.int 1)))) (varE 3)) (inOwnT not (varE 6) 4))) (appS 4 [] (varE 6)) nilS)
abbrev b_attacks_2 : FS := (forS (.tp [6, 7]) [] (seqI (callD 3 m_reach (consA (varE 0) (consA (varE 1) (consA (varE 5) nilA))))) b_attacks_1)
def g_attacks : FS := (seqS (ownS 4 [] nilA)
    (seqS (forS (.nm 5) [] (seqI (callD 1 m_squares_of (consA (callD 2 m_pieces (consA (varE 1) (consA (varE 2) nilA))) nilA))) b_attacks_2)
    (retS [4] (callE gSorted (consA (varE 4) nilA)))))
def m_attacks : List D → Option D := semD 8 g_attacks
theorem sc_attacks : FnScope N_attacks ["rules", "place", "side", "square"] (defScope s_attacks) := ⟨rfl, rfl, rfl, by decide +kernel, rfl, by decide +kernel, by decide +kernel⟩
theorem ok_attacks {P : Program} {w : World} {K : KF} {mg : Str → Option Value} {base : Heap} (T : Txt K w mg) (C_pieces : CallD P w K mg base 2 "pieces" 2 m_pieces) (C_squares_of : CallD P w K mg base 1 "squares_of" 1 m_squares_of) (C_reach : CallD P w K mg base 5 "reach" 3 m_reach) {f : Addr} {fd : FuncData} (F : FnP K "attacks" s_attacks f fd) : FnOk P w K mg base CX0 6 f fd ["rules", "place", "side", "square"] (spD 4 m_attacks) := by
  refine okFn (N := N_attacks) (g := g_attacks) F sc_attacks rfl (fun cdv A outer s H E hr => ?_)
  exact (dss_cons (ds_own 4 [] sc_attacks.nd da_nil)
      (dss_cons (ds_for (.nm 5) [] rfl (di_seq (de_call C_squares_of (hr.mono (by decide)) (by rfl) (da_cons (de_call C_pieces (hr.mono (by decide)) (by rfl) (da_cons (de_var 1) (da_cons (de_var 2) da_nil))) da_nil))) (pg_nm 5 sc_attacks.nd) (dss_one (ds_for (.tp [6, 7]) [] rfl (di_seq (de_call C_reach (hr.mono (by decide)) (by rfl) (da_cons (de_var 0) (da_cons (de_var 1) (da_cons (de_var 5) da_nil))))) (pg_tp rfl (pgs_cn 6 sc_attacks.nd (pgs_cn 7 sc_attacks.nd pgs_nl))) (dss_one (ds_if [] (DW.dt (dw_and (dt_cmp (opd_ne hr.units) (de_var 7) de_str (nomark _)) (dw_and (dt_cmp (opd_eq hr.units) (de_sub (de_var 6) (de_neg de_int)) (de_var 3) (nomark _)) (dw_and1 (dt_notInOwn hr.u65 (de_var 6) 4))))) (dss_one (ds_append 4 [] (de_var 6))) dss_nil)))))
      (dss_one (ds_ret [4] (de_callB (cld_sorted hr.u70) (by rfl) T.sorted (by decide +kernel) (da_cons (de_var 4) da_nil))))))
abbrev s_signs_of : Stmt := top 35
abbrev N_signs_of : List Str := ["side", "letter"]
def g_signs_of : FS := (seqS (ifS [] (binT dEq (varE 0) (litE (.int 0))) (retS [] (mE gUpper (varE 1))) nilS)
    (retS [] (varE 1)))
def m_signs_of : List D → Option D := semD 2 g_signs_of
theorem sc_signs_of : FnScope N_signs_of ["side", "letter"] (defScope s_signs_of) := ⟨rfl, rfl, rfl, by decide +kernel, rfl, by decide +kernel, by decide +kernel⟩
theorem ok_signs_of {P : Program} {w : World} {K : KF} {mg : Str → Option Value} {base : Heap} (T : Txt K w mg) {f : Addr} {fd : FuncData} (F : FnP K "signs_of" s_signs_of f fd) : FnOk P w K mg base CX0 1 f fd ["side", "letter"] (spD 2 m_signs_of) := by
  refine okFn (N := N_signs_of) (g := g_signs_of) F sc_signs_of rfl (fun cdv A outer s H E hr => ?_)
  exact (dss_cons (ds_if [] (dt_cmp (opd_eq hr.units) (de_var 0) de_int (nomark _)) (dss_one (ds_ret [] (de_upper (de_var 1)))) dss_nil)
      (dss_one (ds_ret [] (de_var 1))))
abbrev s_letters_for : Stmt := top 36
abbrev N_letters_for : List Str := ["rules", "kind", "side", "to", "row", "letter"]
abbrev e_letters_for_1 : FE := (varE 5)
def g_letters_for : FS := (seqS (asgS 4 [] (binE dAdd (binE dFdiv (varE 3) (binE dAt (binE dAt (varE 0) (litE (.int 0))) (litE (.int 0)))) (litE (.int 1))))
    (seqS (ifS [] (binT dEq (varE 2) (litE (.int 1))) (asgS 4 [] (binE dSub (binE dAdd (binE dAt (binE dAt (varE 0) (litE (.int 0))) (litE (.int 1))) (litE (.int 1))) (varE 4))) nilS)
    (seqS (ifS [] (andT (binT dNe (binE dAt (varE 1) (litE (.int 3))) (litE (.str ""))) (binT dEq (varE 4) (binE dAt (varE 1) (litE (.int 4))))) (retS [] (compE [5] (.nm 5) (seqI (binE dAt (varE 1) (litE (.int 3)))) yesT e_letters_for_1)) nilS)
    (retS [] (lstE (consA (litE (.str "")) nilA))))))
def m_letters_for : List D → Option D := semD 6 g_letters_for
theorem sc_letters_for : FnScope N_letters_for ["rules", "kind", "side", "to"] (defScope s_letters_for) := ⟨rfl, rfl, rfl, by decide +kernel, rfl, by decide +kernel, by decide +kernel⟩
theorem ok_letters_for {P : Program} {w : World} {K : KF} {mg : Str → Option Value} {base : Heap} (T : Txt K w mg) {f : Addr} {fd : FuncData} (F : FnP K "letters_for" s_letters_for f fd) : FnOk P w K mg base CX0 1 f fd ["rules", "kind", "side", "to"] (spD 4 m_letters_for) := by
  refine okFn (N := N_letters_for) (g := g_letters_for) F sc_letters_for rfl (fun cdv A outer s H E hr => ?_)
  exact (dss_cons (ds_set 4 [] sc_letters_for.nd (de_bin opd_add (de_bin opd_fdiv (de_var 3) (de_sub (de_sub (de_var 0) de_int) de_int)) de_int))
      (dss_cons (ds_if [] (dt_cmp (opd_eq hr.units) (de_var 2) de_int (nomark _)) (dss_one (ds_set 4 [] sc_letters_for.nd (de_bin opd_sub (de_bin opd_add (de_sub (de_sub (de_var 0) de_int) de_int) de_int) (de_var 4)))) dss_nil)
      (dss_cons (ds_if [] (DW.dt (dw_and (dt_cmp (opd_ne hr.units) (de_sub (de_var 1) de_int) de_str (nomark _)) (dw_and1 (dt_cmp (opd_eq hr.units) (de_var 4) (de_sub (de_var 1) de_int) (nomark _))))) (dss_one (ds_ret [] (de_comp [("letter", 5)] (.nm 5) rfl sc_letters_for.nd (di_seq (de_sub (de_var 1) de_int)) (blkOk_by (N := N_letters_for) (sc := defScope s_letters_for) (by decide +kernel)) (fun _ _ _ _ _ => (pg_nm 5 sc_letters_for.nd)) (fun _ _ _ _ _ => dts_nil) (fun _ _ _ _ _ => (de_var 5))))) dss_nil)
      (dss_one (ds_ret [] (de_lst (da_cons de_str da_nil)))))))
abbrev s_words_for : Stmt := top 37
abbrev N_words_for : List Str := ["place", "kind", "line", "use", "found", "sign"]
def g_words_for : FS := (seqS (ownS 4 [] nilA)
    (seqS (asgS 5 [] (binE dAt (binE dAt (varE 0) (litE (.int 0))) (binE dAt (varE 2) (unE dNeg (litE (.int 1))))))
    (seqS (ifS [] (binT dEq (varE 5) (litE (.str "."))) (seqS (ifS [] (binT dNe (varE 3) (litE (.str "take"))) (appS 4 [] (litE (.str "go"))) nilS)
    (ifS [] (andT (binT dNe (varE 3) (litE (.str "go"))) (andT (tstT (binE dAt (varE 1) (litE (.int 2)))) (andT (binT dIsNot (binE dAt (varE 0) (litE (.int 3))) (litE .none)) (binT dEq (binE dAt (binE dAt (varE 0) (litE (.int 3))) (litE (.int 0))) (binE dAt (varE 2) (unE dNeg (litE (.int 1)))))))) (appS 4 [] (litE (.str "pass"))) nilS)) (ifS [] (andT (binT dNe (varE 3) (litE (.str "go"))) (binT dEq (mE gIsUpper (varE 5)) (binE dEq (binE dAt (varE 0) (litE (.int 1))) (litE (.int 1))))) (appS 4 [] (litE (.str "take"))) nilS))
    (retS [4] (varE 4)))))
def m_words_for : List D → Option D := semD 6 g_words_for
theorem sc_words_for : FnScope N_words_for ["place", "kind", "line", "use"] (defScope s_words_for) := ⟨rfl, rfl, rfl, by decide +kernel, rfl, by decide +kernel, by decide +kernel⟩
theorem ok_words_for {P : Program} {w : World} {K : KF} {mg : Str → Option Value} {base : Heap} (T : Txt K w mg) {f : Addr} {fd : FuncData} (F : FnP K "words_for" s_words_for f fd) : FnOk P w K mg base CX0 1 f fd ["place", "kind", "line", "use"] (spD 4 m_words_for) := by
  refine okFn (N := N_words_for) (g := g_words_for) F sc_words_for rfl (fun cdv A outer s H E hr => ?_)
  exact (dss_cons (ds_own 4 [] sc_words_for.nd da_nil)
      (dss_cons (ds_set 5 [] sc_words_for.nd (de_sub (de_sub (de_var 0) de_int) (de_sub (de_var 2) (de_neg de_int))))
      (dss_cons (ds_if [] (dt_cmp (opd_eq hr.units) (de_var 5) de_str (nomark _)) (dss_cons (ds_if [] (dt_cmp (opd_ne hr.units) (de_var 3) de_str (nomark _)) (dss_one (ds_append 4 [] de_str)) dss_nil)
      (dss_one (ds_if [] (DW.dt (dw_and (dt_cmp (opd_ne hr.units) (de_var 3) de_str (nomark _)) (dw_and (dt_val (de_sub (de_var 1) de_int)) (dw_and (dt_cmp opd_isnot (de_sub (de_var 0) de_int) de_non (nomark _)) (dw_and1 (dt_cmp (opd_eq hr.units) (de_sub (de_sub (de_var 0) de_int) de_int) (de_sub (de_var 2) (de_neg de_int)) (nomark _))))))) (dss_one (ds_append 4 [] de_str)) dss_nil))) (dss_one (ds_if [] (DW.dt (dw_and (dt_cmp (opd_ne hr.units) (de_var 3) de_str (nomark _)) (dw_and1 (dt_cmp (opd_eq hr.units) (de_isupper (de_var 5)) (de_cmp (opd_eq hr.units) (de_sub (de_var 0) de_int) de_int (nomark _)) (nomark _))))) (dss_one (ds_append 4 [] de_str)) dss_nil)))
      (dss_one (ds_ret [4] (de_var 4))))))
abbrev s_partner : Stmt := top 38
abbrev N_partner : List Str := ["rules", "place", "at", "way", "wide", "column", "spot"]
abbrev c_partner_1 : FT := (chainT dLe dLt (litE (.int 0)) (varE 5) (varE 4))
abbrev b_partner_2 : FS := (seqS (asgS 6 [] (binE dAdd (binE dMul (binE dFdiv (varE 2) (varE 4)) (varE 4)) (varE 5)))
    (seqS (ifS [] (binT dEq (binE dAt (binE dAt (varE 1) (litE (.int 0))) (varE 6)) (litE (.str "#"))) (retS [] (litE .none)) nilS)
    (seqS (ifS [] (binT dNe (binE dAt (binE dAt (varE 1) (litE (.int 0))) (varE 6)) (litE (.str "."))) (retS [] (varE 6)) nilS)
    (asgS 5 [] (binE dAdd (varE 5) (varE 3))))))
def g_partner : FS := (seqS (asgS 4 [] (binE dAt (binE dAt (varE 0) (litE (.int 0))) (litE (.int 0))))
    (seqS (asgS 5 [] (binE dAdd (binE dMod (varE 2) (varE 4)) (varE 3)))
    (seqS (loopW c_partner_1 b_partner_2 1000)
    (retS [] (litE .none)))))
def m_partner : List D → Option D := semD 7 g_partner
theorem sc_partner : FnScope N_partner ["rules", "place", "at", "way"] (defScope s_partner) := ⟨rfl, rfl, rfl, by decide +kernel, rfl, by decide +kernel, by decide +kernel⟩
theorem ok_partner {P : Program} {w : World} {K : KF} {mg : Str → Option Value} {base : Heap} (T : Txt K w mg) {f : Addr} {fd : FuncData} (F : FnP K "partner" s_partner f fd) : FnOk P w K mg base CX0 1 f fd ["rules", "place", "at", "way"] (spD 4 m_partner) := by
  refine okFn (N := N_partner) (g := g_partner) F sc_partner rfl (fun cdv A outer s H E hr => ?_)
  exact (dss_cons (ds_set 4 [] sc_partner.nd (de_sub (de_sub (de_var 0) de_int) de_int))
      (dss_cons (ds_set 5 [] sc_partner.nd (de_bin opd_add (de_bin opd_mod (de_var 2) (de_var 4)) (de_var 3)))
      (dss_cons (ds_while 1000 (dt_chain opd_le opd_lt de_int (de_var 5) (de_var 4)) (dss_cons (ds_set 6 [] sc_partner.nd (de_bin opd_add (de_bin opd_mul (de_bin opd_fdiv (de_var 2) (de_var 4)) (de_var 4)) (de_var 5)))
      (dss_cons (ds_if [] (dt_cmp (opd_eq hr.units) (de_sub (de_sub (de_var 1) de_int) (de_var 6)) de_str (nomark _)) (dss_one (ds_ret [] de_non)) dss_nil)
      (dss_cons (ds_if [] (dt_cmp (opd_ne hr.units) (de_sub (de_sub (de_var 1) de_int) (de_var 6)) de_str (nomark _)) (dss_one (ds_ret [] (de_var 6))) dss_nil)
      (dss_one (ds_set 5 [] sc_partner.nd (de_bin opd_add (de_var 5) (de_var 3))))))))
      (dss_one (ds_ret [] de_non)))))
abbrev s_pair_fits : Stmt := top 39
abbrev N_pair_fits : List Str := ["rules", "place", "at", "way", "other", "sign", "square"]
abbrev b_pair_fits_1 : FS := (ifS [] (binT dGt (callE gLen (consA (callD 4 m_attacks (consA (varE 0) (consA (varE 1) (consA (binE dSub (litE (.int 1)) (binE dAt (varE 1) (litE (.int 1)))) (consA (varE 6) nilA))))) nilA)) (litE (.int 0))) (retS [] (litE (.bool false))) nilS)
def g_pair_fits : FS := (seqS (asgS 4 [] (callD 4 m_partner (consA (varE 0) (consA (varE 1) (consA (varE 2) (consA (varE 3) nilA))))))
    (seqS (ifS [] (orT (binT dIs (varE 4) (litE .none)) (orT (binT dLt (callE gAbs (consA (binE dSub (varE 4) (varE 2)) nilA)) (litE (.int 3))) (orT (binT dEq (binE dAnd (binE dShr (binE dAt (varE 1) (litE (.int 2))) (varE 2)) (litE (.int 1))) (litE (.int 0))) (binT dEq (binE dAnd (binE dShr (binE dAt (varE 1) (litE (.int 2))) (varE 4)) (litE (.int 1))) (litE (.int 0)))))) (retS [] (litE (.bool false))) nilS)
    (seqS (asgS 5 [] (binE dAt (binE dAt (varE 1) (litE (.int 0))) (varE 2)))
    (seqS (ifS [] (binT dNe (mE gIsUpper (binE dAt (binE dAt (varE 1) (litE (.int 0))) (varE 4))) (mE gIsUpper (varE 5))) (retS [] (litE (.bool false))) nilS)
    (seqS (ifS [] (binT dNotIn (tupE (consA (mE gLower (varE 5)) (consA (mE gLower (binE dAt (binE dAt (varE 1) (litE (.int 0))) (varE 4))) nilA))) (binE dAt (varE 0) (litE (.int 2)))) (retS [] (litE (.bool false))) nilS)
    (seqS (ifS [] (tstT (binE dAt (callD 2 m_kind_of (consA (varE 0) (consA (varE 5) nilA))) (litE (.int 1)))) (forS (.nm 6) [] (seqI (tupE (consA (varE 2) (consA (binE dAdd (varE 2) (varE 3)) (consA (binE dAdd (varE 2) (binE dMul (litE (.int 2)) (varE 3))) nilA))))) b_pair_fits_1) nilS)
    (retS [] (litE (.bool true)))))))))
def m_pair_fits : List D → Option D := semD 7 g_pair_fits
theorem sc_pair_fits : FnScope N_pair_fits ["rules", "place", "at", "way"] (defScope s_pair_fits) := ⟨rfl, rfl, rfl, by decide +kernel, rfl, by decide +kernel, by decide +kernel⟩
theorem ok_pair_fits {P : Program} {w : World} {K : KF} {mg : Str → Option Value} {base : Heap} (T : Txt K w mg) (C_partner : CallD P w K mg base 1 "partner" 4 m_partner) (C_kind_of : CallD P w K mg base 1 "kind_of" 2 m_kind_of) (C_attacks : CallD P w K mg base 6 "attacks" 4 m_attacks) {f : Addr} {fd : FuncData} (F : FnP K "pair_fits" s_pair_fits f fd) : FnOk P w K mg base CX0 7 f fd ["rules", "place", "at", "way"] (spD 4 m_pair_fits) := by
  refine okFn (N := N_pair_fits) (g := g_pair_fits) F sc_pair_fits rfl (fun cdv A outer s H E hr => ?_)
  exact (dss_cons (ds_set 4 [] sc_pair_fits.nd (de_call C_partner (hr.mono (by decide)) (by rfl) (da_cons (de_var 0) (da_cons (de_var 1) (da_cons (de_var 2) (da_cons (de_var 3) da_nil))))))
      (dss_cons (ds_if [] (DW.dt (dw_or (dt_cmp opd_is (de_var 4) de_non (nomark _)) (dw_or (dt_cmp opd_lt (de_callB (cld_abs) (by rfl) T.abs (by decide +kernel) (da_cons (de_bin opd_sub (de_var 4) (de_var 2)) da_nil)) de_int (nomark _)) (dw_or (dt_cmp (opd_eq hr.units) (de_bin opd_and (de_bin opd_shr (de_sub (de_var 1) de_int) (de_var 2)) de_int) de_int (nomark _)) (dw_or1 (dt_cmp (opd_eq hr.units) (de_bin opd_and (de_bin opd_shr (de_sub (de_var 1) de_int) (de_var 4)) de_int) de_int (nomark _))))))) (dss_one (ds_ret [] de_bl)) dss_nil)
      (dss_cons (ds_set 5 [] sc_pair_fits.nd (de_sub (de_sub (de_var 1) de_int) (de_var 2)))
      (dss_cons (ds_if [] (dt_cmp (opd_ne hr.units) (de_isupper (de_sub (de_sub (de_var 1) de_int) (de_var 4))) (de_isupper (de_var 5)) (nomark _)) (dss_one (ds_ret [] de_bl)) dss_nil)
      (dss_cons (ds_if [] (dt_cmp (opd_notin hr.u65) (de_tup (da_cons (de_lower (de_var 5)) (da_cons (de_lower (de_sub (de_sub (de_var 1) de_int) (de_var 4))) da_nil))) (de_sub (de_var 0) de_int) (by rfl)) (dss_one (ds_ret [] de_bl)) dss_nil)
      (dss_cons (ds_if [] (dt_val (de_sub (de_call C_kind_of (hr.mono (by decide)) (by rfl) (da_cons (de_var 0) (da_cons (de_var 5) da_nil))) de_int)) (dss_one (ds_for (.nm 6) [] rfl (di_seq (de_tup (da_cons (de_var 2) (da_cons (de_bin opd_add (de_var 2) (de_var 3)) (da_cons (de_bin opd_add (de_var 2) (de_bin opd_mul de_int (de_var 3))) da_nil))))) (pg_nm 6 sc_pair_fits.nd) (dss_one (ds_if [] (dt_cmp opd_gt (de_callB (cld_len) (by rfl) T.len (by decide +kernel) (da_cons (de_call C_attacks (hr.mono (by decide)) (by rfl) (da_cons (de_var 0) (da_cons (de_var 1) (da_cons (de_bin opd_sub de_int (de_sub (de_var 1) de_int)) (da_cons (de_var 6) da_nil))))) da_nil)) de_int (nomark _)) (dss_one (ds_ret [] de_bl)) dss_nil)))) dss_nil)
      (dss_one (ds_ret [] de_bl))))))))
abbrev s_bare_from : Stmt := top 40
abbrev N_bare_from : List Str := ["rules", "place", "at", "found", "kind", "line", "use", "word", "letter", "way"]
abbrev b_bare_from_1 : FS := (appS 3 [] (tupE (consA (varE 2) (consA (binE dAt (varE 5) (unE dNeg (litE (.int 1)))) (consA (varE 7) (consA (varE 8) nilA))))))
abbrev b_bare_from_2 : FS := (forS (.nm 8) [] (seqI (callD 4 m_letters_for (consA (varE 0) (consA (varE 4) (consA (binE dAt (varE 1) (litE (.int 1))) (consA (binE dAt (varE 5) (unE dNeg (litE (.int 1)))) nilA)))))) b_bare_from_1)
abbrev b_bare_from_3 : FS := (forS (.nm 7) [] (seqI (callD 4 m_words_for (consA (varE 1) (consA (varE 4) (consA (varE 5) (consA (varE 6) nilA)))))) b_bare_from_2)
abbrev b_bare_from_4 : FS := (ifS [] (tstT (callD 4 m_pair_fits (consA (varE 0) (consA (varE 1) (consA (varE 2) (consA (varE 9) nilA)))))) (appS 3 [] (tupE (consA (varE 2) (consA (binE dAdd (varE 2) (binE dMul (litE (.int 2)) (varE 9))) (consA (litE (.str "pair")) (consA (litE (.str "")) nilA)))))) nilS)
def g_bare_from : FS := (seqS (ownS 3 [] nilA)
    (seqS (asgS 4 [] (callD 2 m_kind_of (consA (varE 0) (consA (binE dAt (binE dAt (varE 1) (litE (.int 0))) (varE 2)) nilA))))
    (seqS (forS (.tp [5, 6]) [] (seqI (callD 3 m_reach (consA (varE 0) (consA (varE 1) (consA (varE 2) nilA))))) b_bare_from_3)
    (seqS (forS (.nm 9) [] (seqI (tupE (consA (unE dNeg (litE (.int 1))) (consA (litE (.int 1)) nilA)))) b_bare_from_4)
    (retS [3] (varE 3))))))
def m_bare_from : List D → Option D := semD 10 g_bare_from
theorem sc_bare_from : FnScope N_bare_from ["rules", "place", "at"] (defScope s_bare_from) := ⟨rfl, rfl, rfl, by decide +kernel, rfl, by decide +kernel, by decide +kernel⟩
theorem ok_bare_from {P : Program} {w : World} {K : KF} {mg : Str → Option Value} {base : Heap} (T : Txt K w mg) (C_kind_of : CallD P w K mg base 1 "kind_of" 2 m_kind_of) (C_reach : CallD P w K mg base 5 "reach" 3 m_reach) (C_words_for : CallD P w K mg base 1 "words_for" 4 m_words_for) (C_letters_for : CallD P w K mg base 1 "letters_for" 4 m_letters_for) (C_pair_fits : CallD P w K mg base 7 "pair_fits" 4 m_pair_fits) {f : Addr} {fd : FuncData} (F : FnP K "bare_from" s_bare_from f fd) : FnOk P w K mg base CX0 8 f fd ["rules", "place", "at"] (spD 3 m_bare_from) := by
  refine okFn (N := N_bare_from) (g := g_bare_from) F sc_bare_from rfl (fun cdv A outer s H E hr => ?_)
  exact (dss_cons (ds_own 3 [] sc_bare_from.nd da_nil)
      (dss_cons (ds_set 4 [] sc_bare_from.nd (de_call C_kind_of (hr.mono (by decide)) (by rfl) (da_cons (de_var 0) (da_cons (de_sub (de_sub (de_var 1) de_int) (de_var 2)) da_nil))))
      (dss_cons (ds_for (.tp [5, 6]) [] rfl (di_seq (de_call C_reach (hr.mono (by decide)) (by rfl) (da_cons (de_var 0) (da_cons (de_var 1) (da_cons (de_var 2) da_nil))))) (pg_tp rfl (pgs_cn 5 sc_bare_from.nd (pgs_cn 6 sc_bare_from.nd pgs_nl))) (dss_one (ds_for (.nm 7) [] rfl (di_seq (de_call C_words_for (hr.mono (by decide)) (by rfl) (da_cons (de_var 1) (da_cons (de_var 4) (da_cons (de_var 5) (da_cons (de_var 6) da_nil)))))) (pg_nm 7 sc_bare_from.nd) (dss_one (ds_for (.nm 8) [] rfl (di_seq (de_call C_letters_for (hr.mono (by decide)) (by rfl) (da_cons (de_var 0) (da_cons (de_var 4) (da_cons (de_sub (de_var 1) de_int) (da_cons (de_sub (de_var 5) (de_neg de_int)) da_nil)))))) (pg_nm 8 sc_bare_from.nd) (dss_one (ds_append 3 [] (de_tup (da_cons (de_var 2) (da_cons (de_sub (de_var 5) (de_neg de_int)) (da_cons (de_var 7) (da_cons (de_var 8) da_nil))))))))))))
      (dss_cons (ds_for (.nm 9) [] rfl (di_seq (de_tup (da_cons (de_neg de_int) (da_cons de_int da_nil)))) (pg_nm 9 sc_bare_from.nd) (dss_one (ds_if [] (dt_val (de_call C_pair_fits (hr.mono (by decide)) (by rfl) (da_cons (de_var 0) (da_cons (de_var 1) (da_cons (de_var 2) (da_cons (de_var 9) da_nil)))))) (dss_one (ds_append 3 [] (de_tup (da_cons (de_var 2) (da_cons (de_bin opd_add (de_var 2) (de_bin opd_mul de_int (de_var 9))) (da_cons de_str (da_cons de_str da_nil))))))) dss_nil)))
      (dss_one (ds_ret [3] (de_var 3)))))))
abbrev s_bare : Stmt := top 41
abbrev N_bare : List Str := ["rules", "place", "found", "at"]
abbrev b_bare_1 : FS := (extS 2 [] (callD 3 m_bare_from (consA (varE 0) (consA (varE 1) (consA (varE 3) nilA)))))
def g_bare : FS := (seqS (ownS 2 [] nilA)
    (seqS (forS (.nm 3) [] (seqI (callD 1 m_squares_of (consA (callD 2 m_pieces (consA (varE 1) (consA (binE dAt (varE 1) (litE (.int 1))) nilA))) nilA))) b_bare_1)
    (retS [2] (sortSetE (varE 2)))))
def m_bare : List D → Option D := semD 4 g_bare
theorem sc_bare : FnScope N_bare ["rules", "place"] (defScope s_bare) := ⟨rfl, rfl, rfl, by decide +kernel, rfl, by decide +kernel, by decide +kernel⟩
theorem ok_bare {P : Program} {w : World} {K : KF} {mg : Str → Option Value} {base : Heap} (T : Txt K w mg) (C_pieces : CallD P w K mg base 2 "pieces" 2 m_pieces) (C_squares_of : CallD P w K mg base 1 "squares_of" 1 m_squares_of) (C_bare_from : CallD P w K mg base 8 "bare_from" 3 m_bare_from) {f : Addr} {fd : FuncData} (F : FnP K "bare" s_bare f fd) : FnOk P w K mg base CX0 9 f fd ["rules", "place"] (spD 2 m_bare) := by
  refine okFn (N := N_bare) (g := g_bare) F sc_bare rfl (fun cdv A outer s H E hr => ?_)
  exact (dss_cons (ds_own 2 [] sc_bare.nd da_nil)
      (dss_cons (ds_for (.nm 3) [] rfl (di_seq (de_call C_squares_of (hr.mono (by decide)) (by rfl) (da_cons (de_call C_pieces (hr.mono (by decide)) (by rfl) (da_cons (de_var 1) (da_cons (de_sub (de_var 1) de_int) da_nil))) da_nil))) (pg_nm 3 sc_bare.nd) (dss_one (ds_extend 2 [] (de_call C_bare_from (hr.mono (by decide)) (by rfl) (da_cons (de_var 0) (da_cons (de_var 1) (da_cons (de_var 3) da_nil)))))))
      (dss_one (ds_ret [2] (de_sortSet rfl hr.u90 (by rfl) T.sorted (by rfl) T.set (de_var 2))))))
abbrev s_with_sign : Stmt := top 42
abbrev N_with_sign : List Str := ["cells", "square", "sign"]
def g_with_sign : FS := (retS [] (binE dAdd (binE dAdd (slE (varE 0) noneO (someO (varE 1)) dCut) (varE 2)) (slE (varE 0) (someO (binE dAdd (varE 1) (litE (.int 1)))) noneO dCut)))
def m_with_sign : List D → Option D := semD 3 g_with_sign
theorem sc_with_sign : FnScope N_with_sign ["cells", "square", "sign"] (defScope s_with_sign) := ⟨rfl, rfl, rfl, by decide +kernel, rfl, by decide +kernel, by decide +kernel⟩
theorem ok_with_sign {P : Program} {w : World} {K : KF} {mg : Str → Option Value} {base : Heap} (T : Txt K w mg) {f : Addr} {fd : FuncData} (F : FnP K "with_sign" s_with_sign f fd) : FnOk P w K mg base CX0 1 f fd ["cells", "square", "sign"] (spD 3 m_with_sign) := by
  refine okFn (N := N_with_sign) (g := g_with_sign) F sc_with_sign rfl (fun cdv A outer s H E hr => ?_)
  exact (dss_one (ds_ret [] (de_bin opd_add (de_bin opd_add (de_slice (de_var 0) do_none (do_some (de_var 1))) (de_var 2)) (de_slice (de_var 0) (do_some (de_bin opd_add (de_var 1) de_int)) do_none))))
abbrev s_left_behind : Stmt := top 43
abbrev N_left_behind : List Str := ["rules", "place", "move", "at", "to", "word", "letter", "kind", "wide", "dx", "dy", "between", "way"]
abbrev b_left_behind_1 : FS := (ifS [] (andT (tstT (callD 1 m_is_ride_once (consA (varE 12) nilA))) (binT dIn (tupE (consA (binE dFdiv (varE 9) (litE (.int 2))) (consA (binE dFdiv (varE 10) (litE (.int 2))) nilA))) (callD 2 m_steps (consA (varE 12) (consA (binE dAt (varE 1) (litE (.int 1))) nilA))))) (retS [] (tupE (consA (varE 11) (consA (varE 4) nilA)))) nilS)
def g_left_behind : FS := (seqS (unpS (.tp [3, 4, 5, 6]) [] (varE 2))
    (seqS (asgS 7 [] (callD 2 m_kind_of (consA (varE 0) (consA (binE dAt (binE dAt (varE 1) (litE (.int 0))) (varE 3)) nilA))))
    (seqS (ifS [] (orT (binT dNe (varE 5) (litE (.str "go"))) (orT (binT dNe (varE 6) (litE (.str ""))) (orT (tstT (binE dAt (varE 7) (litE (.int 1)))) (binT dEq (binE dAnd (binE dShr (binE dAt (varE 1) (litE (.int 2))) (varE 3)) (litE (.int 1))) (litE (.int 0)))))) (retS [] (litE .none)) nilS)
    (seqS (asgS 8 [] (binE dAt (binE dAt (varE 0) (litE (.int 0))) (litE (.int 0))))
    (seqS (asgS 9 [] (binE dSub (binE dMod (varE 4) (varE 8)) (binE dMod (varE 3) (varE 8))))
    (seqS (asgS 10 [] (binE dSub (binE dFdiv (varE 4) (varE 8)) (binE dFdiv (varE 3) (varE 8))))
    (seqS (ifS [] (orT (binT dNe (binE dMod (varE 9) (litE (.int 2))) (litE (.int 0))) (binT dNe (binE dMod (varE 10) (litE (.int 2))) (litE (.int 0)))) (retS [] (litE .none)) nilS)
    (seqS (asgS 11 [] (binE dAdd (binE dAdd (varE 3) (binE dMul (binE dFdiv (varE 10) (litE (.int 2))) (varE 8))) (binE dFdiv (varE 9) (litE (.int 2)))))
    (seqS (ifS [] (binT dNe (binE dAt (binE dAt (varE 1) (litE (.int 0))) (varE 11)) (litE (.str "."))) (retS [] (litE .none)) nilS)
    (seqS (forS (.nm 12) [] (seqI (binE dAt (varE 7) (litE (.int 5)))) b_left_behind_1)
    (retS [] (litE .none))))))))))))
def m_left_behind : List D → Option D := semD 13 g_left_behind
theorem sc_left_behind : FnScope N_left_behind ["rules", "place", "move"] (defScope s_left_behind) := ⟨rfl, rfl, rfl, by decide +kernel, rfl, by decide +kernel, by decide +kernel⟩
theorem ok_left_behind {P : Program} {w : World} {K : KF} {mg : Str → Option Value} {base : Heap} (T : Txt K w mg) (C_kind_of : CallD P w K mg base 1 "kind_of" 2 m_kind_of) (C_steps : CallD P w K mg base 1 "steps" 2 m_steps) (C_is_ride_once : CallD P w K mg base 1 "is_ride_once" 1 m_is_ride_once) {f : Addr} {fd : FuncData} (F : FnP K "left_behind" s_left_behind f fd) : FnOk P w K mg base CX0 2 f fd ["rules", "place", "move"] (spD 3 m_left_behind) := by
  refine okFn (N := N_left_behind) (g := g_left_behind) F sc_left_behind rfl (fun cdv A outer s H E hr => ?_)
  exact (dss_cons (ds_unp (.tp [3, 4, 5, 6]) [] (de_var 2) (pg_tp rfl (pgs_cn 3 sc_left_behind.nd (pgs_cn 4 sc_left_behind.nd (pgs_cn 5 sc_left_behind.nd (pgs_cn 6 sc_left_behind.nd pgs_nl))))))
      (dss_cons (ds_set 7 [] sc_left_behind.nd (de_call C_kind_of (hr.mono (by decide)) (by rfl) (da_cons (de_var 0) (da_cons (de_sub (de_sub (de_var 1) de_int) (de_var 3)) da_nil))))
      (dss_cons (ds_if [] (DW.dt (dw_or (dt_cmp (opd_ne hr.units) (de_var 5) de_str (nomark _)) (dw_or (dt_cmp (opd_ne hr.units) (de_var 6) de_str (nomark _)) (dw_or (dt_val (de_sub (de_var 7) de_int)) (dw_or1 (dt_cmp (opd_eq hr.units) (de_bin opd_and (de_bin opd_shr (de_sub (de_var 1) de_int) (de_var 3)) de_int) de_int (nomark _))))))) (dss_one (ds_ret [] de_non)) dss_nil)
      (dss_cons (ds_set 8 [] sc_left_behind.nd (de_sub (de_sub (de_var 0) de_int) de_int))
      (dss_cons (ds_set 9 [] sc_left_behind.nd (de_bin opd_sub (de_bin opd_mod (de_var 4) (de_var 8)) (de_bin opd_mod (de_var 3) (de_var 8))))
      (dss_cons (ds_set 10 [] sc_left_behind.nd (de_bin opd_sub (de_bin opd_fdiv (de_var 4) (de_var 8)) (de_bin opd_fdiv (de_var 3) (de_var 8))))
      (dss_cons (ds_if [] (DW.dt (dw_or (dt_cmp (opd_ne hr.units) (de_bin opd_mod (de_var 9) de_int) de_int (nomark _)) (dw_or1 (dt_cmp (opd_ne hr.units) (de_bin opd_mod (de_var 10) de_int) de_int (nomark _))))) (dss_one (ds_ret [] de_non)) dss_nil)
      (dss_cons (ds_set 11 [] sc_left_behind.nd (de_bin opd_add (de_bin opd_add (de_var 3) (de_bin opd_mul (de_bin opd_fdiv (de_var 10) de_int) (de_var 8))) (de_bin opd_fdiv (de_var 9) de_int)))
      (dss_cons (ds_if [] (dt_cmp (opd_ne hr.units) (de_sub (de_sub (de_var 1) de_int) (de_var 11)) de_str (nomark _)) (dss_one (ds_ret [] de_non)) dss_nil)
      (dss_cons (ds_for (.nm 12) [] rfl (di_seq (de_sub (de_var 7) de_int)) (pg_nm 12 sc_left_behind.nd) (dss_one (ds_if [] (DW.dt (dw_and (dt_val (de_call C_is_ride_once (hr.mono (by decide)) (by rfl) (da_cons (de_var 12) da_nil))) (dw_and1 (dt_cmp (opd_in hr.u65) (de_tup (da_cons (de_bin opd_fdiv (de_var 9) de_int) (da_cons (de_bin opd_fdiv (de_var 10) de_int) da_nil))) (de_call C_steps (hr.mono (by decide)) (by rfl) (da_cons (de_var 12) (da_cons (de_sub (de_var 1) de_int) da_nil))) (by rfl))))) (dss_one (ds_ret [] (de_tup (da_cons (de_var 11) (da_cons (de_var 4) da_nil))))) dss_nil)))
      (dss_one (ds_ret [] de_non))))))))))))
abbrev s_after : Stmt := top 44
abbrev N_after : List Str := ["rules", "place", "move", "at", "to", "word", "letter", "sign", "gone", "cells", "way", "other", "fresh", "square", "calm"]
abbrev b_after_1 : FS := (ifS [] (binT dEq (binE dAnd (binE dShr (varE 12) (varE 13)) (litE (.int 1))) (litE (.int 1))) (asgS 12 [] (binE dSub (varE 12) (binE dShl (litE (.int 1)) (varE 13)))) nilS)
def g_after : FS := (seqS (unpS (.tp [3, 4, 5, 6]) [] (varE 2))
    (seqS (asgS 7 [] (binE dAt (binE dAt (varE 1) (litE (.int 0))) (varE 3)))
    (seqS (ownS 8 [] (consA (varE 3) (consA (varE 4) nilA)))
    (seqS (asgS 9 [] (callD 3 m_with_sign (consA (binE dAt (varE 1) (litE (.int 0))) (consA (varE 3) (consA (litE (.str ".")) nilA)))))
    (seqS (ifS [] (binT dEq (varE 5) (litE (.str "pass"))) (seqS (appS 8 [] (binE dAt (binE dAt (varE 1) (litE (.int 3))) (litE (.int 1))))
    (asgS 9 [] (callD 3 m_with_sign (consA (varE 9) (consA (binE dAt (binE dAt (varE 1) (litE (.int 3))) (litE (.int 1))) (consA (litE (.str ".")) nilA)))))) nilS)
    (seqS (ifS [] (binT dEq (varE 5) (litE (.str "pair"))) (seqS (asgS 10 [] (binE dFdiv (binE dSub (varE 4) (varE 3)) (litE (.int 2))))
    (seqS (asgS 11 [] (callD 4 m_partner (consA (varE 0) (consA (varE 1) (consA (varE 3) (consA (varE 10) nilA))))))
    (seqS (appS 8 [] (varE 11))
    (asgS 9 [] (callD 3 m_with_sign (consA (callD 3 m_with_sign (consA (varE 9) (consA (varE 11) (consA (litE (.str ".")) nilA)))) (consA (binE dAdd (varE 3) (varE 10)) (consA (binE dAt (binE dAt (varE 1) (litE (.int 0))) (varE 11)) nilA)))))))) nilS)
    (seqS (ifS [] (binT dEq (varE 6) (litE (.str ""))) (asgS 9 [] (callD 3 m_with_sign (consA (varE 9) (consA (varE 4) (consA (varE 7) nilA))))) (asgS 9 [] (callD 3 m_with_sign (consA (varE 9) (consA (varE 4) (consA (callD 2 m_signs_of (consA (binE dAt (varE 1) (litE (.int 1))) (consA (varE 6) nilA))) nilA))))))
    (seqS (asgS 12 [] (binE dAt (varE 1) (litE (.int 2))))
    (seqS (forS (.nm 13) [8] (seqI (varE 8)) b_after_1)
    (seqS (asgS 14 [] (callE gMin (consA (litE (.int 999)) (consA (binE dAdd (binE dAt (varE 1) (litE (.int 4))) (litE (.int 1))) nilA))))
    (seqS (ifS [] (orT (binT dEq (varE 5) (litE (.str "take"))) (orT (binT dEq (varE 5) (litE (.str "pass"))) (binT dNe (varE 6) (litE (.str ""))))) (asgS 14 [] (litE (.int 0))) nilS)
    (retS [] (tupE (consA (varE 9) (consA (binE dSub (litE (.int 1)) (binE dAt (varE 1) (litE (.int 1)))) (consA (varE 12) (consA (callD 3 m_left_behind (consA (varE 0) (consA (varE 1) (consA (varE 2) nilA)))) (consA (varE 14) nilA))))))))))))))))))
def m_after : List D → Option D := semD 15 g_after
theorem sc_after : FnScope N_after ["rules", "place", "move"] (defScope s_after) := ⟨rfl, rfl, rfl, by decide +kernel, rfl, by decide +kernel, by decide +kernel⟩
theorem ok_after {P : Program} {w : World} {K : KF} {mg : Str → Option Value} {base : Heap} (T : Txt K w mg) (C_with_sign : CallD P w K mg base 1 "with_sign" 3 m_with_sign) (C_partner : CallD P w K mg base 1 "partner" 4 m_partner) (C_signs_of : CallD P w K mg base 1 "signs_of" 2 m_signs_of) (C_left_behind : CallD P w K mg base 2 "left_behind" 3 m_left_behind) {f : Addr} {fd : FuncData} (F : FnP K "after" s_after f fd) : FnOk P w K mg base CX0 3 f fd ["rules", "place", "move"] (spD 3 m_after) := by
  refine okFn (N := N_after) (g := g_after) F sc_after rfl (fun cdv A outer s H E hr => ?_)
  exact (dss_cons (ds_unp (.tp [3, 4, 5, 6]) [] (de_var 2) (pg_tp rfl (pgs_cn 3 sc_after.nd (pgs_cn 4 sc_after.nd (pgs_cn 5 sc_after.nd (pgs_cn 6 sc_after.nd pgs_nl))))))
      (dss_cons (ds_set 7 [] sc_after.nd (de_sub (de_sub (de_var 1) de_int) (de_var 3)))
      (dss_cons (ds_own 8 [] sc_after.nd (da_cons (de_var 3) (da_cons (de_var 4) da_nil)))
      (dss_cons (ds_set 9 [] sc_after.nd (de_call C_with_sign (hr.mono (by decide)) (by rfl) (da_cons (de_sub (de_var 1) de_int) (da_cons (de_var 3) (da_cons de_str da_nil)))))
      (dss_cons (ds_if [] (dt_cmp (opd_eq hr.units) (de_var 5) de_str (nomark _)) (dss_cons (ds_append 8 [] (de_sub (de_sub (de_var 1) de_int) de_int))
      (dss_one (ds_set 9 [] sc_after.nd (de_call C_with_sign (hr.mono (by decide)) (by rfl) (da_cons (de_var 9) (da_cons (de_sub (de_sub (de_var 1) de_int) de_int) (da_cons de_str da_nil))))))) dss_nil)
      (dss_cons (ds_if [] (dt_cmp (opd_eq hr.units) (de_var 5) de_str (nomark _)) (dss_cons (ds_set 10 [] sc_after.nd (de_bin opd_fdiv (de_bin opd_sub (de_var 4) (de_var 3)) de_int))
      (dss_cons (ds_set 11 [] sc_after.nd (de_call C_partner (hr.mono (by decide)) (by rfl) (da_cons (de_var 0) (da_cons (de_var 1) (da_cons (de_var 3) (da_cons (de_var 10) da_nil))))))
      (dss_cons (ds_append 8 [] (de_var 11))
      (dss_one (ds_set 9 [] sc_after.nd (de_call C_with_sign (hr.mono (by decide)) (by rfl) (da_cons (de_call C_with_sign (hr.mono (by decide)) (by rfl) (da_cons (de_var 9) (da_cons (de_var 11) (da_cons de_str da_nil)))) (da_cons (de_bin opd_add (de_var 3) (de_var 10)) (da_cons (de_sub (de_sub (de_var 1) de_int) (de_var 11)) da_nil))))))))) dss_nil)
      (dss_cons (ds_if [] (dt_cmp (opd_eq hr.units) (de_var 6) de_str (nomark _)) (dss_one (ds_set 9 [] sc_after.nd (de_call C_with_sign (hr.mono (by decide)) (by rfl) (da_cons (de_var 9) (da_cons (de_var 4) (da_cons (de_var 7) da_nil)))))) (dss_one (ds_set 9 [] sc_after.nd (de_call C_with_sign (hr.mono (by decide)) (by rfl) (da_cons (de_var 9) (da_cons (de_var 4) (da_cons (de_call C_signs_of (hr.mono (by decide)) (by rfl) (da_cons (de_sub (de_var 1) de_int) (da_cons (de_var 6) da_nil))) da_nil)))))))
      (dss_cons (ds_set 12 [] sc_after.nd (de_sub (de_var 1) de_int))
      (dss_cons (ds_for (.nm 13) [8] rfl (di_seq (de_var 8)) (pg_nm 13 sc_after.nd) (dss_one (ds_if [] (dt_cmp (opd_eq hr.units) (de_bin opd_and (de_bin opd_shr (de_var 12) (de_var 13)) de_int) de_int (nomark _)) (dss_one (ds_set 12 [] sc_after.nd (de_bin opd_sub (de_var 12) (de_bin opd_shl de_int (de_var 13))))) dss_nil)))
      (dss_cons (ds_set 14 [] sc_after.nd (de_callB (cld_min rfl) (by rfl) T.min (by decide +kernel) (da_cons de_int (da_cons (de_bin opd_add (de_sub (de_var 1) de_int) de_int) da_nil))))
      (dss_cons (ds_if [] (DW.dt (dw_or (dt_cmp (opd_eq hr.units) (de_var 5) de_str (nomark _)) (dw_or (dt_cmp (opd_eq hr.units) (de_var 5) de_str (nomark _)) (dw_or1 (dt_cmp (opd_ne hr.units) (de_var 6) de_str (nomark _)))))) (dss_one (ds_set 14 [] sc_after.nd de_int)) dss_nil)
      (dss_one (ds_ret [] (de_tup (da_cons (de_var 9) (da_cons (de_bin opd_sub de_int (de_sub (de_var 1) de_int)) (da_cons (de_var 12) (da_cons (de_call C_left_behind (hr.mono (by decide)) (by rfl) (da_cons (de_var 0) (da_cons (de_var 1) (da_cons (de_var 2) da_nil)))) (da_cons (de_var 14) da_nil)))))))))))))))))))
abbrev s_is_safe : Stmt := top 45
abbrev N_is_safe : List Str := ["rules", "place", "side", "square"]
abbrev b_is_safe_1 : FS := (ifS [] (andT (tstT (binE dAt (callD 2 m_kind_of (consA (varE 0) (consA (binE dAt (binE dAt (varE 1) (litE (.int 0))) (varE 3)) nilA))) (litE (.int 1)))) (binT dGt (callE gLen (consA (callD 4 m_attacks (consA (varE 0) (consA (varE 1) (consA (binE dSub (litE (.int 1)) (varE 2)) (consA (varE 3) nilA))))) nilA)) (litE (.int 0)))) (retS [] (litE (.bool false))) nilS)
def g_is_safe : FS := (seqS (forS (.nm 3) [] (seqI (callD 1 m_squares_of (consA (callD 2 m_pieces (consA (varE 1) (consA (varE 2) nilA))) nilA))) b_is_safe_1)
    (retS [] (litE (.bool true))))
def m_is_safe : List D → Option D := semD 4 g_is_safe
theorem sc_is_safe : FnScope N_is_safe ["rules", "place", "side"] (defScope s_is_safe) := ⟨rfl, rfl, rfl, by decide +kernel, rfl, by decide +kernel, by decide +kernel⟩
theorem ok_is_safe {P : Program} {w : World} {K : KF} {mg : Str → Option Value} {base : Heap} (T : Txt K w mg) (C_pieces : CallD P w K mg base 2 "pieces" 2 m_pieces) (C_squares_of : CallD P w K mg base 1 "squares_of" 1 m_squares_of) (C_attacks : CallD P w K mg base 6 "attacks" 4 m_attacks) (C_kind_of : CallD P w K mg base 1 "kind_of" 2 m_kind_of) {f : Addr} {fd : FuncData} (F : FnP K "is_safe" s_is_safe f fd) : FnOk P w K mg base CX0 7 f fd ["rules", "place", "side"] (spD 3 m_is_safe) := by
  refine okFn (N := N_is_safe) (g := g_is_safe) F sc_is_safe rfl (fun cdv A outer s H E hr => ?_)
  exact (dss_cons (ds_for (.nm 3) [] rfl (di_seq (de_call C_squares_of (hr.mono (by decide)) (by rfl) (da_cons (de_call C_pieces (hr.mono (by decide)) (by rfl) (da_cons (de_var 1) (da_cons (de_var 2) da_nil))) da_nil))) (pg_nm 3 sc_is_safe.nd) (dss_one (ds_if [] (DW.dt (dw_and (dt_val (de_sub (de_call C_kind_of (hr.mono (by decide)) (by rfl) (da_cons (de_var 0) (da_cons (de_sub (de_sub (de_var 1) de_int) (de_var 3)) da_nil))) de_int)) (dw_and1 (dt_cmp opd_gt (de_callB (cld_len) (by rfl) T.len (by decide +kernel) (da_cons (de_call C_attacks (hr.mono (by decide)) (by rfl) (da_cons (de_var 0) (da_cons (de_var 1) (da_cons (de_bin opd_sub de_int (de_var 2)) (da_cons (de_var 3) da_nil))))) da_nil)) de_int (nomark _))))) (dss_one (ds_ret [] de_bl)) dss_nil)))
      (dss_one (ds_ret [] de_bl)))
abbrev s_moves : Stmt := top 46
abbrev N_moves : List Str := ["rules", "place", "move"]
abbrev c_moves_1 : FT := (tstT (callD 3 m_is_safe (consA (varE 0) (consA (callD 3 m_after (consA (varE 0) (consA (varE 1) (consA (varE 2) nilA)))) (consA (binE dAt (varE 1) (litE (.int 1))) nilA)))))
abbrev e_moves_2 : FE := (varE 2)
def g_moves : FS := (retS [] (compE [2] (.nm 2) (seqI (callD 2 m_bare (consA (varE 0) (consA (varE 1) nilA)))) c_moves_1 e_moves_2))
def m_moves : List D → Option D := semD 3 g_moves
theorem sc_moves : FnScope N_moves ["rules", "place"] (defScope s_moves) := ⟨rfl, rfl, rfl, by decide +kernel, rfl, by decide +kernel, by decide +kernel⟩
theorem ok_moves {P : Program} {w : World} {K : KF} {mg : Str → Option Value} {base : Heap} (T : Txt K w mg) (C_bare : CallD P w K mg base 9 "bare" 2 m_bare) (C_after : CallD P w K mg base 3 "after" 3 m_after) (C_is_safe : CallD P w K mg base 7 "is_safe" 3 m_is_safe) {f : Addr} {fd : FuncData} (F : FnP K "moves" s_moves f fd) : FnOk P w K mg base CX0 10 f fd ["rules", "place"] (spD 2 m_moves) := by
  refine okFn (N := N_moves) (g := g_moves) F sc_moves rfl (fun cdv A outer s H E hr => ?_)
  exact (dss_one (ds_ret [] (de_comp [("move", 2)] (.nm 2) rfl sc_moves.nd (di_seq (de_call C_bare (hr.mono (by decide)) (by rfl) (da_cons (de_var 0) (da_cons (de_var 1) da_nil)))) (blkOk_by (N := N_moves) (sc := defScope s_moves) (by decide +kernel)) (fun _ _ _ _ _ => (pg_nm 2 sc_moves.nd)) (fun _ _ _ _ _ => (dts_one (dt_val (de_call C_is_safe (hr.mono (by decide)) (by rfl) (da_cons (de_var 0) (da_cons (de_call C_after (hr.mono (by decide)) (by rfl) (da_cons (de_var 0) (da_cons (de_var 1) (da_cons (de_var 2) da_nil)))) (da_cons (de_sub (de_var 1) de_int) da_nil))))))) (fun _ _ _ _ _ => (de_var 2)))))
abbrev s_forms : Stmt := top 49
abbrev N_forms : List Str := ["rules", "place", "move", "at", "to", "word", "letter", "head", "name", "tail", "part"]
abbrev e_forms_1 : FE := (binE dAdd (binE dAdd (varE 7) (varE 10)) (varE 9))
def g_forms : FS := (seqS (unpS (.tp [3, 4, 5, 6]) [] (varE 2))
    (seqS (asgS 7 [] (mE gLower (binE dAt (binE dAt (varE 1) (litE (.int 0))) (varE 3))))
    (seqS (asgS 8 [] (callD 2 m_name_of (consA (binE dAt (varE 0) (litE (.int 0))) (consA (varE 3) nilA))))
    (seqS (asgS 9 [] (binE dAdd (marksE (varE 5)) (callD 2 m_name_of (consA (binE dAt (varE 0) (litE (.int 0))) (consA (varE 4) nilA)))))
    (seqS (ifS [] (binT dNe (varE 6) (litE (.str ""))) (asgS 9 [] (binE dAdd (binE dAdd (varE 9) (litE (.str "="))) (varE 6))) nilS)
    (retS [] (compE [10] (.nm 10) (seqI (tupE (consA (litE (.str "")) (consA (binE dAt (varE 8) (litE (.int 0))) (consA (binE dAt (varE 8) (litE (.int 1))) (consA (varE 8) nilA)))))) yesT e_forms_1)))))))
def m_forms : List D → Option D := semD 11 g_forms
theorem sc_forms : FnScope N_forms ["rules", "place", "move"] (defScope s_forms) := ⟨rfl, rfl, rfl, by decide +kernel, rfl, by decide +kernel, by decide +kernel⟩
theorem ok_forms {P : Program} {w : World} {K : KF} {mg : Str → Option Value} {base : Heap} (T : Txt K w mg) (C_name_of : CallD P w K mg base 1 "name_of" 2 m_name_of) {f : Addr} {fd : FuncData} (F : FnP K "forms" s_forms f fd) : FnOk P w K mg base CX0 2 f fd ["rules", "place", "move"] (spD 3 m_forms) := by
  refine okFn (N := N_forms) (g := g_forms) F sc_forms rfl (fun cdv A outer s H E hr => ?_)
  exact (dss_cons (ds_unp (.tp [3, 4, 5, 6]) [] (de_var 2) (pg_tp rfl (pgs_cn 3 sc_forms.nd (pgs_cn 4 sc_forms.nd (pgs_cn 5 sc_forms.nd (pgs_cn 6 sc_forms.nd pgs_nl))))))
      (dss_cons (ds_set 7 [] sc_forms.nd (de_lower (de_sub (de_sub (de_var 1) de_int) (de_var 3))))
      (dss_cons (ds_set 8 [] sc_forms.nd (de_call C_name_of (hr.mono (by decide)) (by rfl) (da_cons (de_sub (de_var 0) de_int) (da_cons (de_var 3) da_nil))))
      (dss_cons (ds_set 9 [] sc_forms.nd (de_bin opd_add (de_marks T.MARKS (by rfl) (de_var 5)) (de_call C_name_of (hr.mono (by decide)) (by rfl) (da_cons (de_sub (de_var 0) de_int) (da_cons (de_var 4) da_nil)))))
      (dss_cons (ds_if [] (dt_cmp (opd_ne hr.units) (de_var 6) de_str (nomark _)) (dss_one (ds_set 9 [] sc_forms.nd (de_bin opd_add (de_bin opd_add (de_var 9) de_str) (de_var 6)))) dss_nil)
      (dss_one (ds_ret [] (de_comp [("part", 10)] (.nm 10) rfl sc_forms.nd (di_seq (de_tup (da_cons de_str (da_cons (de_sub (de_var 8) de_int) (da_cons (de_sub (de_var 8) de_int) (da_cons (de_var 8) da_nil)))))) (blkOk_by (N := N_forms) (sc := defScope s_forms) (by decide +kernel)) (fun _ _ _ _ _ => (pg_nm 10 sc_forms.nd)) (fun _ _ _ _ _ => dts_nil) (fun _ _ _ _ _ => (de_bin opd_add (de_bin opd_add (de_var 7) (de_var 10)) (de_var 9)))))))))))
abbrev s_all_forms : Stmt := top 50
abbrev N_all_forms : List Str := ["rules", "place", "move"]
abbrev e_all_forms_1 : FE := (tupE (consA (varE 2) (consA (callD 3 m_forms (consA (varE 0) (consA (varE 1) (consA (varE 2) nilA)))) nilA)))
def g_all_forms : FS := (retS [] (compE [2] (.nm 2) (seqI (callD 2 m_moves (consA (varE 0) (consA (varE 1) nilA)))) yesT e_all_forms_1))
def m_all_forms : List D → Option D := semD 3 g_all_forms
theorem sc_all_forms : FnScope N_all_forms ["rules", "place"] (defScope s_all_forms) := ⟨rfl, rfl, rfl, by decide +kernel, rfl, by decide +kernel, by decide +kernel⟩
theorem ok_all_forms {P : Program} {w : World} {K : KF} {mg : Str → Option Value} {base : Heap} (T : Txt K w mg) (C_moves : CallD P w K mg base 10 "moves" 2 m_moves) (C_forms : CallD P w K mg base 2 "forms" 3 m_forms) {f : Addr} {fd : FuncData} (F : FnP K "all_forms" s_all_forms f fd) : FnOk P w K mg base CX0 11 f fd ["rules", "place"] (spD 2 m_all_forms) := by
  refine okFn (N := N_all_forms) (g := g_all_forms) F sc_all_forms rfl (fun cdv A outer s H E hr => ?_)
  exact (dss_one (ds_ret [] (de_comp [("move", 2)] (.nm 2) rfl sc_all_forms.nd (di_seq (de_call C_moves (hr.mono (by decide)) (by rfl) (da_cons (de_var 0) (da_cons (de_var 1) da_nil)))) (blkOk_by (N := N_all_forms) (sc := defScope s_all_forms) (by decide +kernel)) (fun _ _ _ _ _ => (pg_nm 2 sc_all_forms.nd)) (fun _ _ _ _ _ => dts_nil) (fun _ _ _ _ _ => (de_tup (da_cons (de_var 2) (da_cons (de_call C_forms (hr.mono (by decide)) (by rfl) (da_cons (de_var 0) (da_cons (de_var 1) (da_cons (de_var 2) da_nil)))) da_nil)))))))
abbrev s_told_by : Stmt := top 51
abbrev N_told_by : List Str := ["listed", "thing", "move", "texts"]
abbrev c_told_by_1 : FT := (binT dIn (varE 1) (varE 3))
abbrev e_told_by_2 : FE := (varE 2)
def g_told_by : FS := (retS [] (compE [2, 3] (.tp [2, 3]) (seqI (varE 0)) c_told_by_1 e_told_by_2))
def m_told_by : List D → Option D := semD 4 g_told_by
theorem sc_told_by : FnScope N_told_by ["listed", "thing"] (defScope s_told_by) := ⟨rfl, rfl, rfl, by decide +kernel, rfl, by decide +kernel, by decide +kernel⟩
theorem ok_told_by {P : Program} {w : World} {K : KF} {mg : Str → Option Value} {base : Heap} (T : Txt K w mg) {f : Addr} {fd : FuncData} (F : FnP K "told_by" s_told_by f fd) : FnOk P w K mg base CX0 1 f fd ["listed", "thing"] (spD 2 m_told_by) := by
  refine okFn (N := N_told_by) (g := g_told_by) F sc_told_by rfl (fun cdv A outer s H E hr => ?_)
  exact (dss_one (ds_ret [] (de_comp [("move", 2), ("texts", 3)] (.tp [2, 3]) rfl sc_told_by.nd (di_seq (de_var 0)) (blkOk_by (N := N_told_by) (sc := defScope s_told_by) (by decide +kernel)) (fun _ _ _ _ _ => (pg_tp rfl (pgs_cn 2 sc_told_by.nd (pgs_cn 3 sc_told_by.nd pgs_nl)))) (fun _ _ _ _ _ => (dts_one (dt_cmp (opd_in hr.u65) (de_var 1) (de_var 3) (by rfl)))) (fun _ _ _ _ _ => (de_var 2)))))
abbrev s_short : Stmt := top 52
abbrev N_short : List Str := ["rules", "place", "move", "listed", "texts", "text", "one"]
abbrev e_short_1 : FE := (varE 6)
abbrev b_short_2 : FS := (ifS [] (binT dEq (callE gLen (consA (callD 2 m_told_by (consA (varE 3) (consA (varE 5) nilA))) nilA)) (litE (.int 1))) (retS [] (varE 5)) nilS)
def g_short : FS := (seqS (asgS 3 [] (callD 2 m_all_forms (consA (varE 0) (consA (varE 1) nilA))))
    (seqS (ifS [] (binT dNotIn (varE 2) (compE [6, 4] (.tp [6, 4]) (seqI (varE 3)) yesT e_short_1)) stuckS nilS)
    (seqS (asgS 4 [] (callD 3 m_forms (consA (varE 0) (consA (varE 1) (consA (varE 2) nilA)))))
    (seqS (forS (.nm 5) [] (seqI (varE 4)) b_short_2)
    (retS [] (binE dAt (varE 4) (unE dNeg (litE (.int 1)))))))))
def m_short : List D → Option D := semD 7 g_short
theorem sc_short : FnScope N_short ["rules", "place", "move"] (defScope s_short) := ⟨rfl, rfl, rfl, by decide +kernel, rfl, by decide +kernel, by decide +kernel⟩
theorem ok_short {P : Program} {w : World} {K : KF} {mg : Str → Option Value} {base : Heap} (T : Txt K w mg) (C_all_forms : CallD P w K mg base 11 "all_forms" 2 m_all_forms) (C_forms : CallD P w K mg base 2 "forms" 3 m_forms) (C_told_by : CallD P w K mg base 1 "told_by" 2 m_told_by) {f : Addr} {fd : FuncData} (F : FnP K "short" s_short f fd) : FnOk P w K mg base CX0 12 f fd ["rules", "place", "move"] (spD 3 m_short) := by
  refine okFn (N := N_short) (g := g_short) F sc_short rfl (fun cdv A outer s H E hr => ?_)
  exact (dss_cons (ds_set 3 [] sc_short.nd (de_call C_all_forms (hr.mono (by decide)) (by rfl) (da_cons (de_var 0) (da_cons (de_var 1) da_nil))))
      (dss_cons (ds_if [] (dt_cmp (opd_notin hr.u65) (de_var 2) (de_comp [("one", 6), ("texts", 4)] (.tp [6, 4]) rfl sc_short.nd (di_seq (de_var 3)) (blkOk_by (N := N_short) (sc := defScope s_short) (by decide +kernel)) (fun _ _ _ _ _ => (pg_tp rfl (pgs_cn 6 sc_short.nd (pgs_cn 4 sc_short.nd pgs_nl)))) (fun _ _ _ _ _ => dts_nil) (fun _ _ _ _ _ => (de_var 6))) (by rfl)) (dss_one ds_stuck) dss_nil)
      (dss_cons (ds_set 4 [] sc_short.nd (de_call C_forms (hr.mono (by decide)) (by rfl) (da_cons (de_var 0) (da_cons (de_var 1) (da_cons (de_var 2) da_nil)))))
      (dss_cons (ds_for (.nm 5) [] rfl (di_seq (de_var 4)) (pg_nm 5 sc_short.nd) (dss_one (ds_if [] (dt_cmp (opd_eq hr.units) (de_callB (cld_len) (by rfl) T.len (by decide +kernel) (da_cons (de_call C_told_by (hr.mono (by decide)) (by rfl) (da_cons (de_var 3) (da_cons (de_var 5) da_nil))) da_nil)) de_int (nomark _)) (dss_one (ds_ret [] (de_var 5))) dss_nil)))
      (dss_one (ds_ret [] (de_sub (de_var 4) (de_neg de_int))))))))
abbrev s_read_short : Stmt := top 53
abbrev N_read_short : List Str := ["rules", "place", "thing", "found"]
def g_read_short : FS := (seqS (asgS 3 [] (lstE nilA))
    (seqS (ifS [] (tstT (isStrE (varE 2))) (asgS 3 [] (callD 2 m_told_by (consA (callD 2 m_all_forms (consA (varE 0) (consA (varE 1) nilA))) (consA (varE 2) nilA)))) nilS)
    (seqS (ifS [] (binT dEq (callE gLen (consA (varE 3) nilA)) (litE (.int 0))) stuckS nilS)
    (seqS (ifS [] (binT dGt (callE gLen (consA (varE 3) nilA)) (litE (.int 1))) stuckS nilS)
    (retS [] (binE dAt (varE 3) (litE (.int 0))))))))
def m_read_short : List D → Option D := semD 4 g_read_short
theorem sc_read_short : FnScope N_read_short ["rules", "place", "thing"] (defScope s_read_short) := ⟨rfl, rfl, rfl, by decide +kernel, rfl, by decide +kernel, by decide +kernel⟩
theorem ok_read_short {P : Program} {w : World} {K : KF} {mg : Str → Option Value} {base : Heap} (T : Txt K w mg) (C_all_forms : CallD P w K mg base 11 "all_forms" 2 m_all_forms) (C_told_by : CallD P w K mg base 1 "told_by" 2 m_told_by) {f : Addr} {fd : FuncData} (F : FnP K "read_short" s_read_short f fd) : FnOk P w K mg base CX0 12 f fd ["rules", "place", "thing"] (spD 3 m_read_short) := by
  refine okFn (N := N_read_short) (g := g_read_short) F sc_read_short rfl (fun cdv A outer s H E hr => ?_)
  exact (dss_cons (ds_set 3 [] sc_read_short.nd (de_lst da_nil))
      (dss_cons (ds_if [] (dt_val (de_isStr (by rfl) T.isinstance (by rfl) T.str (de_var 2))) (dss_one (ds_set 3 [] sc_read_short.nd (de_call C_told_by (hr.mono (by decide)) (by rfl) (da_cons (de_call C_all_forms (hr.mono (by decide)) (by rfl) (da_cons (de_var 0) (da_cons (de_var 1) da_nil))) (da_cons (de_var 2) da_nil))))) dss_nil)
      (dss_cons (ds_if [] (dt_cmp (opd_eq hr.units) (de_callB (cld_len) (by rfl) T.len (by decide +kernel) (da_cons (de_var 3) da_nil)) de_int (nomark _)) (dss_one ds_stuck) dss_nil)
      (dss_cons (ds_if [] (dt_cmp opd_gt (de_callB (cld_len) (by rfl) T.len (by decide +kernel) (da_cons (de_var 3) da_nil)) de_int (nomark _)) (dss_one ds_stuck) dss_nil)
      (dss_one (ds_ret [] (de_sub (de_var 3) de_int)))))))
abbrev s_royals : Stmt := top 55
abbrev N_royals : List Str := ["rules", "place", "side", "square"]
abbrev c_royals_1 : FT := (tstT (binE dAt (callD 2 m_kind_of (consA (varE 0) (consA (binE dAt (binE dAt (varE 1) (litE (.int 0))) (varE 3)) nilA))) (litE (.int 1))))
abbrev e_royals_2 : FE := (varE 3)
def g_royals : FS := (retS [] (compE [3] (.nm 3) (seqI (callD 1 m_squares_of (consA (callD 2 m_pieces (consA (varE 1) (consA (varE 2) nilA))) nilA))) c_royals_1 e_royals_2))
def m_royals : List D → Option D := semD 4 g_royals
theorem sc_royals : FnScope N_royals ["rules", "place", "side"] (defScope s_royals) := ⟨rfl, rfl, rfl, by decide +kernel, rfl, by decide +kernel, by decide +kernel⟩
theorem ok_royals {P : Program} {w : World} {K : KF} {mg : Str → Option Value} {base : Heap} (T : Txt K w mg) (C_pieces : CallD P w K mg base 2 "pieces" 2 m_pieces) (C_squares_of : CallD P w K mg base 1 "squares_of" 1 m_squares_of) (C_kind_of : CallD P w K mg base 1 "kind_of" 2 m_kind_of) {f : Addr} {fd : FuncData} (F : FnP K "royals" s_royals f fd) : FnOk P w K mg base CX0 3 f fd ["rules", "place", "side"] (spD 3 m_royals) := by
  refine okFn (N := N_royals) (g := g_royals) F sc_royals rfl (fun cdv A outer s H E hr => ?_)
  exact (dss_one (ds_ret [] (de_comp [("square", 3)] (.nm 3) rfl sc_royals.nd (di_seq (de_call C_squares_of (hr.mono (by decide)) (by rfl) (da_cons (de_call C_pieces (hr.mono (by decide)) (by rfl) (da_cons (de_var 1) (da_cons (de_var 2) da_nil))) da_nil))) (blkOk_by (N := N_royals) (sc := defScope s_royals) (by decide +kernel)) (fun _ _ _ _ _ => (pg_nm 3 sc_royals.nd)) (fun _ _ _ _ _ => (dts_one (dt_val (de_sub (de_call C_kind_of (hr.mono (by decide)) (by rfl) (da_cons (de_var 0) (da_cons (de_sub (de_sub (de_var 1) de_int) (de_var 3)) da_nil))) de_int)))) (fun _ _ _ _ _ => (de_var 3)))))
abbrev s_attacks_on : Stmt := top 56
abbrev N_attacks_on : List Str := ["rules", "place", "side", "found", "square"]
abbrev b_attacks_on_1 : FS := (extS 3 [] (callD 4 m_attacks (consA (varE 0) (consA (varE 1) (consA (binE dSub (litE (.int 1)) (varE 2)) (consA (varE 4) nilA))))))
def g_attacks_on : FS := (seqS (ownS 3 [] nilA)
    (seqS (forS (.nm 4) [] (seqI (callD 3 m_royals (consA (varE 0) (consA (varE 1) (consA (varE 2) nilA))))) b_attacks_on_1)
    (retS [3] (callE gSorted (consA (varE 3) nilA)))))
def m_attacks_on : List D → Option D := semD 5 g_attacks_on
theorem sc_attacks_on : FnScope N_attacks_on ["rules", "place", "side"] (defScope s_attacks_on) := ⟨rfl, rfl, rfl, by decide +kernel, rfl, by decide +kernel, by decide +kernel⟩
theorem ok_attacks_on {P : Program} {w : World} {K : KF} {mg : Str → Option Value} {base : Heap} (T : Txt K w mg) (C_royals : CallD P w K mg base 3 "royals" 3 m_royals) (C_attacks : CallD P w K mg base 6 "attacks" 4 m_attacks) {f : Addr} {fd : FuncData} (F : FnP K "attacks_on" s_attacks_on f fd) : FnOk P w K mg base CX0 7 f fd ["rules", "place", "side"] (spD 3 m_attacks_on) := by
  refine okFn (N := N_attacks_on) (g := g_attacks_on) F sc_attacks_on rfl (fun cdv A outer s H E hr => ?_)
  exact (dss_cons (ds_own 3 [] sc_attacks_on.nd da_nil)
      (dss_cons (ds_for (.nm 4) [] rfl (di_seq (de_call C_royals (hr.mono (by decide)) (by rfl) (da_cons (de_var 0) (da_cons (de_var 1) (da_cons (de_var 2) da_nil))))) (pg_nm 4 sc_attacks_on.nd) (dss_one (ds_extend 3 [] (de_call C_attacks (hr.mono (by decide)) (by rfl) (da_cons (de_var 0) (da_cons (de_var 1) (da_cons (de_bin opd_sub de_int (de_var 2)) (da_cons (de_var 4) da_nil))))))))
      (dss_one (ds_ret [3] (de_callB (cld_sorted hr.u70) (by rfl) T.sorted (by decide +kernel) (da_cons (de_var 3) da_nil))))))
abbrev s_verdict : Stmt := top 57
abbrev N_verdict : List Str := ["rules", "place", "some", "rows", "move", "lines"]
abbrev b_verdict_1 : FS := (appS 3 [] (tupE (consA (varE 4) (consA (binE dAt (callD 3 m_attacks_on (consA (varE 0) (consA (callD 3 m_after (consA (varE 0) (consA (varE 1) (consA (varE 4) nilA)))) (consA (binE dAt (varE 1) (litE (.int 1))) nilA)))) (litE (.int 0))) nilA))))
def g_verdict : FS := (seqS (asgS 2 [] (callD 2 m_moves (consA (varE 0) (consA (varE 1) nilA))))
    (seqS (ifS [] (binT dGt (callE gLen (consA (varE 2) nilA)) (litE (.int 0))) (retS [] (tupE (consA (litE (.str "on")) (consA (binE dAt (varE 2) (litE (.int 0))) nilA)))) nilS)
    (seqS (ownS 3 [] nilA)
    (seqS (forS (.nm 4) [] (seqI (callD 2 m_bare (consA (varE 0) (consA (varE 1) nilA)))) b_verdict_1)
    (seqS (asgS 5 [] (callD 3 m_attacks_on (consA (varE 0) (consA (varE 1) (consA (binE dAt (varE 1) (litE (.int 1))) nilA)))))
    (seqS (ifS [] (binT dGt (callE gLen (consA (varE 5) nilA)) (litE (.int 0))) (retS [3] (tupE (consA (litE (.str "mated")) (consA (varE 5) (consA (varE 3) nilA))))) nilS)
    (retS [3] (tupE (consA (litE (.str "stuck")) (consA (varE 3) nilA))))))))))
def m_verdict : List D → Option D := semD 6 g_verdict
theorem sc_verdict : FnScope N_verdict ["rules", "place"] (defScope s_verdict) := ⟨rfl, rfl, rfl, by decide +kernel, rfl, by decide +kernel, by decide +kernel⟩
theorem ok_verdict {P : Program} {w : World} {K : KF} {mg : Str → Option Value} {base : Heap} (T : Txt K w mg) (C_moves : CallD P w K mg base 10 "moves" 2 m_moves) (C_bare : CallD P w K mg base 9 "bare" 2 m_bare) (C_after : CallD P w K mg base 3 "after" 3 m_after) (C_attacks_on : CallD P w K mg base 7 "attacks_on" 3 m_attacks_on) {f : Addr} {fd : FuncData} (F : FnP K "verdict" s_verdict f fd) : FnOk P w K mg base CX0 11 f fd ["rules", "place"] (spD 2 m_verdict) := by
  refine okFn (N := N_verdict) (g := g_verdict) F sc_verdict rfl (fun cdv A outer s H E hr => ?_)
  exact (dss_cons (ds_set 2 [] sc_verdict.nd (de_call C_moves (hr.mono (by decide)) (by rfl) (da_cons (de_var 0) (da_cons (de_var 1) da_nil))))
      (dss_cons (ds_if [] (dt_cmp opd_gt (de_callB (cld_len) (by rfl) T.len (by decide +kernel) (da_cons (de_var 2) da_nil)) de_int (nomark _)) (dss_one (ds_ret [] (de_tup (da_cons de_str (da_cons (de_sub (de_var 2) de_int) da_nil))))) dss_nil)
      (dss_cons (ds_own 3 [] sc_verdict.nd da_nil)
      (dss_cons (ds_for (.nm 4) [] rfl (di_seq (de_call C_bare (hr.mono (by decide)) (by rfl) (da_cons (de_var 0) (da_cons (de_var 1) da_nil)))) (pg_nm 4 sc_verdict.nd) (dss_one (ds_append 3 [] (de_tup (da_cons (de_var 4) (da_cons (de_sub (de_call C_attacks_on (hr.mono (by decide)) (by rfl) (da_cons (de_var 0) (da_cons (de_call C_after (hr.mono (by decide)) (by rfl) (da_cons (de_var 0) (da_cons (de_var 1) (da_cons (de_var 4) da_nil)))) (da_cons (de_sub (de_var 1) de_int) da_nil)))) de_int) da_nil))))))
      (dss_cons (ds_set 5 [] sc_verdict.nd (de_call C_attacks_on (hr.mono (by decide)) (by rfl) (da_cons (de_var 0) (da_cons (de_var 1) (da_cons (de_sub (de_var 1) de_int) da_nil)))))
      (dss_cons (ds_if [] (dt_cmp opd_gt (de_callB (cld_len) (by rfl) T.len (by decide +kernel) (da_cons (de_var 5) da_nil)) de_int (nomark _)) (dss_one (ds_ret [3] (de_tup (da_cons de_str (da_cons (de_var 5) (da_cons (de_var 3) da_nil)))))) dss_nil)
      (dss_one (ds_ret [3] (de_tup (da_cons de_str (da_cons (de_var 3) da_nil)))))))))))
abbrev s__law_cell : Stmt := top 62
abbrev N__law_cell : List Str := ["_law_script", "_law_k", "_law_number"]
def g__law_cell : FS := (seqS (ifS [] (binT dLt (varE 1) (callE gLen (consA (varE 0) nilA))) (retS [] (binE dAt (varE 0) (varE 1))) nilS)
    (seqS (asgS 2 [] (binE dAdd (binE dAdd (binE dMul (binE dMul (varE 1) (varE 1)) (litE (.int 7919))) (binE dMul (litE (.int 11)) (varE 1))) (litE (.int 5))))
    (seqS (ifS [] (binT dGt (callE gLen (consA (varE 0) nilA)) (litE (.int 0))) (asgS 2 [] (binE dAdd (varE 2) (binE dMul (binE dAt (varE 0) (binE dMod (binE dMul (varE 1) (litE (.int 7))) (callE gLen (consA (varE 0) nilA)))) (litE (.int 48271))))) nilS)
    (retS [] (binE dMod (binE dMul (varE 2) (varE 2)) (litE (.int 2147483629)))))))
def m__law_cell : List D → Option D := semD 3 g__law_cell
theorem sc__law_cell : FnScope N__law_cell ["_law_script", "_law_k"] (defScope s__law_cell) := ⟨rfl, rfl, rfl, by decide +kernel, rfl, by decide +kernel, by decide +kernel⟩
theorem ok__law_cell {P : Program} {w : World} {K : KF} {mg : Str → Option Value} {base : Heap} (T : Txt K w mg) {f : Addr} {fd : FuncData} (F : FnP K "_law_cell" s__law_cell f fd) : FnOk P w K mg base CX0 1 f fd ["_law_script", "_law_k"] (spD 2 m__law_cell) := by
  refine okFn (N := N__law_cell) (g := g__law_cell) F sc__law_cell rfl (fun cdv A outer s H E hr => ?_)
  exact (dss_cons (ds_if [] (dt_cmp opd_lt (de_var 1) (de_callB (cld_len) (by rfl) T.len (by decide +kernel) (da_cons (de_var 0) da_nil)) (nomark _)) (dss_one (ds_ret [] (de_sub (de_var 0) (de_var 1)))) dss_nil)
      (dss_cons (ds_set 2 [] sc__law_cell.nd (de_bin opd_add (de_bin opd_add (de_bin opd_mul (de_bin opd_mul (de_var 1) (de_var 1)) de_int) (de_bin opd_mul de_int (de_var 1))) de_int))
      (dss_cons (ds_if [] (dt_cmp opd_gt (de_callB (cld_len) (by rfl) T.len (by decide +kernel) (da_cons (de_var 0) da_nil)) de_int (nomark _)) (dss_one (ds_set 2 [] sc__law_cell.nd (de_bin opd_add (de_var 2) (de_bin opd_mul (de_sub (de_var 0) (de_bin opd_mod (de_bin opd_mul (de_var 1) de_int) (de_callB (cld_len) (by rfl) T.len (by decide +kernel) (da_cons (de_var 0) da_nil)))) de_int)))) dss_nil)
      (dss_one (ds_ret [] (de_bin opd_mod (de_bin opd_mul (de_var 2) (de_var 2)) de_int))))))
abbrev s__law_mixed : Stmt := top 63
abbrev N__law_mixed : List Str := ["_law_cell_here", "_law_k", "_law_number"]
def g__law_mixed : FS := (seqS (asgS 2 [] (binE dMod (binE dAdd (binE dAdd (varE 0) (binE dMul (varE 1) (litE (.int 40503)))) (binE dMul (binE dMul (varE 1) (varE 1)) (litE (.int 7)))) (litE (.int 2147483647))))
    (retS [] (binE dFdiv (binE dMod (binE dMul (varE 2) (litE (.int 48271))) (litE (.int 2147483629))) (binE dAdd (binE dMod (varE 1) (litE (.int 50))) (litE (.int 1))))))
def m__law_mixed : List D → Option D := semD 3 g__law_mixed
theorem sc__law_mixed : FnScope N__law_mixed ["_law_cell_here", "_law_k"] (defScope s__law_mixed) := ⟨rfl, rfl, rfl, by decide +kernel, rfl, by decide +kernel, by decide +kernel⟩
theorem ok__law_mixed {P : Program} {w : World} {K : KF} {mg : Str → Option Value} {base : Heap} (T : Txt K w mg) {f : Addr} {fd : FuncData} (F : FnP K "_law_mixed" s__law_mixed f fd) : FnOk P w K mg base CX0 1 f fd ["_law_cell_here", "_law_k"] (spD 2 m__law_mixed) := by
  refine okFn (N := N__law_mixed) (g := g__law_mixed) F sc__law_mixed rfl (fun cdv A outer s H E hr => ?_)
  exact (dss_cons (ds_set 2 [] sc__law_mixed.nd (de_bin opd_mod (de_bin opd_add (de_bin opd_add (de_var 0) (de_bin opd_mul (de_var 1) de_int)) (de_bin opd_mul (de_bin opd_mul (de_var 1) (de_var 1)) de_int)) de_int))
      (dss_one (ds_ret [] (de_bin opd_fdiv (de_bin opd_mod (de_bin opd_mul (de_var 2) de_int) de_int) (de_bin opd_add (de_bin opd_mod (de_var 1) de_int) de_int)))))
abbrev s__law_board : Stmt := top 64
abbrev N__law_board : List Str := ["_law_cell_here", "_law_wide", "_law_high", "_law_holes", "_law_spot_here"]
abbrev b__law_board_1 : FS := (ifS [] (binT dEq (binE dMod (callD 2 m__law_mixed (consA (binE dFdiv (varE 0) (litE (.int 200))) (consA (varE 4) nilA))) (litE (.int 9))) (litE (.int 0))) (asgS 3 [] (binE dOr (varE 3) (binE dShl (litE (.int 1)) (varE 4)))) nilS)
def g__law_board : FS := (seqS (asgS 1 [] (binE dAdd (litE (.int 1)) (binE dMod (varE 0) (litE (.int 4)))))
    (seqS (asgS 2 [] (binE dAdd (litE (.int 1)) (binE dMod (binE dFdiv (varE 0) (litE (.int 5))) (litE (.int 3)))))
    (seqS (asgS 3 [] (litE (.int 0)))
    (seqS (forS (.nm 4) [] (rng1I (binE dMul (varE 1) (varE 2))) b__law_board_1)
    (retS [] (tupE (consA (varE 1) (consA (varE 2) (consA (varE 3) nilA)))))))))
def m__law_board : List D → Option D := semD 5 g__law_board
theorem sc__law_board : FnScope N__law_board ["_law_cell_here"] (defScope s__law_board) := ⟨rfl, rfl, rfl, by decide +kernel, rfl, by decide +kernel, by decide +kernel⟩
theorem ok__law_board {P : Program} {w : World} {K : KF} {mg : Str → Option Value} {base : Heap} (T : Txt K w mg) (C__law_mixed : CallD P w K mg base 1 "_law_mixed" 2 m__law_mixed) {f : Addr} {fd : FuncData} (F : FnP K "_law_board" s__law_board f fd) : FnOk P w K mg base CX0 2 f fd ["_law_cell_here"] (spD 1 m__law_board) := by
  refine okFn (N := N__law_board) (g := g__law_board) F sc__law_board rfl (fun cdv A outer s H E hr => ?_)
  exact (dss_cons (ds_set 1 [] sc__law_board.nd (de_bin opd_add de_int (de_bin opd_mod (de_var 0) de_int)))
      (dss_cons (ds_set 2 [] sc__law_board.nd (de_bin opd_add de_int (de_bin opd_mod (de_bin opd_fdiv (de_var 0) de_int) de_int)))
      (dss_cons (ds_set 3 [] sc__law_board.nd de_int)
      (dss_cons (ds_for (.nm 4) [] rfl (di_rng1 (by rfl) T.range (de_bin opd_mul (de_var 1) (de_var 2))) (pg_nm 4 sc__law_board.nd) (dss_one (ds_if [] (dt_cmp (opd_eq hr.units) (de_bin opd_mod (de_call C__law_mixed (hr.mono (by decide)) (by rfl) (da_cons (de_bin opd_fdiv (de_var 0) de_int) (da_cons (de_var 4) da_nil))) de_int) de_int (nomark _)) (dss_one (ds_set 3 [] sc__law_board.nd (de_bin opd_or (de_var 3) (de_bin opd_shl de_int (de_var 4))))) dss_nil)))
      (dss_one (ds_ret [] (de_tup (da_cons (de_var 1) (da_cons (de_var 2) (da_cons (de_var 3) da_nil))))))))))
abbrev s__law_way : Stmt := top 65
abbrev N__law_way : List Str := ["_law_number", "_law_word", "_law_dx", "_law_dy", "_law_most", "_law_turn", "_law_use"]
def g__law_way : FS := (seqS (asgS 1 [] (binE dAt (lstE (consA (litE (.str "leap")) (consA (litE (.str "ride")) (consA (litE (.str "ride")) (consA (litE (.str "hop")) nilA))))) (binE dMod (varE 0) (litE (.int 4)))))
    (seqS (asgS 2 [] (binE dSub (binE dMod (binE dFdiv (varE 0) (litE (.int 4))) (litE (.int 5))) (litE (.int 2))))
    (seqS (asgS 3 [] (binE dSub (binE dMod (binE dFdiv (varE 0) (litE (.int 20))) (litE (.int 5))) (litE (.int 2))))
    (seqS (ifS [] (andT (binT dEq (varE 2) (litE (.int 0))) (binT dEq (varE 3) (litE (.int 0)))) (asgS 3 [] (litE (.int 1))) nilS)
    (seqS (asgS 4 [] (litE (.int 0)))
    (seqS (ifS [] (binT dNe (varE 1) (litE (.str "leap"))) (asgS 4 [] (binE dAt (lstE (consA (litE (.int 0)) (consA (litE (.int 0)) (consA (litE (.int 0)) (consA (litE (.int 1)) (consA (litE (.int 2)) (consA (litE (.int 3)) nilA))))))) (binE dMod (binE dFdiv (varE 0) (litE (.int 100))) (litE (.int 6))))) nilS)
    (seqS (asgS 5 [] (binE dAt (lstE (consA (litE (.str "one")) (consA (litE (.str "wide")) (consA (litE (.str "all")) (consA (litE (.str "wide")) nilA))))) (binE dMod (binE dFdiv (varE 0) (litE (.int 600))) (litE (.int 4)))))
    (seqS (asgS 6 [] (binE dAt (lstE (consA (litE (.str "both")) (consA (litE (.str "both")) (consA (litE (.str "both")) (consA (litE (.str "go")) (consA (litE (.str "take")) nilA)))))) (binE dMod (binE dFdiv (varE 0) (litE (.int 2400))) (litE (.int 5)))))
    (retS [] (tupE (consA (varE 1) (consA (varE 2) (consA (varE 3) (consA (varE 5) (consA (varE 6) (consA (binE dEq (binE dMod (binE dFdiv (varE 0) (litE (.int 12000))) (litE (.int 5))) (litE (.int 0))) (consA (varE 4) nilA)))))))))))))))))
def m__law_way : List D → Option D := semD 7 g__law_way
theorem sc__law_way : FnScope N__law_way ["_law_number"] (defScope s__law_way) := ⟨rfl, rfl, rfl, by decide +kernel, rfl, by decide +kernel, by decide +kernel⟩
theorem ok__law_way {P : Program} {w : World} {K : KF} {mg : Str → Option Value} {base : Heap} (T : Txt K w mg) {f : Addr} {fd : FuncData} (F : FnP K "_law_way" s__law_way f fd) : FnOk P w K mg base CX0 1 f fd ["_law_number"] (spD 1 m__law_way) := by
  refine okFn (N := N__law_way) (g := g__law_way) F sc__law_way rfl (fun cdv A outer s H E hr => ?_)
  exact (dss_cons (ds_set 1 [] sc__law_way.nd (de_sub (de_lst (da_cons de_str (da_cons de_str (da_cons de_str (da_cons de_str da_nil))))) (de_bin opd_mod (de_var 0) de_int)))
      (dss_cons (ds_set 2 [] sc__law_way.nd (de_bin opd_sub (de_bin opd_mod (de_bin opd_fdiv (de_var 0) de_int) de_int) de_int))
      (dss_cons (ds_set 3 [] sc__law_way.nd (de_bin opd_sub (de_bin opd_mod (de_bin opd_fdiv (de_var 0) de_int) de_int) de_int))
      (dss_cons (ds_if [] (DW.dt (dw_and (dt_cmp (opd_eq hr.units) (de_var 2) de_int (nomark _)) (dw_and1 (dt_cmp (opd_eq hr.units) (de_var 3) de_int (nomark _))))) (dss_one (ds_set 3 [] sc__law_way.nd de_int)) dss_nil)
      (dss_cons (ds_set 4 [] sc__law_way.nd de_int)
      (dss_cons (ds_if [] (dt_cmp (opd_ne hr.units) (de_var 1) de_str (nomark _)) (dss_one (ds_set 4 [] sc__law_way.nd (de_sub (de_lst (da_cons de_int (da_cons de_int (da_cons de_int (da_cons de_int (da_cons de_int (da_cons de_int da_nil))))))) (de_bin opd_mod (de_bin opd_fdiv (de_var 0) de_int) de_int)))) dss_nil)
      (dss_cons (ds_set 5 [] sc__law_way.nd (de_sub (de_lst (da_cons de_str (da_cons de_str (da_cons de_str (da_cons de_str da_nil))))) (de_bin opd_mod (de_bin opd_fdiv (de_var 0) de_int) de_int)))
      (dss_cons (ds_set 6 [] sc__law_way.nd (de_sub (de_lst (da_cons de_str (da_cons de_str (da_cons de_str (da_cons de_str (da_cons de_str da_nil)))))) (de_bin opd_mod (de_bin opd_fdiv (de_var 0) de_int) de_int)))
      (dss_one (ds_ret [] (de_tup (da_cons (de_var 1) (da_cons (de_var 2) (da_cons (de_var 3) (da_cons (de_var 5) (da_cons (de_var 6) (da_cons (de_cmp (opd_eq hr.units) (de_bin opd_mod (de_bin opd_fdiv (de_var 0) de_int) de_int) de_int (nomark _)) (da_cons (de_var 4) da_nil))))))))))))))))))
abbrev s__law_strong : Stmt := top 66
abbrev N__law_strong : List Str := ["_law_k", "_law_number"]
def g__law_strong : FS := (seqS (ifS [] (binT dEq (varE 0) (litE (.int 0))) (retS [] (tupE (consA (litE (.str "leap")) (consA (litE (.int 1)) (consA (binE dMod (varE 1) (litE (.int 2))) (consA (litE (.str "all")) (consA (litE (.str "both")) (consA (litE (.bool false)) (consA (litE (.int 0)) nilA))))))))) nilS)
    (retS [] (tupE (consA (binE dAt (lstE (consA (litE (.str "ride")) (consA (litE (.str "ride")) (consA (litE (.str "hop")) nilA)))) (binE dMod (varE 1) (litE (.int 3)))) (consA (litE (.int 1)) (consA (binE dMod (binE dFdiv (varE 1) (litE (.int 3))) (litE (.int 2))) (consA (litE (.str "all")) (consA (litE (.str "both")) (consA (litE (.bool false)) (consA (litE (.int 0)) nilA))))))))))
def m__law_strong : List D → Option D := semD 2 g__law_strong
theorem sc__law_strong : FnScope N__law_strong ["_law_k", "_law_number"] (defScope s__law_strong) := ⟨rfl, rfl, rfl, by decide +kernel, rfl, by decide +kernel, by decide +kernel⟩
theorem ok__law_strong {P : Program} {w : World} {K : KF} {mg : Str → Option Value} {base : Heap} (T : Txt K w mg) {f : Addr} {fd : FuncData} (F : FnP K "_law_strong" s__law_strong f fd) : FnOk P w K mg base CX0 1 f fd ["_law_k", "_law_number"] (spD 2 m__law_strong) := by
  refine okFn (N := N__law_strong) (g := g__law_strong) F sc__law_strong rfl (fun cdv A outer s H E hr => ?_)
  exact (dss_cons (ds_if [] (dt_cmp (opd_eq hr.units) (de_var 0) de_int (nomark _)) (dss_one (ds_ret [] (de_tup (da_cons de_str (da_cons de_int (da_cons (de_bin opd_mod (de_var 1) de_int) (da_cons de_str (da_cons de_str (da_cons de_bl (da_cons de_int da_nil)))))))))) dss_nil)
      (dss_one (ds_ret [] (de_tup (da_cons (de_sub (de_lst (da_cons de_str (da_cons de_str (da_cons de_str da_nil)))) (de_bin opd_mod (de_var 1) de_int)) (da_cons de_int (da_cons (de_bin opd_mod (de_bin opd_fdiv (de_var 1) de_int) de_int) (da_cons de_str (da_cons de_str (da_cons de_bl (da_cons de_int da_nil)))))))))))
abbrev s__law_kind : Stmt := top 67
abbrev N__law_kind : List Str := ["_law_k", "_law_cell_here", "_law_letters", "_law_high", "_law_strong_here", "_law_ways", "_law_becomes", "_law_row", "_law_royal", "_law_j"]
abbrev e__law_kind_1 : FE := (callD 1 m__law_way (consA (callD 2 m__law_mixed (consA (varE 1) (consA (binE dAdd (litE (.int 3)) (varE 9)) nilA))) nilA))
def g__law_kind : FS := (seqS (asgS 5 [] (compE [9] (.nm 9) (rng1I (binE dMod (varE 1) (litE (.int 3)))) yesT e__law_kind_1))
    (seqS (ifS [] (tstT (varE 4)) (asgS 5 [] (binE dAdd (lstE (consA (callD 2 m__law_strong (consA (varE 0) (consA (binE dFdiv (varE 1) (litE (.int 3))) nilA))) nilA)) (slE (varE 5) noneO (someO (litE (.int 1))) dCut))) nilS)
    (seqS (asgS 6 [] (litE (.str "")))
    (seqS (asgS 7 [] (litE (.int 0)))
    (seqS (ifS [] (binT dEq (binE dMod (binE dFdiv (varE 1) (litE (.int 6))) (litE (.int 3))) (litE (.int 0))) (seqS (asgS 6 [] (binE dAt (varE 2) (binE dMod (binE dFdiv (varE 1) (litE (.int 18))) (callE gLen (consA (varE 2) nilA)))))
    (asgS 7 [] (binE dAdd (litE (.int 1)) (binE dMod (binE dFdiv (varE 1) (litE (.int 90))) (varE 3))))) nilS)
    (seqS (asgS 8 [] (orE (andE (binE dEq (varE 0) (litE (.int 0))) (binE dGt (binE dMod (binE dFdiv (varE 1) (litE (.int 450))) (litE (.int 8))) (litE (.int 0)))) (binE dEq (binE dMod (binE dFdiv (varE 1) (litE (.int 450))) (litE (.int 11))) (litE (.int 0)))))
    (retS [] (tupE (consA (binE dAt (varE 2) (varE 0)) (consA (varE 8) (consA (binE dEq (binE dMod (binE dFdiv (varE 1) (litE (.int 5))) (litE (.int 2))) (litE (.int 0))) (consA (varE 6) (consA (varE 7) (consA (callE gTuple (consA (varE 5) nilA)) nilA))))))))))))))
def m__law_kind : List D → Option D := semD 10 g__law_kind
theorem sc__law_kind : FnScope N__law_kind ["_law_k", "_law_cell_here", "_law_letters", "_law_high", "_law_strong_here"] (defScope s__law_kind) := ⟨rfl, rfl, rfl, by decide +kernel, rfl, by decide +kernel, by decide +kernel⟩
theorem ok__law_kind {P : Program} {w : World} {K : KF} {mg : Str → Option Value} {base : Heap} (T : Txt K w mg) (C__law_mixed : CallD P w K mg base 1 "_law_mixed" 2 m__law_mixed) (C__law_way : CallD P w K mg base 1 "_law_way" 1 m__law_way) (C__law_strong : CallD P w K mg base 1 "_law_strong" 2 m__law_strong) {f : Addr} {fd : FuncData} (F : FnP K "_law_kind" s__law_kind f fd) : FnOk P w K mg base CX0 2 f fd ["_law_k", "_law_cell_here", "_law_letters", "_law_high", "_law_strong_here"] (spD 5 m__law_kind) := by
  refine okFn (N := N__law_kind) (g := g__law_kind) F sc__law_kind rfl (fun cdv A outer s H E hr => ?_)
  exact (dss_cons (ds_setC 5 [] [("_law_j", 9)] (.nm 9) rfl sc__law_kind.nd (di_rng1 (by rfl) T.range (de_bin opd_mod (de_var 1) de_int)) (blkOk_by (N := N__law_kind) (sc := defScope s__law_kind) (by decide +kernel)) (fun _ _ _ _ _ => (pg_nm 9 sc__law_kind.nd)) (fun _ _ _ _ _ => dts_nil) (fun _ _ _ _ _ => (de_call C__law_way (hr.mono (by decide)) (by rfl) (da_cons (de_call C__law_mixed (hr.mono (by decide)) (by rfl) (da_cons (de_var 1) (da_cons (de_bin opd_add de_int (de_var 9)) da_nil))) da_nil))))
      (dss_cons (ds_if [] (dt_val (de_var 4)) (dss_one (ds_set 5 [] sc__law_kind.nd (de_bin opd_add (de_lst (da_cons (de_call C__law_strong (hr.mono (by decide)) (by rfl) (da_cons (de_var 0) (da_cons (de_bin opd_fdiv (de_var 1) de_int) da_nil))) da_nil)) (de_slice (de_var 5) do_none (do_some de_int))))) dss_nil)
      (dss_cons (ds_set 6 [] sc__law_kind.nd de_str)
      (dss_cons (ds_set 7 [] sc__law_kind.nd de_int)
      (dss_cons (ds_if [] (dt_cmp (opd_eq hr.units) (de_bin opd_mod (de_bin opd_fdiv (de_var 1) de_int) de_int) de_int (nomark _)) (dss_cons (ds_set 6 [] sc__law_kind.nd (de_sub (de_var 2) (de_bin opd_mod (de_bin opd_fdiv (de_var 1) de_int) (de_callB (cld_len) (by rfl) T.len (by decide +kernel) (da_cons (de_var 2) da_nil)))))
      (dss_one (ds_set 7 [] sc__law_kind.nd (de_bin opd_add de_int (de_bin opd_mod (de_bin opd_fdiv (de_var 1) de_int) (de_var 3)))))) dss_nil)
      (dss_cons (ds_set 8 [] sc__law_kind.nd (de_or (de_and (de_cmp (opd_eq hr.units) (de_var 0) de_int (nomark _)) (de_one (de_cmp opd_gt (de_bin opd_mod (de_bin opd_fdiv (de_var 1) de_int) de_int) de_int (nomark _)))) (de_one (de_cmp (opd_eq hr.units) (de_bin opd_mod (de_bin opd_fdiv (de_var 1) de_int) de_int) de_int (nomark _)))))
      (dss_one (ds_ret [] (de_tup (da_cons (de_sub (de_var 2) (de_var 0)) (da_cons (de_var 8) (da_cons (de_cmp (opd_eq hr.units) (de_bin opd_mod (de_bin opd_fdiv (de_var 1) de_int) de_int) de_int (nomark _)) (da_cons (de_var 6) (da_cons (de_var 7) (da_cons (de_callTy (cld_tuple) (by rfl) T.tuple (by decide +kernel) (da_cons (de_var 5) da_nil)) da_nil)))))))))))))))
abbrev s__law_rules : Stmt := top 68
abbrev N__law_rules : List Str := ["_law_script", "_law_board_here", "_law_cell_here", "_law_alphabet", "_law_letters", "_law_strong_here", "_law_kinds", "_law_k", "_law_pairs", "_law_pair", "_law_stuck", "_law_calm"]
abbrev e__law_rules_1 : FE := (binE dAt (varE 3) (binE dMod (binE dAdd (binE dFdiv (varE 2) (litE (.int 4))) (binE dMul (litE (.int 7)) (varE 7))) (litE (.int 26))))
abbrev b__law_rules_2 : FS := (appS 6 [] (callD 5 m__law_kind (consA (varE 7) (consA (callD 2 m__law_mixed (consA (callD 2 m__law_cell (consA (varE 0) (consA (binE dAdd (litE (.int 2)) (varE 7)) nilA))) (consA (litE (.int 1)) nilA))) (consA (varE 4) (consA (binE dAt (varE 1) (litE (.int 1))) (consA (varE 5) nilA)))))))
abbrev b__law_rules_3 : FS := (seqS (asgS 9 [] (tupE (consA (binE dAt (varE 4) (litE (.int 0))) (consA (binE dAt (varE 4) (binE dMod (callD 2 m__law_mixed (consA (varE 2) (consA (varE 7) nilA))) (callE gLen (consA (varE 4) nilA)))) nilA))))
    (ifS [] (inOwnT not (varE 9) 8) (appS 8 [] (varE 9)) nilS))
def g__law_rules : FS := (seqS (asgS 1 [] (callD 1 m__law_board (consA (callD 2 m__law_cell (consA (varE 0) (consA (litE (.int 0)) nilA))) nilA)))
    (seqS (asgS 2 [] (callD 2 m__law_cell (consA (varE 0) (consA (litE (.int 1)) nilA))))
    (seqS (asgS 3 [] (litE (.str "abcdefghijklmnopqrstuvwxyz")))
    (seqS (asgS 4 [] (compE [7] (.nm 7) (rng1I (binE dAdd (litE (.int 1)) (binE dMod (varE 2) (litE (.int 4))))) yesT e__law_rules_1))
    (seqS (asgS 5 [] (binE dEq (binE dMod (binE dFdiv (varE 2) (litE (.int 104))) (litE (.int 2))) (litE (.int 0))))
    (seqS (ownS 6 [] nilA)
    (seqS (forS (.nm 7) [] (rng1I (callE gLen (consA (varE 4) nilA))) b__law_rules_2)
    (seqS (ownS 8 [] nilA)
    (seqS (forS (.nm 7) [] (rng1I (binE dMod (binE dFdiv (varE 2) (litE (.int 208))) (litE (.int 3)))) b__law_rules_3)
    (seqS (asgS 10 [] (binE dAt (lstE (consA (litE (.str "even")) (consA (litE (.str "lost")) (consA (litE (.str "won")) nilA)))) (binE dMod (binE dFdiv (varE 2) (litE (.int 624))) (litE (.int 3)))))
    (seqS (asgS 11 [] (binE dAt (lstE (consA (litE (.int 0)) (consA (litE (.int 0)) (consA (litE (.int 3)) (consA (litE (.int 6)) (consA (litE (.int 200)) nilA)))))) (binE dMod (binE dFdiv (varE 2) (litE (.int 1872))) (litE (.int 5)))))
    (retS [6, 8] (tupE (consA (varE 1) (consA (callE gTuple (consA (varE 6) nilA)) (consA (callE gTuple (consA (varE 8) nilA)) (consA (tupE (consA (varE 10) (consA (varE 11) (consA (binE dAt (lstE (consA (litE (.int 0)) (consA (litE (.int 2)) (consA (litE (.int 3)) (consA (litE (.int 2)) nilA))))) (binE dMod (binE dFdiv (varE 2) (litE (.int 9360))) (litE (.int 4)))) nilA)))) nilA)))))))))))))))))
def m__law_rules : List D → Option D := semD 12 g__law_rules
theorem sc__law_rules : FnScope N__law_rules ["_law_script"] (defScope s__law_rules) := ⟨rfl, rfl, rfl, by decide +kernel, rfl, by decide +kernel, by decide +kernel⟩
theorem ok__law_rules {P : Program} {w : World} {K : KF} {mg : Str → Option Value} {base : Heap} (T : Txt K w mg) (C__law_cell : CallD P w K mg base 1 "_law_cell" 2 m__law_cell) (C__law_board : CallD P w K mg base 2 "_law_board" 1 m__law_board) (C__law_mixed : CallD P w K mg base 1 "_law_mixed" 2 m__law_mixed) (C__law_kind : CallD P w K mg base 2 "_law_kind" 5 m__law_kind) {f : Addr} {fd : FuncData} (F : FnP K "_law_rules" s__law_rules f fd) : FnOk P w K mg base CX0 3 f fd ["_law_script"] (spD 1 m__law_rules) := by
  refine okFn (N := N__law_rules) (g := g__law_rules) F sc__law_rules rfl (fun cdv A outer s H E hr => ?_)
  exact (dss_cons (ds_set 1 [] sc__law_rules.nd (de_call C__law_board (hr.mono (by decide)) (by rfl) (da_cons (de_call C__law_cell (hr.mono (by decide)) (by rfl) (da_cons (de_var 0) (da_cons de_int da_nil))) da_nil)))
      (dss_cons (ds_set 2 [] sc__law_rules.nd (de_call C__law_cell (hr.mono (by decide)) (by rfl) (da_cons (de_var 0) (da_cons de_int da_nil))))
      (dss_cons (ds_set 3 [] sc__law_rules.nd de_str)
      (dss_cons (ds_setC 4 [] [("_law_k", 7)] (.nm 7) rfl sc__law_rules.nd (di_rng1 (by rfl) T.range (de_bin opd_add de_int (de_bin opd_mod (de_var 2) de_int))) (blkOk_by (N := N__law_rules) (sc := defScope s__law_rules) (by decide +kernel)) (fun _ _ _ _ _ => (pg_nm 7 sc__law_rules.nd)) (fun _ _ _ _ _ => dts_nil) (fun _ _ _ _ _ => (de_sub (de_var 3) (de_bin opd_mod (de_bin opd_add (de_bin opd_fdiv (de_var 2) de_int) (de_bin opd_mul de_int (de_var 7))) de_int))))
      (dss_cons (ds_set 5 [] sc__law_rules.nd (de_cmp (opd_eq hr.units) (de_bin opd_mod (de_bin opd_fdiv (de_var 2) de_int) de_int) de_int (nomark _)))
      (dss_cons (ds_own 6 [] sc__law_rules.nd da_nil)
      (dss_cons (ds_for (.nm 7) [] rfl (di_rng1 (by rfl) T.range (de_callB (cld_len) (by rfl) T.len (by decide +kernel) (da_cons (de_var 4) da_nil))) (pg_nm 7 sc__law_rules.nd) (dss_one (ds_append 6 [] (de_call C__law_kind (hr.mono (by decide)) (by rfl) (da_cons (de_var 7) (da_cons (de_call C__law_mixed (hr.mono (by decide)) (by rfl) (da_cons (de_call C__law_cell (hr.mono (by decide)) (by rfl) (da_cons (de_var 0) (da_cons (de_bin opd_add de_int (de_var 7)) da_nil))) (da_cons de_int da_nil))) (da_cons (de_var 4) (da_cons (de_sub (de_var 1) de_int) (da_cons (de_var 5) da_nil)))))))))
      (dss_cons (ds_own 8 [] sc__law_rules.nd da_nil)
      (dss_cons (ds_for (.nm 7) [] rfl (di_rng1 (by rfl) T.range (de_bin opd_mod (de_bin opd_fdiv (de_var 2) de_int) de_int)) (pg_nm 7 sc__law_rules.nd) (dss_cons (ds_set 9 [] sc__law_rules.nd (de_tup (da_cons (de_sub (de_var 4) de_int) (da_cons (de_sub (de_var 4) (de_bin opd_mod (de_call C__law_mixed (hr.mono (by decide)) (by rfl) (da_cons (de_var 2) (da_cons (de_var 7) da_nil))) (de_callB (cld_len) (by rfl) T.len (by decide +kernel) (da_cons (de_var 4) da_nil)))) da_nil))))
      (dss_one (ds_if [] (dt_notInOwn hr.u65 (de_var 9) 8) (dss_one (ds_append 8 [] (de_var 9))) dss_nil))))
      (dss_cons (ds_set 10 [] sc__law_rules.nd (de_sub (de_lst (da_cons de_str (da_cons de_str (da_cons de_str da_nil)))) (de_bin opd_mod (de_bin opd_fdiv (de_var 2) de_int) de_int)))
      (dss_cons (ds_set 11 [] sc__law_rules.nd (de_sub (de_lst (da_cons de_int (da_cons de_int (da_cons de_int (da_cons de_int (da_cons de_int da_nil)))))) (de_bin opd_mod (de_bin opd_fdiv (de_var 2) de_int) de_int)))
      (dss_one (ds_ret [6, 8] (de_tup (da_cons (de_var 1) (da_cons (de_callTy (cld_tuple) (by rfl) T.tuple (by decide +kernel) (da_cons (de_var 6) da_nil)) (da_cons (de_callTy (cld_tuple) (by rfl) T.tuple (by decide +kernel) (da_cons (de_var 8) da_nil)) (da_cons (de_tup (da_cons (de_var 10) (da_cons (de_var 11) (da_cons (de_sub (de_lst (da_cons de_int (da_cons de_int (da_cons de_int (da_cons de_int da_nil))))) (de_bin opd_mod (de_bin opd_fdiv (de_var 2) de_int) de_int)) da_nil)))) da_nil))))))))))))))))))
abbrev s__law_cells : Stmt := top 69
abbrev N__law_cells : List Str := ["_law_script", "_law_start", "_law_rules_here", "_law_board_here", "_law_share", "_law_cells_here", "_law_spot_here", "_law_number", "_law_sign", "_law_first", "_law_one", "_law_other", "_law_middle"]
abbrev b__law_cells_1 : FS := (seqS (asgS 7 [] (callD 2 m__law_mixed (consA (callD 2 m__law_cell (consA (varE 0) (consA (binE dAdd (binE dAdd (varE 1) (litE (.int 1))) (varE 6)) nilA))) (consA (varE 6) nilA))))
    (seqS (asgS 8 [] (litE (.str ".")))
    (seqS (ifS [] (binT dEq (binE dMod (varE 7) (varE 4)) (litE (.int 0))) (seqS (asgS 8 [] (binE dAt (binE dAt (binE dAt (varE 2) (litE (.int 1))) (binE dMod (binE dFdiv (varE 7) (varE 4)) (callE gLen (consA (binE dAt (varE 2) (litE (.int 1))) nilA)))) (litE (.int 0))))
    (ifS [] (binT dEq (binE dMod (binE dFdiv (varE 7) (litE (.int 16))) (litE (.int 2))) (litE (.int 0))) (asgS 8 [] (mE gUpper (varE 8))) nilS)) nilS)
    (seqS (ifS [] (binT dEq (binE dAnd (binE dShr (binE dAt (varE 3) (litE (.int 2))) (varE 6)) (litE (.int 1))) (litE (.int 1))) (asgS 8 [] (litE (.str "#"))) nilS)
    (asgS 5 [] (binE dAdd (varE 5) (varE 8)))))))
def g__law_cells : FS := (seqS (asgS 3 [] (binE dAt (varE 2) (litE (.int 0))))
    (seqS (asgS 4 [] (binE dAdd (litE (.int 4)) (binE dMod (callD 2 m__law_cell (consA (varE 0) (consA (varE 1) nilA))) (litE (.int 3)))))
    (seqS (asgS 5 [] (litE (.str "")))
    (seqS (forS (.nm 6) [] (rng1I (binE dMul (binE dAt (varE 3) (litE (.int 0))) (binE dAt (varE 3) (litE (.int 1))))) b__law_cells_1)
    (seqS (asgS 9 [] (slE (varE 5) noneO (someO (binE dAt (varE 3) (litE (.int 0)))) dCut))
    (seqS (ifS [] (andT (binT dGt (callE gLen (consA (binE dAt (varE 2) (litE (.int 2))) nilA)) (litE (.int 0))) (andT (binT dGt (binE dAt (varE 3) (litE (.int 0))) (litE (.int 3))) (binT dNotIn (litE (.str "#")) (varE 9)))) (seqS (unpS (.tp [10, 11]) [] (binE dAt (binE dAt (varE 2) (litE (.int 2))) (litE (.int 0))))
    (seqS (ifS [] (binT dEq (binE dMod (binE dFdiv (callD 2 m__law_cell (consA (varE 0) (consA (varE 1) nilA))) (litE (.int 5))) (litE (.int 2))) (litE (.int 0))) (seqS (asgS 10 [] (mE gUpper (varE 10)))
    (asgS 11 [] (mE gUpper (varE 11)))) nilS)
    (ifS [] (binT dEq (binE dMod (binE dFdiv (callD 2 m__law_cell (consA (varE 0) (consA (varE 1) nilA))) (litE (.int 10))) (litE (.int 3))) (litE (.int 0))) (seqS (asgS 12 [] (binE dMul (litE (.str ".")) (binE dSub (binE dAt (varE 3) (litE (.int 0))) (litE (.int 2)))))
    (asgS 5 [] (binE dAdd (binE dAdd (binE dAdd (varE 10) (varE 12)) (varE 11)) (slE (varE 5) (someO (binE dAt (varE 3) (litE (.int 0)))) noneO dCut)))) nilS))) nilS)
    (retS [] (varE 5))))))))
def m__law_cells : List D → Option D := semD 13 g__law_cells
theorem sc__law_cells : FnScope N__law_cells ["_law_script", "_law_start", "_law_rules_here"] (defScope s__law_cells) := ⟨rfl, rfl, rfl, by decide +kernel, rfl, by decide +kernel, by decide +kernel⟩
theorem ok__law_cells {P : Program} {w : World} {K : KF} {mg : Str → Option Value} {base : Heap} (T : Txt K w mg) (C__law_cell : CallD P w K mg base 1 "_law_cell" 2 m__law_cell) (C__law_mixed : CallD P w K mg base 1 "_law_mixed" 2 m__law_mixed) {f : Addr} {fd : FuncData} (F : FnP K "_law_cells" s__law_cells f fd) : FnOk P w K mg base CX0 2 f fd ["_law_script", "_law_start", "_law_rules_here"] (spD 3 m__law_cells) := by
  refine okFn (N := N__law_cells) (g := g__law_cells) F sc__law_cells rfl (fun cdv A outer s H E hr => ?_)
  exact (dss_cons (ds_set 3 [] sc__law_cells.nd (de_sub (de_var 2) de_int))
      (dss_cons (ds_set 4 [] sc__law_cells.nd (de_bin opd_add de_int (de_bin opd_mod (de_call C__law_cell (hr.mono (by decide)) (by rfl) (da_cons (de_var 0) (da_cons (de_var 1) da_nil))) de_int)))
      (dss_cons (ds_set 5 [] sc__law_cells.nd de_str)
      (dss_cons (ds_for (.nm 6) [] rfl (di_rng1 (by rfl) T.range (de_bin opd_mul (de_sub (de_var 3) de_int) (de_sub (de_var 3) de_int))) (pg_nm 6 sc__law_cells.nd) (dss_cons (ds_set 7 [] sc__law_cells.nd (de_call C__law_mixed (hr.mono (by decide)) (by rfl) (da_cons (de_call C__law_cell (hr.mono (by decide)) (by rfl) (da_cons (de_var 0) (da_cons (de_bin opd_add (de_bin opd_add (de_var 1) de_int) (de_var 6)) da_nil))) (da_cons (de_var 6) da_nil))))
      (dss_cons (ds_set 8 [] sc__law_cells.nd de_str)
      (dss_cons (ds_if [] (dt_cmp (opd_eq hr.units) (de_bin opd_mod (de_var 7) (de_var 4)) de_int (nomark _)) (dss_cons (ds_set 8 [] sc__law_cells.nd (de_sub (de_sub (de_sub (de_var 2) de_int) (de_bin opd_mod (de_bin opd_fdiv (de_var 7) (de_var 4)) (de_callB (cld_len) (by rfl) T.len (by decide +kernel) (da_cons (de_sub (de_var 2) de_int) da_nil)))) de_int))
      (dss_one (ds_if [] (dt_cmp (opd_eq hr.units) (de_bin opd_mod (de_bin opd_fdiv (de_var 7) de_int) de_int) de_int (nomark _)) (dss_one (ds_set 8 [] sc__law_cells.nd (de_upper (de_var 8)))) dss_nil))) dss_nil)
      (dss_cons (ds_if [] (dt_cmp (opd_eq hr.units) (de_bin opd_and (de_bin opd_shr (de_sub (de_var 3) de_int) (de_var 6)) de_int) de_int (nomark _)) (dss_one (ds_set 8 [] sc__law_cells.nd de_str)) dss_nil)
      (dss_one (ds_set 5 [] sc__law_cells.nd (de_bin opd_add (de_var 5) (de_var 8)))))))))
      (dss_cons (ds_set 9 [] sc__law_cells.nd (de_slice (de_var 5) do_none (do_some (de_sub (de_var 3) de_int))))
      (dss_cons (ds_if [] (DW.dt (dw_and (dt_cmp opd_gt (de_callB (cld_len) (by rfl) T.len (by decide +kernel) (da_cons (de_sub (de_var 2) de_int) da_nil)) de_int (nomark _)) (dw_and (dt_cmp opd_gt (de_sub (de_var 3) de_int) de_int (nomark _)) (dw_and1 (dt_cmp (opd_notin hr.u65) de_str (de_var 9) (by rfl)))))) (dss_cons (ds_unp (.tp [10, 11]) [] (de_sub (de_sub (de_var 2) de_int) de_int) (pg_tp rfl (pgs_cn 10 sc__law_cells.nd (pgs_cn 11 sc__law_cells.nd pgs_nl))))
      (dss_cons (ds_if [] (dt_cmp (opd_eq hr.units) (de_bin opd_mod (de_bin opd_fdiv (de_call C__law_cell (hr.mono (by decide)) (by rfl) (da_cons (de_var 0) (da_cons (de_var 1) da_nil))) de_int) de_int) de_int (nomark _)) (dss_cons (ds_set 10 [] sc__law_cells.nd (de_upper (de_var 10)))
      (dss_one (ds_set 11 [] sc__law_cells.nd (de_upper (de_var 11))))) dss_nil)
      (dss_one (ds_if [] (dt_cmp (opd_eq hr.units) (de_bin opd_mod (de_bin opd_fdiv (de_call C__law_cell (hr.mono (by decide)) (by rfl) (da_cons (de_var 0) (da_cons (de_var 1) da_nil))) de_int) de_int) de_int (nomark _)) (dss_cons (ds_set 12 [] sc__law_cells.nd (de_bin opd_mul de_str (de_bin opd_sub (de_sub (de_var 3) de_int) de_int)))
      (dss_one (ds_set 5 [] sc__law_cells.nd (de_bin opd_add (de_bin opd_add (de_bin opd_add (de_var 10) (de_var 12)) (de_var 11)) (de_slice (de_var 5) (do_some (de_sub (de_var 3) de_int)) do_none))))) dss_nil)))) dss_nil)
      (dss_one (ds_ret [] (de_var 5)))))))))
abbrev s__law_may : Stmt := top 70
abbrev N__law_may : List Str := ["_law_rules_here", "_law_sign", "_law_kind_here", "_law_once", "_law_paired", "_law_way_here", "_law_pair"]
abbrev c__law_may_1 : FT := (tstT (binE dAt (varE 5) (litE (.int 5))))
abbrev e__law_may_2 : FE := (varE 5)
abbrev c__law_may_3 : FT := (binT dIn (mE gLower (varE 1)) (varE 6))
abbrev e__law_may_4 : FE := (varE 6)
abbrev b__law_may_5 : FS := (ifS [] (binT dEq (binE dAt (varE 2) (litE (.int 0))) (mE gLower (varE 1))) (seqS (asgS 3 [] (compE [5] (.nm 5) (seqI (binE dAt (varE 2) (litE (.int 5)))) c__law_may_1 e__law_may_2))
    (seqS (asgS 4 [] (compE [6] (.nm 6) (seqI (binE dAt (varE 0) (litE (.int 2)))) c__law_may_3 e__law_may_4))
    (retS [] (binE dGt (binE dAdd (callE gLen (consA (varE 3) nilA)) (callE gLen (consA (varE 4) nilA))) (litE (.int 0)))))) nilS)
def g__law_may : FS := (seqS (forS (.nm 2) [] (seqI (binE dAt (varE 0) (litE (.int 1)))) b__law_may_5)
    (retS [] (litE (.bool false))))
def m__law_may : List D → Option D := semD 7 g__law_may
theorem sc__law_may : FnScope N__law_may ["_law_rules_here", "_law_sign"] (defScope s__law_may) := ⟨rfl, rfl, rfl, by decide +kernel, rfl, by decide +kernel, by decide +kernel⟩
theorem ok__law_may {P : Program} {w : World} {K : KF} {mg : Str → Option Value} {base : Heap} (T : Txt K w mg) {f : Addr} {fd : FuncData} (F : FnP K "_law_may" s__law_may f fd) : FnOk P w K mg base CX0 1 f fd ["_law_rules_here", "_law_sign"] (spD 2 m__law_may) := by
  refine okFn (N := N__law_may) (g := g__law_may) F sc__law_may rfl (fun cdv A outer s H E hr => ?_)
  exact (dss_cons (ds_for (.nm 2) [] rfl (di_seq (de_sub (de_var 0) de_int)) (pg_nm 2 sc__law_may.nd) (dss_one (ds_if [] (dt_cmp (opd_eq hr.units) (de_sub (de_var 2) de_int) (de_lower (de_var 1)) (nomark _)) (dss_cons (ds_setC 3 [] [("_law_way_here", 5)] (.nm 5) rfl sc__law_may.nd (di_seq (de_sub (de_var 2) de_int)) (blkOk_by (N := N__law_may) (sc := defScope s__law_may) (by decide +kernel)) (fun _ _ _ _ _ => (pg_nm 5 sc__law_may.nd)) (fun _ _ _ _ _ => (dts_one (dt_val (de_sub (de_var 5) de_int)))) (fun _ _ _ _ _ => (de_var 5)))
      (dss_cons (ds_setC 4 [] [("_law_pair", 6)] (.nm 6) rfl sc__law_may.nd (di_seq (de_sub (de_var 0) de_int)) (blkOk_by (N := N__law_may) (sc := defScope s__law_may) (by decide +kernel)) (fun _ _ _ _ _ => (pg_nm 6 sc__law_may.nd)) (fun _ _ _ _ _ => (dts_one (dt_cmp (opd_in hr.u65) (de_lower (de_var 1)) (de_var 6) (by rfl)))) (fun _ _ _ _ _ => (de_var 6)))
      (dss_one (ds_ret [] (de_cmp opd_gt (de_bin opd_add (de_callB (cld_len) (by rfl) T.len (by decide +kernel) (da_cons (de_var 3) da_nil)) (de_callB (cld_len) (by rfl) T.len (by decide +kernel) (da_cons (de_var 4) da_nil))) de_int (nomark _)))))) dss_nil)))
      (dss_one (ds_ret [] de_bl)))
abbrev s__law_steps : Stmt := top 71
abbrev N__law_steps : List Str := ["_law_way_here", "_law_side", "_law_dx", "_law_dy", "_law_some", "_law_one", "_law_other"]
abbrev b__law_steps_1 : FS := (asgS 4 [4] (binE dAdd (varE 4) (lstE (consA (tupE (consA (varE 5) (consA (varE 6) nilA))) (consA (tupE (consA (binE dSub (litE (.int 0)) (varE 5)) (consA (varE 6) nilA))) (consA (tupE (consA (varE 5) (consA (binE dSub (litE (.int 0)) (varE 6)) nilA))) (consA (tupE (consA (binE dSub (litE (.int 0)) (varE 5)) (consA (binE dSub (litE (.int 0)) (varE 6)) nilA))) nilA)))))))
abbrev e__law_steps_2 : FE := (tupE (consA (varE 5) (consA (binE dMul (varE 6) (binE dSub (litE (.int 1)) (binE dMul (litE (.int 2)) (varE 1)))) nilA)))
def g__law_steps : FS := (seqS (asgS 2 [] (binE dAt (varE 0) (litE (.int 1))))
    (seqS (asgS 3 [] (binE dAt (varE 0) (litE (.int 2))))
    (seqS (ownS 4 [] (consA (tupE (consA (varE 2) (consA (varE 3) nilA))) nilA))
    (seqS (ifS [] (binT dEq (binE dAt (varE 0) (litE (.int 3))) (litE (.str "wide"))) (appS 4 [] (tupE (consA (binE dSub (litE (.int 0)) (varE 2)) (consA (varE 3) nilA)))) nilS)
    (seqS (ifS [] (binT dEq (binE dAt (varE 0) (litE (.int 3))) (litE (.str "all"))) (forS (.tp [5, 6]) [] (seqI (tupE (consA (tupE (consA (varE 2) (consA (varE 3) nilA))) (consA (tupE (consA (varE 3) (consA (varE 2) nilA))) nilA)))) b__law_steps_1) nilS)
    (retS [4] (compE [5, 6] (.tp [5, 6]) (seqI (varE 4)) yesT e__law_steps_2)))))))
def m__law_steps : List D → Option D := semD 7 g__law_steps
theorem sc__law_steps : FnScope N__law_steps ["_law_way_here", "_law_side"] (defScope s__law_steps) := ⟨rfl, rfl, rfl, by decide +kernel, rfl, by decide +kernel, by decide +kernel⟩
theorem ok__law_steps {P : Program} {w : World} {K : KF} {mg : Str → Option Value} {base : Heap} (T : Txt K w mg) {f : Addr} {fd : FuncData} (F : FnP K "_law_steps" s__law_steps f fd) : FnOk P w K mg base CX0 1 f fd ["_law_way_here", "_law_side"] (spD 2 m__law_steps) := by
  refine okFn (N := N__law_steps) (g := g__law_steps) F sc__law_steps rfl (fun cdv A outer s H E hr => ?_)
  exact (dss_cons (ds_set 2 [] sc__law_steps.nd (de_sub (de_var 0) de_int))
      (dss_cons (ds_set 3 [] sc__law_steps.nd (de_sub (de_var 0) de_int))
      (dss_cons (ds_own 4 [] sc__law_steps.nd (da_cons (de_tup (da_cons (de_var 2) (da_cons (de_var 3) da_nil))) da_nil))
      (dss_cons (ds_if [] (dt_cmp (opd_eq hr.units) (de_sub (de_var 0) de_int) de_str (nomark _)) (dss_one (ds_append 4 [] (de_tup (da_cons (de_bin opd_sub de_int (de_var 2)) (da_cons (de_var 3) da_nil))))) dss_nil)
      (dss_cons (ds_if [] (dt_cmp (opd_eq hr.units) (de_sub (de_var 0) de_int) de_str (nomark _)) (dss_one (ds_for (.tp [5, 6]) [] rfl (di_seq (de_tup (da_cons (de_tup (da_cons (de_var 2) (da_cons (de_var 3) da_nil))) (da_cons (de_tup (da_cons (de_var 3) (da_cons (de_var 2) da_nil))) da_nil)))) (pg_tp rfl (pgs_cn 5 sc__law_steps.nd (pgs_cn 6 sc__law_steps.nd pgs_nl))) (dss_one (ds_set 4 [4] sc__law_steps.nd (de_bin opd_add (de_var 4) (de_lst (da_cons (de_tup (da_cons (de_var 5) (da_cons (de_var 6) da_nil))) (da_cons (de_tup (da_cons (de_bin opd_sub de_int (de_var 5)) (da_cons (de_var 6) da_nil))) (da_cons (de_tup (da_cons (de_var 5) (da_cons (de_bin opd_sub de_int (de_var 6)) da_nil))) (da_cons (de_tup (da_cons (de_bin opd_sub de_int (de_var 5)) (da_cons (de_bin opd_sub de_int (de_var 6)) da_nil))) da_nil)))))))))) dss_nil)
      (dss_one (ds_ret [4] (de_comp [("_law_one", 5), ("_law_other", 6)] (.tp [5, 6]) rfl sc__law_steps.nd (di_seq (de_var 4)) (blkOk_by (N := N__law_steps) (sc := defScope s__law_steps) (by decide +kernel)) (fun _ _ _ _ _ => (pg_tp rfl (pgs_cn 5 sc__law_steps.nd (pgs_cn 6 sc__law_steps.nd pgs_nl)))) (fun _ _ _ _ _ => dts_nil) (fun _ _ _ _ _ => (de_tup (da_cons (de_var 5) (da_cons (de_bin opd_mul (de_var 6) (de_bin opd_sub de_int (de_bin opd_mul de_int (de_var 1)))) da_nil))))))))))))
abbrev s__law_spot : Stmt := top 72
abbrev N__law_spot : List Str := ["_law_rules_here", "_law_column", "_law_row", "_law_wide", "_law_high", "_law_holes"]
def g__law_spot : FS := (seqS (unpS (.tp [3, 4, 5]) [] (binE dAt (varE 0) (litE (.int 0))))
    (seqS (ifS [] (orT (notT (chainT dLe dLt (litE (.int 0)) (varE 1) (varE 3))) (notT (chainT dLe dLt (litE (.int 0)) (varE 2) (varE 4)))) (retS [] (litE .none)) nilS)
    (retS [] (binE dAdd (binE dMul (varE 2) (varE 3)) (varE 1)))))
def m__law_spot : List D → Option D := semD 6 g__law_spot
theorem sc__law_spot : FnScope N__law_spot ["_law_rules_here", "_law_column", "_law_row"] (defScope s__law_spot) := ⟨rfl, rfl, rfl, by decide +kernel, rfl, by decide +kernel, by decide +kernel⟩
theorem ok__law_spot {P : Program} {w : World} {K : KF} {mg : Str → Option Value} {base : Heap} (T : Txt K w mg) {f : Addr} {fd : FuncData} (F : FnP K "_law_spot" s__law_spot f fd) : FnOk P w K mg base CX0 1 f fd ["_law_rules_here", "_law_column", "_law_row"] (spD 3 m__law_spot) := by
  refine okFn (N := N__law_spot) (g := g__law_spot) F sc__law_spot rfl (fun cdv A outer s H E hr => ?_)
  exact (dss_cons (ds_unp (.tp [3, 4, 5]) [] (de_sub (de_var 0) de_int) (pg_tp rfl (pgs_cn 3 sc__law_spot.nd (pgs_cn 4 sc__law_spot.nd (pgs_cn 5 sc__law_spot.nd pgs_nl)))))
      (dss_cons (ds_if [] (DW.dt (dw_or (dt_not (dt_chain opd_le opd_lt de_int (de_var 1) (de_var 3))) (dw_or1 (dt_not (dt_chain opd_le opd_lt de_int (de_var 2) (de_var 4)))))) (dss_one (ds_ret [] de_non)) dss_nil)
      (dss_one (ds_ret [] (de_bin opd_add (de_bin opd_mul (de_var 2) (de_var 3)) (de_var 1))))))
abbrev s__law_over_by : Stmt := top 73
abbrev N__law_over_by : List Str := ["_law_rules_here", "_law_cells_here", "_law_between", "_law_at", "_law_side", "_law_wide", "_law_kind_here", "_law_way_here", "_law_fits", "_law_dx", "_law_dy", "_law_begin", "_law_ahead"]
abbrev b__law_over_by_1 : FS := (seqS (asgS 11 [] (callD 3 m__law_spot (consA (varE 0) (consA (binE dSub (binE dMod (varE 2) (varE 5)) (varE 9)) (consA (binE dSub (binE dFdiv (varE 2) (varE 5)) (varE 10)) nilA)))))
    (seqS (asgS 12 [] (callD 3 m__law_spot (consA (varE 0) (consA (binE dAdd (binE dMod (varE 2) (varE 5)) (varE 9)) (consA (binE dAdd (binE dFdiv (varE 2) (varE 5)) (varE 10)) nilA)))))
    (ifS [] (andT (binT dEq (varE 12) (varE 3)) (andT (binT dIsNot (varE 11) (litE .none)) (binT dEq (binE dAt (varE 1) (varE 11)) (litE (.str "."))))) (retS [] (litE (.bool true))) nilS)))
abbrev b__law_over_by_2 : FS := (seqS (asgS 8 [] (andE (binE dEq (binE dAt (varE 6) (litE (.int 0))) (mE gLower (binE dAt (varE 1) (varE 3)))) (andE (notE (binE dAt (varE 6) (litE (.int 1)))) (andE (binE dEq (binE dAt (varE 7) (litE (.int 0))) (litE (.str "ride"))) (binE dAt (varE 7) (litE (.int 5)))))))
    (ifS [] (andT (tstT (varE 8)) (andT (binT dNe (binE dAt (varE 7) (litE (.int 4))) (litE (.str "take"))) (binT dNe (binE dAt (varE 7) (litE (.int 6))) (litE (.int 1))))) (forS (.tp [9, 10]) [] (seqI (callD 2 m__law_steps (consA (varE 7) (consA (varE 4) nilA)))) b__law_over_by_1) nilS))
abbrev b__law_over_by_3 : FS := (forS (.nm 7) [] (seqI (binE dAt (varE 6) (litE (.int 5)))) b__law_over_by_2)
def g__law_over_by : FS := (seqS (asgS 5 [] (binE dAt (binE dAt (varE 0) (litE (.int 0))) (litE (.int 0))))
    (seqS (forS (.nm 6) [] (seqI (binE dAt (varE 0) (litE (.int 1)))) b__law_over_by_3)
    (retS [] (litE (.bool false)))))
def m__law_over_by : List D → Option D := semD 13 g__law_over_by
theorem sc__law_over_by : FnScope N__law_over_by ["_law_rules_here", "_law_cells_here", "_law_between", "_law_at", "_law_side"] (defScope s__law_over_by) := ⟨rfl, rfl, rfl, by decide +kernel, rfl, by decide +kernel, by decide +kernel⟩
theorem ok__law_over_by {P : Program} {w : World} {K : KF} {mg : Str → Option Value} {base : Heap} (T : Txt K w mg) (C__law_steps : CallD P w K mg base 1 "_law_steps" 2 m__law_steps) (C__law_spot : CallD P w K mg base 1 "_law_spot" 3 m__law_spot) {f : Addr} {fd : FuncData} (F : FnP K "_law_over_by" s__law_over_by f fd) : FnOk P w K mg base CX0 2 f fd ["_law_rules_here", "_law_cells_here", "_law_between", "_law_at", "_law_side"] (spD 5 m__law_over_by) := by
  refine okFn (N := N__law_over_by) (g := g__law_over_by) F sc__law_over_by rfl (fun cdv A outer s H E hr => ?_)
  exact (dss_cons (ds_set 5 [] sc__law_over_by.nd (de_sub (de_sub (de_var 0) de_int) de_int))
      (dss_cons (ds_for (.nm 6) [] rfl (di_seq (de_sub (de_var 0) de_int)) (pg_nm 6 sc__law_over_by.nd) (dss_one (ds_for (.nm 7) [] rfl (di_seq (de_sub (de_var 6) de_int)) (pg_nm 7 sc__law_over_by.nd) (dss_cons (ds_set 8 [] sc__law_over_by.nd (de_and (de_cmp (opd_eq hr.units) (de_sub (de_var 6) de_int) (de_lower (de_sub (de_var 1) (de_var 3))) (nomark _)) (de_and (de_not (de_sub (de_var 6) de_int)) (de_and (de_cmp (opd_eq hr.units) (de_sub (de_var 7) de_int) de_str (nomark _)) (de_one (de_sub (de_var 7) de_int))))))
      (dss_one (ds_if [] (DW.dt (dw_and (dt_val (de_var 8)) (dw_and (dt_cmp (opd_ne hr.units) (de_sub (de_var 7) de_int) de_str (nomark _)) (dw_and1 (dt_cmp (opd_ne hr.units) (de_sub (de_var 7) de_int) de_int (nomark _)))))) (dss_one (ds_for (.tp [9, 10]) [] rfl (di_seq (de_call C__law_steps (hr.mono (by decide)) (by rfl) (da_cons (de_var 7) (da_cons (de_var 4) da_nil)))) (pg_tp rfl (pgs_cn 9 sc__law_over_by.nd (pgs_cn 10 sc__law_over_by.nd pgs_nl))) (dss_cons (ds_set 11 [] sc__law_over_by.nd (de_call C__law_spot (hr.mono (by decide)) (by rfl) (da_cons (de_var 0) (da_cons (de_bin opd_sub (de_bin opd_mod (de_var 2) (de_var 5)) (de_var 9)) (da_cons (de_bin opd_sub (de_bin opd_fdiv (de_var 2) (de_var 5)) (de_var 10)) da_nil)))))
      (dss_cons (ds_set 12 [] sc__law_over_by.nd (de_call C__law_spot (hr.mono (by decide)) (by rfl) (da_cons (de_var 0) (da_cons (de_bin opd_add (de_bin opd_mod (de_var 2) (de_var 5)) (de_var 9)) (da_cons (de_bin opd_add (de_bin opd_fdiv (de_var 2) (de_var 5)) (de_var 10)) da_nil)))))
      (dss_one (ds_if [] (DW.dt (dw_and (dt_cmp (opd_eq hr.units) (de_var 12) (de_var 3) (nomark _)) (dw_and (dt_cmp opd_isnot (de_var 11) de_non (nomark _)) (dw_and1 (dt_cmp (opd_eq hr.units) (de_sub (de_var 1) (de_var 11)) de_str (nomark _)))))) (dss_one (ds_ret [] de_bl)) dss_nil)))))) dss_nil))))))
      (dss_one (ds_ret [] de_bl))))
abbrev s__law_own : Stmt := top 76
abbrev N__law_own : List Str := ["_law_cells_here", "_law_side", "_law_found", "_law_spot_here"]
abbrev b__law_own_1 : FS := (ifS [] (andT (binT dNe (binE dAt (varE 0) (varE 3)) (litE (.str "."))) (andT (binT dNe (binE dAt (varE 0) (varE 3)) (litE (.str "#"))) (binT dEq (mE gIsLower (binE dAt (varE 0) (varE 3))) (binE dEq (varE 1) (litE (.int 1)))))) (appS 2 [] (varE 3)) nilS)
def g__law_own : FS := (seqS (ownS 2 [] nilA)
    (seqS (forS (.nm 3) [] (rng1I (callE gLen (consA (varE 0) nilA))) b__law_own_1)
    (retS [2] (varE 2))))
def m__law_own : List D → Option D := semD 4 g__law_own
theorem sc__law_own : FnScope N__law_own ["_law_cells_here", "_law_side"] (defScope s__law_own) := ⟨rfl, rfl, rfl, by decide +kernel, rfl, by decide +kernel, by decide +kernel⟩
theorem ok__law_own {P : Program} {w : World} {K : KF} {mg : Str → Option Value} {base : Heap} (T : Txt K w mg) {f : Addr} {fd : FuncData} (F : FnP K "_law_own" s__law_own f fd) : FnOk P w K mg base CX0 1 f fd ["_law_cells_here", "_law_side"] (spD 2 m__law_own) := by
  refine okFn (N := N__law_own) (g := g__law_own) F sc__law_own rfl (fun cdv A outer s H E hr => ?_)
  exact (dss_cons (ds_own 2 [] sc__law_own.nd da_nil)
      (dss_cons (ds_for (.nm 3) [] rfl (di_rng1 (by rfl) T.range (de_callB (cld_len) (by rfl) T.len (by decide +kernel) (da_cons (de_var 0) da_nil))) (pg_nm 3 sc__law_own.nd) (dss_one (ds_if [] (DW.dt (dw_and (dt_cmp (opd_ne hr.units) (de_sub (de_var 0) (de_var 3)) de_str (nomark _)) (dw_and (dt_cmp (opd_ne hr.units) (de_sub (de_var 0) (de_var 3)) de_str (nomark _)) (dw_and1 (dt_cmp (opd_eq hr.units) (de_islower (de_sub (de_var 0) (de_var 3))) (de_cmp (opd_eq hr.units) (de_var 1) de_int (nomark _)) (nomark _)))))) (dss_one (ds_append 2 [] (de_var 3))) dss_nil)))
      (dss_one (ds_ret [2] (de_var 2)))))
abbrev s__law_over : Stmt := top 74
abbrev N__law_over : List Str := ["_law_rules_here", "_law_cells_here", "_law_side", "_law_fresh", "_law_found", "_law_at", "_law_between"]
abbrev b__law_over_1 : FS := (ifS [] (andT (binT dEq (binE dAnd (binE dShr (varE 3) (varE 5)) (litE (.int 1))) (litE (.int 0))) (binT dEq (binE dAt (varE 1) (varE 6)) (litE (.str ".")))) (ifS [] (tstT (callD 5 m__law_over_by (consA (varE 0) (consA (varE 1) (consA (varE 6) (consA (varE 5) (consA (binE dSub (litE (.int 1)) (varE 2)) nilA))))))) (appS 4 [] (tupE (consA (varE 6) (consA (varE 5) nilA)))) nilS) nilS)
abbrev b__law_over_2 : FS := (forS (.nm 6) [] (rng1I (callE gLen (consA (varE 1) nilA))) b__law_over_1)
def g__law_over : FS := (seqS (ownS 4 [] nilA)
    (seqS (forS (.nm 5) [] (seqI (callD 2 m__law_own (consA (varE 1) (consA (binE dSub (litE (.int 1)) (varE 2)) nilA)))) b__law_over_2)
    (retS [4] (varE 4))))
def m__law_over : List D → Option D := semD 7 g__law_over
theorem sc__law_over : FnScope N__law_over ["_law_rules_here", "_law_cells_here", "_law_side", "_law_fresh"] (defScope s__law_over) := ⟨rfl, rfl, rfl, by decide +kernel, rfl, by decide +kernel, by decide +kernel⟩
theorem ok__law_over {P : Program} {w : World} {K : KF} {mg : Str → Option Value} {base : Heap} (T : Txt K w mg) (C__law_own : CallD P w K mg base 1 "_law_own" 2 m__law_own) (C__law_over_by : CallD P w K mg base 2 "_law_over_by" 5 m__law_over_by) {f : Addr} {fd : FuncData} (F : FnP K "_law_over" s__law_over f fd) : FnOk P w K mg base CX0 3 f fd ["_law_rules_here", "_law_cells_here", "_law_side", "_law_fresh"] (spD 4 m__law_over) := by
  refine okFn (N := N__law_over) (g := g__law_over) F sc__law_over rfl (fun cdv A outer s H E hr => ?_)
  exact (dss_cons (ds_own 4 [] sc__law_over.nd da_nil)
      (dss_cons (ds_for (.nm 5) [] rfl (di_seq (de_call C__law_own (hr.mono (by decide)) (by rfl) (da_cons (de_var 1) (da_cons (de_bin opd_sub de_int (de_var 2)) da_nil)))) (pg_nm 5 sc__law_over.nd) (dss_one (ds_for (.nm 6) [] rfl (di_rng1 (by rfl) T.range (de_callB (cld_len) (by rfl) T.len (by decide +kernel) (da_cons (de_var 1) da_nil))) (pg_nm 6 sc__law_over.nd) (dss_one (ds_if [] (DW.dt (dw_and (dt_cmp (opd_eq hr.units) (de_bin opd_and (de_bin opd_shr (de_var 3) (de_var 5)) de_int) de_int (nomark _)) (dw_and1 (dt_cmp (opd_eq hr.units) (de_sub (de_var 1) (de_var 6)) de_str (nomark _))))) (dss_one (ds_if [] (dt_val (de_call C__law_over_by (hr.mono (by decide)) (by rfl) (da_cons (de_var 0) (da_cons (de_var 1) (da_cons (de_var 6) (da_cons (de_var 5) (da_cons (de_bin opd_sub de_int (de_var 2)) da_nil))))))) (dss_one (ds_append 4 [] (de_tup (da_cons (de_var 6) (da_cons (de_var 5) da_nil))))) dss_nil)) dss_nil)))))
      (dss_one (ds_ret [4] (de_var 4)))))
abbrev s__law_royals : Stmt := top 77
abbrev N__law_royals : List Str := ["_law_rules_here", "_law_cells_here", "_law_side", "_law_letters", "_law_kind_here", "_law_spot_here"]
abbrev c__law_royals_1 : FT := (tstT (binE dAt (varE 4) (litE (.int 1))))
abbrev e__law_royals_2 : FE := (binE dAt (varE 4) (litE (.int 0)))
abbrev c__law_royals_3 : FT := (binT dIn (mE gLower (binE dAt (varE 1) (varE 5))) (varE 3))
abbrev e__law_royals_4 : FE := (varE 5)
def g__law_royals : FS := (seqS (asgS 3 [] (compE [4] (.nm 4) (seqI (binE dAt (varE 0) (litE (.int 1)))) c__law_royals_1 e__law_royals_2))
    (retS [] (compE [5] (.nm 5) (seqI (callD 2 m__law_own (consA (varE 1) (consA (varE 2) nilA)))) c__law_royals_3 e__law_royals_4)))
def m__law_royals : List D → Option D := semD 6 g__law_royals
theorem sc__law_royals : FnScope N__law_royals ["_law_rules_here", "_law_cells_here", "_law_side"] (defScope s__law_royals) := ⟨rfl, rfl, rfl, by decide +kernel, rfl, by decide +kernel, by decide +kernel⟩
theorem ok__law_royals {P : Program} {w : World} {K : KF} {mg : Str → Option Value} {base : Heap} (T : Txt K w mg) (C__law_own : CallD P w K mg base 1 "_law_own" 2 m__law_own) {f : Addr} {fd : FuncData} (F : FnP K "_law_royals" s__law_royals f fd) : FnOk P w K mg base CX0 2 f fd ["_law_rules_here", "_law_cells_here", "_law_side"] (spD 3 m__law_royals) := by
  refine okFn (N := N__law_royals) (g := g__law_royals) F sc__law_royals rfl (fun cdv A outer s H E hr => ?_)
  exact (dss_cons (ds_set 3 [] sc__law_royals.nd (de_comp [("_law_kind_here", 4)] (.nm 4) rfl sc__law_royals.nd (di_seq (de_sub (de_var 0) de_int)) (blkOk_by (N := N__law_royals) (sc := defScope s__law_royals) (by decide +kernel)) (fun _ _ _ _ _ => (pg_nm 4 sc__law_royals.nd)) (fun _ _ _ _ _ => (dts_one (dt_val (de_sub (de_var 4) de_int)))) (fun _ _ _ _ _ => (de_sub (de_var 4) de_int))))
      (dss_one (ds_ret [] (de_comp [("_law_spot_here", 5)] (.nm 5) rfl sc__law_royals.nd (di_seq (de_call C__law_own (hr.mono (by decide)) (by rfl) (da_cons (de_var 1) (da_cons (de_var 2) da_nil)))) (blkOk_by (N := N__law_royals) (sc := defScope s__law_royals) (by decide +kernel)) (fun _ _ _ _ _ => (pg_nm 5 sc__law_royals.nd)) (fun _ _ _ _ _ => (dts_one (dt_cmp (opd_in hr.u65) (de_lower (de_sub (de_var 1) (de_var 5))) (de_var 3) (by rfl)))) (fun _ _ _ _ _ => (de_var 5))))))
abbrev s__law_place : Stmt := top 75
abbrev N__law_place : List Str := ["_law_script", "_law_start", "_law_rules_here", "_law_cells_here", "_law_cell_here", "_law_spot_here", "_law_fresh", "_law_passed", "_law_some", "_law_calm"]
abbrev b__law_place_1 : FS := (ifS [] (binT dNotIn (varE 5) (callD 3 m__law_royals (consA (varE 2) (consA (varE 3) (consA (binE dMod (varE 4) (litE (.int 2))) nilA))))) (asgS 3 [] (binE dAdd (binE dAdd (slE (varE 3) noneO (someO (varE 5)) dCut) (litE (.str "."))) (slE (varE 3) (someO (binE dAdd (varE 5) (litE (.int 1)))) noneO dCut))) nilS)
abbrev b__law_place_2 : FS := (ifS [] (andT (tstT (callD 2 m__law_may (consA (varE 2) (consA (binE dAt (varE 3) (varE 5)) nilA)))) (binT dGt (binE dMod (callD 2 m__law_mixed (consA (varE 4) (consA (varE 5) nilA))) (litE (.int 3))) (litE (.int 0)))) (asgS 6 [] (binE dOr (varE 6) (binE dShl (litE (.int 1)) (varE 5)))) nilS)
def g__law_place : FS := (seqS (asgS 3 [] (callD 3 m__law_cells (consA (varE 0) (consA (varE 1) (consA (varE 2) nilA)))))
    (seqS (asgS 4 [] (binE dFdiv (callD 2 m__law_cell (consA (varE 0) (consA (varE 1) nilA))) (litE (.int 3))))
    (seqS (ifS [] (binT dEq (binE dMod (binE dFdiv (varE 4) (litE (.int 2000))) (litE (.int 3))) (litE (.int 1))) (forS (.nm 5) [] (seqI (callD 2 m__law_own (consA (varE 3) (consA (binE dMod (varE 4) (litE (.int 2))) nilA)))) b__law_place_1) nilS)
    (seqS (asgS 6 [] (litE (.int 0)))
    (seqS (forS (.nm 5) [] (rng1I (callE gLen (consA (varE 3) nilA))) b__law_place_2)
    (seqS (asgS 7 [] (litE .none))
    (seqS (asgS 8 [] (callD 4 m__law_over (consA (varE 2) (consA (varE 3) (consA (binE dMod (varE 4) (litE (.int 2))) (consA (varE 6) nilA))))))
    (seqS (ifS [] (andT (binT dGt (callE gLen (consA (varE 8) nilA)) (litE (.int 0))) (binT dGt (binE dMod (binE dFdiv (varE 4) (litE (.int 18000))) (litE (.int 4))) (litE (.int 0)))) (asgS 7 [] (binE dAt (varE 8) (binE dMod (binE dFdiv (varE 4) (litE (.int 72000))) (callE gLen (consA (varE 8) nilA))))) nilS)
    (seqS (asgS 9 [] (binE dMod (binE dFdiv (varE 4) (litE (.int 2))) (litE (.int 5))))
    (seqS (ifS [] (binT dEq (binE dMod (binE dFdiv (varE 4) (litE (.int 360000))) (litE (.int 5))) (litE (.int 0))) (asgS 9 [] (binE dMod (binE dFdiv (varE 4) (litE (.int 2))) (litE (.int 1000)))) nilS)
    (retS [] (tupE (consA (varE 3) (consA (binE dMod (varE 4) (litE (.int 2))) (consA (varE 6) (consA (varE 7) (consA (varE 9) nilA)))))))))))))))))
def m__law_place : List D → Option D := semD 10 g__law_place
theorem sc__law_place : FnScope N__law_place ["_law_script", "_law_start", "_law_rules_here"] (defScope s__law_place) := ⟨rfl, rfl, rfl, by decide +kernel, rfl, by decide +kernel, by decide +kernel⟩
theorem ok__law_place {P : Program} {w : World} {K : KF} {mg : Str → Option Value} {base : Heap} (T : Txt K w mg) (C__law_cells : CallD P w K mg base 2 "_law_cells" 3 m__law_cells) (C__law_cell : CallD P w K mg base 1 "_law_cell" 2 m__law_cell) (C__law_own : CallD P w K mg base 1 "_law_own" 2 m__law_own) (C__law_royals : CallD P w K mg base 2 "_law_royals" 3 m__law_royals) (C__law_mixed : CallD P w K mg base 1 "_law_mixed" 2 m__law_mixed) (C__law_may : CallD P w K mg base 1 "_law_may" 2 m__law_may) (C__law_over : CallD P w K mg base 3 "_law_over" 4 m__law_over) {f : Addr} {fd : FuncData} (F : FnP K "_law_place" s__law_place f fd) : FnOk P w K mg base CX0 4 f fd ["_law_script", "_law_start", "_law_rules_here"] (spD 3 m__law_place) := by
  refine okFn (N := N__law_place) (g := g__law_place) F sc__law_place rfl (fun cdv A outer s H E hr => ?_)
  exact (dss_cons (ds_set 3 [] sc__law_place.nd (de_call C__law_cells (hr.mono (by decide)) (by rfl) (da_cons (de_var 0) (da_cons (de_var 1) (da_cons (de_var 2) da_nil)))))
      (dss_cons (ds_set 4 [] sc__law_place.nd (de_bin opd_fdiv (de_call C__law_cell (hr.mono (by decide)) (by rfl) (da_cons (de_var 0) (da_cons (de_var 1) da_nil))) de_int))
      (dss_cons (ds_if [] (dt_cmp (opd_eq hr.units) (de_bin opd_mod (de_bin opd_fdiv (de_var 4) de_int) de_int) de_int (nomark _)) (dss_one (ds_for (.nm 5) [] rfl (di_seq (de_call C__law_own (hr.mono (by decide)) (by rfl) (da_cons (de_var 3) (da_cons (de_bin opd_mod (de_var 4) de_int) da_nil)))) (pg_nm 5 sc__law_place.nd) (dss_one (ds_if [] (dt_cmp (opd_notin hr.u65) (de_var 5) (de_call C__law_royals (hr.mono (by decide)) (by rfl) (da_cons (de_var 2) (da_cons (de_var 3) (da_cons (de_bin opd_mod (de_var 4) de_int) da_nil)))) (by rfl)) (dss_one (ds_set 3 [] sc__law_place.nd (de_bin opd_add (de_bin opd_add (de_slice (de_var 3) do_none (do_some (de_var 5))) de_str) (de_slice (de_var 3) (do_some (de_bin opd_add (de_var 5) de_int)) do_none)))) dss_nil)))) dss_nil)
      (dss_cons (ds_set 6 [] sc__law_place.nd de_int)
      (dss_cons (ds_for (.nm 5) [] rfl (di_rng1 (by rfl) T.range (de_callB (cld_len) (by rfl) T.len (by decide +kernel) (da_cons (de_var 3) da_nil))) (pg_nm 5 sc__law_place.nd) (dss_one (ds_if [] (DW.dt (dw_and (dt_val (de_call C__law_may (hr.mono (by decide)) (by rfl) (da_cons (de_var 2) (da_cons (de_sub (de_var 3) (de_var 5)) da_nil)))) (dw_and1 (dt_cmp opd_gt (de_bin opd_mod (de_call C__law_mixed (hr.mono (by decide)) (by rfl) (da_cons (de_var 4) (da_cons (de_var 5) da_nil))) de_int) de_int (nomark _))))) (dss_one (ds_set 6 [] sc__law_place.nd (de_bin opd_or (de_var 6) (de_bin opd_shl de_int (de_var 5))))) dss_nil)))
      (dss_cons (ds_set 7 [] sc__law_place.nd de_non)
      (dss_cons (ds_set 8 [] sc__law_place.nd (de_call C__law_over (hr.mono (by decide)) (by rfl) (da_cons (de_var 2) (da_cons (de_var 3) (da_cons (de_bin opd_mod (de_var 4) de_int) (da_cons (de_var 6) da_nil))))))
      (dss_cons (ds_if [] (DW.dt (dw_and (dt_cmp opd_gt (de_callB (cld_len) (by rfl) T.len (by decide +kernel) (da_cons (de_var 8) da_nil)) de_int (nomark _)) (dw_and1 (dt_cmp opd_gt (de_bin opd_mod (de_bin opd_fdiv (de_var 4) de_int) de_int) de_int (nomark _))))) (dss_one (ds_set 7 [] sc__law_place.nd (de_sub (de_var 8) (de_bin opd_mod (de_bin opd_fdiv (de_var 4) de_int) (de_callB (cld_len) (by rfl) T.len (by decide +kernel) (da_cons (de_var 8) da_nil)))))) dss_nil)
      (dss_cons (ds_set 9 [] sc__law_place.nd (de_bin opd_mod (de_bin opd_fdiv (de_var 4) de_int) de_int))
      (dss_cons (ds_if [] (dt_cmp (opd_eq hr.units) (de_bin opd_mod (de_bin opd_fdiv (de_var 4) de_int) de_int) de_int (nomark _)) (dss_one (ds_set 9 [] sc__law_place.nd (de_bin opd_mod (de_bin opd_fdiv (de_var 4) de_int) de_int))) dss_nil)
      (dss_one (ds_ret [] (de_tup (da_cons (de_var 3) (da_cons (de_bin opd_mod (de_var 4) de_int) (da_cons (de_var 6) (da_cons (de_var 7) (da_cons (de_var 9) da_nil))))))))))))))))))
abbrev s__law_forms : Stmt := top 78
abbrev N__law_forms : List Str := ["_law_rules_here", "_law_place_here", "_law_move", "_law_at", "_law_to", "_law_word", "_law_letter", "_law_wide", "_law_column", "_law_row", "_law_tail", "_law_head"]
def g__law_forms : FS := (seqS (unpS (.tp [3, 4, 5, 6]) [] (varE 2))
    (seqS (asgS 7 [] (binE dAt (binE dAt (varE 0) (litE (.int 0))) (litE (.int 0))))
    (seqS (asgS 8 [] (binE dAt (litE (.str "abcdefgh")) (binE dMod (varE 3) (varE 7))))
    (seqS (asgS 9 [] (binE dAt (litE (.str "12345678")) (binE dFdiv (varE 3) (varE 7))))
    (seqS (asgS 10 [] (binE dAdd (binE dAt (litE (.str "abcdefgh")) (binE dMod (varE 4) (varE 7))) (binE dAt (litE (.str "12345678")) (binE dFdiv (varE 4) (varE 7)))))
    (seqS (ifS [] (orT (binT dEq (varE 5) (litE (.str "take"))) (binT dEq (varE 5) (litE (.str "pass")))) (asgS 10 [] (binE dAdd (litE (.str "x")) (varE 10))) nilS)
    (seqS (ifS [] (binT dEq (varE 5) (litE (.str "pair"))) (asgS 10 [] (binE dAdd (litE (.str "&")) (varE 10))) nilS)
    (seqS (ifS [] (binT dNe (varE 6) (litE (.str ""))) (asgS 10 [] (binE dAdd (binE dAdd (varE 10) (litE (.str "="))) (varE 6))) nilS)
    (seqS (asgS 11 [] (mE gLower (binE dAt (binE dAt (varE 1) (litE (.int 0))) (varE 3))))
    (retS [] (lstE (consA (binE dAdd (varE 11) (varE 10)) (consA (binE dAdd (binE dAdd (varE 11) (varE 8)) (varE 10)) (consA (binE dAdd (binE dAdd (varE 11) (varE 9)) (varE 10)) (consA (binE dAdd (binE dAdd (binE dAdd (varE 11) (varE 8)) (varE 9)) (varE 10)) nilA)))))))))))))))
def m__law_forms : List D → Option D := semD 12 g__law_forms
theorem sc__law_forms : FnScope N__law_forms ["_law_rules_here", "_law_place_here", "_law_move"] (defScope s__law_forms) := ⟨rfl, rfl, rfl, by decide +kernel, rfl, by decide +kernel, by decide +kernel⟩
theorem ok__law_forms {P : Program} {w : World} {K : KF} {mg : Str → Option Value} {base : Heap} (T : Txt K w mg) {f : Addr} {fd : FuncData} (F : FnP K "_law_forms" s__law_forms f fd) : FnOk P w K mg base CX0 1 f fd ["_law_rules_here", "_law_place_here", "_law_move"] (spD 3 m__law_forms) := by
  refine okFn (N := N__law_forms) (g := g__law_forms) F sc__law_forms rfl (fun cdv A outer s H E hr => ?_)
  exact (dss_cons (ds_unp (.tp [3, 4, 5, 6]) [] (de_var 2) (pg_tp rfl (pgs_cn 3 sc__law_forms.nd (pgs_cn 4 sc__law_forms.nd (pgs_cn 5 sc__law_forms.nd (pgs_cn 6 sc__law_forms.nd pgs_nl))))))
      (dss_cons (ds_set 7 [] sc__law_forms.nd (de_sub (de_sub (de_var 0) de_int) de_int))
      (dss_cons (ds_set 8 [] sc__law_forms.nd (de_sub de_str (de_bin opd_mod (de_var 3) (de_var 7))))
      (dss_cons (ds_set 9 [] sc__law_forms.nd (de_sub de_str (de_bin opd_fdiv (de_var 3) (de_var 7))))
      (dss_cons (ds_set 10 [] sc__law_forms.nd (de_bin opd_add (de_sub de_str (de_bin opd_mod (de_var 4) (de_var 7))) (de_sub de_str (de_bin opd_fdiv (de_var 4) (de_var 7)))))
      (dss_cons (ds_if [] (DW.dt (dw_or (dt_cmp (opd_eq hr.units) (de_var 5) de_str (nomark _)) (dw_or1 (dt_cmp (opd_eq hr.units) (de_var 5) de_str (nomark _))))) (dss_one (ds_set 10 [] sc__law_forms.nd (de_bin opd_add de_str (de_var 10)))) dss_nil)
      (dss_cons (ds_if [] (dt_cmp (opd_eq hr.units) (de_var 5) de_str (nomark _)) (dss_one (ds_set 10 [] sc__law_forms.nd (de_bin opd_add de_str (de_var 10)))) dss_nil)
      (dss_cons (ds_if [] (dt_cmp (opd_ne hr.units) (de_var 6) de_str (nomark _)) (dss_one (ds_set 10 [] sc__law_forms.nd (de_bin opd_add (de_bin opd_add (de_var 10) de_str) (de_var 6)))) dss_nil)
      (dss_cons (ds_set 11 [] sc__law_forms.nd (de_lower (de_sub (de_sub (de_var 1) de_int) (de_var 3))))
      (dss_one (ds_ret [] (de_lst (da_cons (de_bin opd_add (de_var 11) (de_var 10)) (da_cons (de_bin opd_add (de_bin opd_add (de_var 11) (de_var 8)) (de_var 10)) (da_cons (de_bin opd_add (de_bin opd_add (de_var 11) (de_var 9)) (de_var 10)) (da_cons (de_bin opd_add (de_bin opd_add (de_bin opd_add (de_var 11) (de_var 8)) (de_var 9)) (de_var 10)) da_nil))))))))))))))))
abbrev s__law_listed : Stmt := top 79
abbrev N__law_listed : List Str := ["_law_rules_here", "_law_place_here", "_law_move"]
abbrev e__law_listed_1 : FE := (tupE (consA (varE 2) (consA (callD 3 m__law_forms (consA (varE 0) (consA (varE 1) (consA (varE 2) nilA)))) nilA)))
def g__law_listed : FS := (retS [] (compE [2] (.nm 2) (seqI (callD 2 m_moves (consA (varE 0) (consA (varE 1) nilA)))) yesT e__law_listed_1))
def m__law_listed : List D → Option D := semD 3 g__law_listed
theorem sc__law_listed : FnScope N__law_listed ["_law_rules_here", "_law_place_here"] (defScope s__law_listed) := ⟨rfl, rfl, rfl, by decide +kernel, rfl, by decide +kernel, by decide +kernel⟩
theorem ok__law_listed {P : Program} {w : World} {K : KF} {mg : Str → Option Value} {base : Heap} (T : Txt K w mg) (C_moves : CallD P w K mg base 10 "moves" 2 m_moves) (C__law_forms : CallD P w K mg base 1 "_law_forms" 3 m__law_forms) {f : Addr} {fd : FuncData} (F : FnP K "_law_listed" s__law_listed f fd) : FnOk P w K mg base CX0 11 f fd ["_law_rules_here", "_law_place_here"] (spD 2 m__law_listed) := by
  refine okFn (N := N__law_listed) (g := g__law_listed) F sc__law_listed rfl (fun cdv A outer s H E hr => ?_)
  exact (dss_one (ds_ret [] (de_comp [("_law_move", 2)] (.nm 2) rfl sc__law_listed.nd (di_seq (de_call C_moves (hr.mono (by decide)) (by rfl) (da_cons (de_var 0) (da_cons (de_var 1) da_nil)))) (blkOk_by (N := N__law_listed) (sc := defScope s__law_listed) (by decide +kernel)) (fun _ _ _ _ _ => (pg_nm 2 sc__law_listed.nd)) (fun _ _ _ _ _ => dts_nil) (fun _ _ _ _ _ => (de_tup (da_cons (de_var 2) (da_cons (de_call C__law_forms (hr.mono (by decide)) (by rfl) (da_cons (de_var 0) (da_cons (de_var 1) (da_cons (de_var 2) da_nil)))) da_nil)))))))
abbrev s__law_alone : Stmt := top 80
abbrev N__law_alone : List Str := ["_law_listed_here", "_law_text_here", "_law_move", "_law_texts"]
abbrev c__law_alone_1 : FT := (binT dIn (varE 1) (varE 3))
abbrev e__law_alone_2 : FE := (varE 2)
def g__law_alone : FS := (retS [] (binE dEq (callE gLen (consA (compE [2, 3] (.tp [2, 3]) (seqI (varE 0)) c__law_alone_1 e__law_alone_2) nilA)) (litE (.int 1))))
def m__law_alone : List D → Option D := semD 4 g__law_alone
theorem sc__law_alone : FnScope N__law_alone ["_law_listed_here", "_law_text_here"] (defScope s__law_alone) := ⟨rfl, rfl, rfl, by decide +kernel, rfl, by decide +kernel, by decide +kernel⟩
theorem ok__law_alone {P : Program} {w : World} {K : KF} {mg : Str → Option Value} {base : Heap} (T : Txt K w mg) {f : Addr} {fd : FuncData} (F : FnP K "_law_alone" s__law_alone f fd) : FnOk P w K mg base CX0 1 f fd ["_law_listed_here", "_law_text_here"] (spD 2 m__law_alone) := by
  refine okFn (N := N__law_alone) (g := g__law_alone) F sc__law_alone rfl (fun cdv A outer s H E hr => ?_)
  exact (dss_one (ds_ret [] (de_cmp (opd_eq hr.units) (de_callB (cld_len) (by rfl) T.len (by decide +kernel) (da_cons (de_comp [("_law_move", 2), ("_law_texts", 3)] (.tp [2, 3]) rfl sc__law_alone.nd (di_seq (de_var 0)) (blkOk_by (N := N__law_alone) (sc := defScope s__law_alone) (by decide +kernel)) (fun _ _ _ _ _ => (pg_tp rfl (pgs_cn 2 sc__law_alone.nd (pgs_cn 3 sc__law_alone.nd pgs_nl)))) (fun _ _ _ _ _ => (dts_one (dt_cmp (opd_in hr.u65) (de_var 1) (de_var 3) (by rfl)))) (fun _ _ _ _ _ => (de_var 2))) da_nil)) de_int (nomark _))))
abbrev s__law_short : Stmt := top 81
abbrev N__law_short : List Str := ["_law_listed_here", "_law_at", "_law_text_here"]
abbrev b__law_short_1 : FS := (ifS [] (tstT (callD 2 m__law_alone (consA (varE 0) (consA (varE 2) nilA)))) (retS [] (varE 2)) nilS)
def g__law_short : FS := (seqS (forS (.nm 2) [] (seqI (binE dAt (binE dAt (varE 0) (varE 1)) (litE (.int 1)))) b__law_short_1)
    (retS [] (litE (.str ""))))
def m__law_short : List D → Option D := semD 3 g__law_short
theorem sc__law_short : FnScope N__law_short ["_law_listed_here", "_law_at"] (defScope s__law_short) := ⟨rfl, rfl, rfl, by decide +kernel, rfl, by decide +kernel, by decide +kernel⟩
theorem ok__law_short {P : Program} {w : World} {K : KF} {mg : Str → Option Value} {base : Heap} (T : Txt K w mg) (C__law_alone : CallD P w K mg base 1 "_law_alone" 2 m__law_alone) {f : Addr} {fd : FuncData} (F : FnP K "_law_short" s__law_short f fd) : FnOk P w K mg base CX0 2 f fd ["_law_listed_here", "_law_at"] (spD 2 m__law_short) := by
  refine okFn (N := N__law_short) (g := g__law_short) F sc__law_short rfl (fun cdv A outer s H E hr => ?_)
  exact (dss_cons (ds_for (.nm 2) [] rfl (di_seq (de_sub (de_sub (de_var 0) (de_var 1)) de_int)) (pg_nm 2 sc__law_short.nd) (dss_one (ds_if [] (dt_val (de_call C__law_alone (hr.mono (by decide)) (by rfl) (da_cons (de_var 0) (da_cons (de_var 2) da_nil)))) (dss_one (ds_ret [] (de_var 2))) dss_nil)))
      (dss_one (ds_ret [] de_str)))
abbrev s__law_mine : Stmt := top 82
abbrev N__law_mine : List Str := ["_law_cells_here", "_law_side", "_law_spot_here"]
abbrev e__law_mine_1 : FE := (tupE (consA (varE 2) (consA (binE dAt (varE 0) (varE 2)) nilA)))
def g__law_mine : FS := (retS [] (compE [2] (.nm 2) (seqI (callD 2 m__law_own (consA (varE 0) (consA (varE 1) nilA)))) yesT e__law_mine_1))
def m__law_mine : List D → Option D := semD 3 g__law_mine
theorem sc__law_mine : FnScope N__law_mine ["_law_cells_here", "_law_side"] (defScope s__law_mine) := ⟨rfl, rfl, rfl, by decide +kernel, rfl, by decide +kernel, by decide +kernel⟩
theorem ok__law_mine {P : Program} {w : World} {K : KF} {mg : Str → Option Value} {base : Heap} (T : Txt K w mg) (C__law_own : CallD P w K mg base 1 "_law_own" 2 m__law_own) {f : Addr} {fd : FuncData} (F : FnP K "_law_mine" s__law_mine f fd) : FnOk P w K mg base CX0 2 f fd ["_law_cells_here", "_law_side"] (spD 2 m__law_mine) := by
  refine okFn (N := N__law_mine) (g := g__law_mine) F sc__law_mine rfl (fun cdv A outer s H E hr => ?_)
  exact (dss_one (ds_ret [] (de_comp [("_law_spot_here", 2)] (.nm 2) rfl sc__law_mine.nd (di_seq (de_call C__law_own (hr.mono (by decide)) (by rfl) (da_cons (de_var 0) (da_cons (de_var 1) da_nil)))) (blkOk_by (N := N__law_mine) (sc := defScope s__law_mine) (by decide +kernel)) (fun _ _ _ _ _ => (pg_nm 2 sc__law_mine.nd)) (fun _ _ _ _ _ => dts_nil) (fun _ _ _ _ _ => (de_tup (da_cons (de_var 2) (da_cons (de_sub (de_var 0) (de_var 2)) da_nil)))))))
abbrev s__law_chosen : Stmt := top 83
abbrev N__law_chosen : List Str := ["_law_rules_here", "_law_kept", "_law_listed_here", "_law_cell_here", "_law_side", "_law_k", "_law_later"]
abbrev b__law_chosen_1 : FS := (seqS (asgS 6 [] (callD 3 m_after (consA (varE 0) (consA (binE dAt (varE 1) (unE dNeg (litE (.int 1)))) (consA (binE dAt (binE dAt (varE 2) (varE 5)) (litE (.int 0))) nilA)))))
    (ifS [] (binT dEq (callD 2 m__law_mine (consA (binE dAt (varE 6) (litE (.int 0))) (consA (varE 4) nilA))) (callD 2 m__law_mine (consA (binE dAt (binE dAt (varE 1) (unE dNeg (litE (.int 3)))) (litE (.int 0))) (consA (varE 4) nilA)))) (retS [] (varE 5)) nilS))
def g__law_chosen : FS := (seqS (ifS [] (andT (binT dGt (binE dMod (varE 3) (litE (.int 3))) (litE (.int 0))) (binT dGt (callE gLen (consA (varE 1) nilA)) (litE (.int 2)))) (seqS (asgS 4 [] (binE dAt (binE dAt (varE 1) (unE dNeg (litE (.int 1)))) (litE (.int 1))))
    (forS (.nm 5) [] (rng1I (callE gLen (consA (varE 2) nilA))) b__law_chosen_1)) nilS)
    (retS [] (binE dMod (binE dFdiv (varE 3) (litE (.int 3))) (callE gLen (consA (varE 2) nilA)))))
def m__law_chosen : List D → Option D := semD 7 g__law_chosen
theorem sc__law_chosen : FnScope N__law_chosen ["_law_rules_here", "_law_kept", "_law_listed_here", "_law_cell_here"] (defScope s__law_chosen) := ⟨rfl, rfl, rfl, by decide +kernel, rfl, by decide +kernel, by decide +kernel⟩
theorem ok__law_chosen {P : Program} {w : World} {K : KF} {mg : Str → Option Value} {base : Heap} (T : Txt K w mg) (C_after : CallD P w K mg base 3 "after" 3 m_after) (C__law_mine : CallD P w K mg base 2 "_law_mine" 2 m__law_mine) {f : Addr} {fd : FuncData} (F : FnP K "_law_chosen" s__law_chosen f fd) : FnOk P w K mg base CX0 4 f fd ["_law_rules_here", "_law_kept", "_law_listed_here", "_law_cell_here"] (spD 4 m__law_chosen) := by
  refine okFn (N := N__law_chosen) (g := g__law_chosen) F sc__law_chosen rfl (fun cdv A outer s H E hr => ?_)
  exact (dss_cons (ds_if [] (DW.dt (dw_and (dt_cmp opd_gt (de_bin opd_mod (de_var 3) de_int) de_int (nomark _)) (dw_and1 (dt_cmp opd_gt (de_callB (cld_len) (by rfl) T.len (by decide +kernel) (da_cons (de_var 1) da_nil)) de_int (nomark _))))) (dss_cons (ds_set 4 [] sc__law_chosen.nd (de_sub (de_sub (de_var 1) (de_neg de_int)) de_int))
      (dss_one (ds_for (.nm 5) [] rfl (di_rng1 (by rfl) T.range (de_callB (cld_len) (by rfl) T.len (by decide +kernel) (da_cons (de_var 2) da_nil))) (pg_nm 5 sc__law_chosen.nd) (dss_cons (ds_set 6 [] sc__law_chosen.nd (de_call C_after (hr.mono (by decide)) (by rfl) (da_cons (de_var 0) (da_cons (de_sub (de_var 1) (de_neg de_int)) (da_cons (de_sub (de_sub (de_var 2) (de_var 5)) de_int) da_nil)))))
      (dss_one (ds_if [] (dt_cmp (opd_eq hr.units) (de_call C__law_mine (hr.mono (by decide)) (by rfl) (da_cons (de_sub (de_var 6) de_int) (da_cons (de_var 4) da_nil))) (de_call C__law_mine (hr.mono (by decide)) (by rfl) (da_cons (de_sub (de_sub (de_var 1) (de_neg de_int)) de_int) (da_cons (de_var 4) da_nil))) (nomark _)) (dss_one (ds_ret [] (de_var 5))) dss_nil)))))) dss_nil)
      (dss_one (ds_ret [] (de_bin opd_mod (de_bin opd_fdiv (de_var 3) de_int) (de_callB (cld_len) (by rfl) T.len (by decide +kernel) (da_cons (de_var 2) da_nil))))))
end
end RB
set_option Elab.async false
set_option linter.all false
set_option maxRecDepth 100000
set_option maxHeartbeats 2000000
set_option autoImplicit false
/-! PU1: plain maths over the meanings: bits, squares, signs. -/
namespace RB
open PySem PySem.Spec L2
noncomputable section
abbrev ch (c : Nat) : Str := ⟨#[c]⟩
def txt (cs : List Nat) : Str := ⟨cs.toArray⟩
@[simp] theorem txt_cps (cs : List Nat) : (txt cs).cps.toList = cs := by simp [txt]
@[simp] theorem txt_size (cs : List Nat) : (txt cs).cps.size = cs.length := by simp [txt]
@[simp] theorem txt_len (cs : List Nat) : (txt cs).length = cs.length := by simp [txt, Str.length]
@[simp] theorem ch_len (c : Nat) : (ch c).length = 1 := rfl
@[simp] theorem ok_ch {c : Nat} (h : c < 200) : PyData.strOk (ch c) = true := by
  simp [PyData.strOk]; omega
theorem ok_txt {cs : List Nat} (h : ∀ c ∈ cs, c < 200) : PyData.strOk (txt cs) = true := by
  simp only [PyData.strOk, txt, List.all_toArray, List.all_eq_true, decide_eq_true_eq]
  intro c hc
  have := h c hc
  omega
theorem signs_txt (cs : List Nat) : signsD (txt cs) = cs.map fun c => .str (ch c) := by simp [signsD]
@[simp] theorem len_sig (n : Nat) (h : n < 1000000) : n ≤ sizeLine := Nat.le_trans (Nat.le_of_lt h) sizeLine_big
/-! ### bits -/
def bitsL : Nat → List Nat → Nat
  | b, [] => b
  | b, s :: r => bitsL (b ||| 2 ^ s) r
theorem loop_bits {l : SD} : ∀ (xs : List Nat) (b : Nat) (v : SD), (∀ s ∈ xs, s < 1000) → ∃ v', loopF (.nm 2) (asgS 1 [] (binE dOr (varE 1) (binE dShl (litE (.int 1)) (varE 2)))) (xs.map fun s => .int ((s : Nat) : Int)) [l, .im (.int (b : Nat)), v] = some (.nx [l, .im (.int ((bitsL b xs : Nat) : Int)), v'])
  | [], b, v, _ => ⟨v, rfl⟩
  | s :: r, b, v, h => by
    obtain ⟨v', e⟩ := loop_bits r (b ||| 2 ^ s) (.im (.int (s : Nat))) fun x hx => h x (List.mem_cons_of_mem _ hx)
    refine ⟨v', ?_⟩
    have h1 := h s List.mem_cons_self
    have e1 : Builtin.bitOr ((b : Nat) : Int) (2 ^ s) = ((b ||| 2 ^ s : Nat) : Int) := by
      have e2 : ((2 : Int) ^ s) = ((2 ^ s : Nat) : Int) := by simp
      rw [e2, bitOr_nn (Int.natCast_nonneg _) (Int.natCast_nonneg _)]
      rfl
    have h2 : ((s : Nat) : Int) ≤ 1000000 := by omega
    show loopF _ _ (PyData.int (s : Nat) :: r.map _) _ = _
    simp only [loopF]
    simp [h2, e1]
    exact e
theorem m_bits_of_eq {xs : List Nat} (h : ∀ s ∈ xs, s < 1000) : m_bits_of [.list (xs.map fun s => .int ((s : Nat) : Int))] = some (.int ((bitsL 0 xs : Nat) : Int)) := by
  obtain ⟨v', e⟩ := loop_bits (l := .im (.list (xs.map fun s => .int ((s : Nat) : Int)))) xs 0 .no h
  have e' : loopF (.nm 2) (asgS 1 [] (binE dOr (varE 1) (binE dShl (litE (.int 1)) (varE 2)))) (xs.map fun s => .int ((s : Nat) : Int)) [.im (.list (xs.map fun s => .int ((s : Nat) : Int))), .im (.int 0), .no] = _ := e
  simp [m_bits_of, g_bits_of, e']
theorem bitsL_test : ∀ (xs : List Nat) (b i : Nat), (bitsL b xs).testBit i = (b.testBit i || decide (i ∈ xs))
  | [], b, i => by simp [bitsL]
  | s :: r, b, i => by
    rw [bitsL, bitsL_test r, Nat.testBit_or, Nat.testBit_two_pow]
    simp only [List.mem_cons]
    by_cases h : s = i
    · simp [h]
    · have : ¬ i = s := fun z => h z.symm
      simp [h, this]
theorem bitsL_lt : ∀ (xs : List Nat) (b k : Nat), b < 2 ^ k → (∀ s ∈ xs, s < k) → bitsL b xs < 2 ^ k
  | [], b, k, hb, _ => hb
  | s :: r, b, k, hb, h => bitsL_lt r _ k (Nat.or_lt_two_pow hb (Nat.pow_lt_pow_right (by decide) (h s List.mem_cons_self))) fun x hx => h x (List.mem_cons_of_mem _ hx)
def sqsF : Nat → Nat → Nat → List Nat
  | 0, _, _ => []
  | k + 1, b, s => (if b % 2 = 1 then [s] else []) ++ sqsF k (b / 2) (s + 1)
theorem sqsF_zero : ∀ (k s : Nat), sqsF k 0 s = []
  | 0, _ => rfl
  | k + 1, s => by simp [sqsF, sqsF_zero k]
theorem loop_sqs : ∀ (k n b s : Nat) (fs : List D), b < 2 ^ k → k < n → fs.length + k < 1000 → ∃ b' s', loopW (binT dGt (varE 0) (litE (.int 0))) (seqS (ifS [] (binT dEq (binE dAnd (varE 0) (litE (.int 1))) (litE (.int 1))) (appS 1 [] (varE 2)) nilS) (seqS (asgS 0 [] (binE dShr (varE 0) (litE (.int 1)))) (asgS 2 [] (binE dAdd (varE 2) (litE (.int 1)))))) n
    [.im (.int (b : Nat)), .ow fs, .im (.int (s : Nat))] = some (.nx [b', .ow (fs ++ (sqsF k b s).map fun x => .int ((x : Nat) : Int)), s'])
  | k, 0, _, _, _, _, h, _ => by omega
  | 0, n + 1, b, s, fs, hb, _, _ => by
    have : b = 0 := by simpa using hb
    subst this
    refine ⟨.im (.int 0), .im (.int (s : Nat)), ?_⟩
    simp [loopW, sqsF]
  | k + 1, n + 1, b, s, fs, hb, hn, hf => by
    by_cases h0 : b = 0
    · subst h0
      refine ⟨.im (.int 0), .im (.int (s : Nat)), ?_⟩
      simp [loopW, sqsF_zero]
    · have hpos : (0 : Int) < (b : Nat) := by omega
      have hb2 : b / 2 < 2 ^ k := by rw [Nat.pow_succ] at hb; omega
      have e2 : ((b : Nat) : Int) / 2 ^ (1 : Int).toNat = ((b / 2 : Nat) : Int) := by simp
      have e3 : ((s : Nat) : Int) + 1 = ((s + 1 : Nat) : Int) := by simp
      by_cases hodd : b % 2 = 1
      · obtain ⟨b', s', e⟩ := loop_sqs k n (b / 2) (s + 1) (fs ++ [.int (s : Nat)]) hb2 (by omega) (by simp; omega)
        refine ⟨b', s', ?_⟩
        have h1 : Builtin.bitAnd ((b : Nat) : Int) 1 = 1 := by rw [PyProof.Rows.bitAnd_m1]; omega
        have hl : fs.length < sizeLine := Nat.lt_of_lt_of_le (by omega) sizeLine_big
        rw [loopW]
        simp only [binT_eq, varE_im, varE_succ, litE_eq, Option.bind_some, dGt_int, asB_bool, hpos, decide_true, if_true, seqS_eq, ifS_eq, frz_nil, binE_eq, dAnd_int, h1, dEq_int, appS_eq, hl, asgS_eq, dShr_eq, Option.map_some, List.set_cons_zero, List.set_cons_succ, List.getElem?_cons_succ, List.getElem?_cons_zero, dAdd_int, show (0 : Int) ≤ 1 by decide, e2, e3]
        rw [e]
        simp [sqsF, hodd]
      · obtain ⟨b', s', e⟩ := loop_sqs k n (b / 2) (s + 1) fs hb2 (by omega) (by omega)
        refine ⟨b', s', ?_⟩
        have h1 : ¬ Builtin.bitAnd ((b : Nat) : Int) 1 = 1 := by rw [PyProof.Rows.bitAnd_m1]; omega
        rw [loopW]
        simp only [binT_eq, varE_im, varE_succ, litE_eq, Option.bind_some, dGt_int, asB_bool, hpos, decide_true, if_true, seqS_eq, ifS_eq, frz_nil, binE_eq, dAnd_int, h1, dEq_int, decide_false, Bool.false_eq_true, if_false, nilS_eq, asgS_eq, dShr_eq, Option.map_some, List.set_cons_zero, List.set_cons_succ, dAdd_int, show (0 : Int) ≤ 1 by decide, e2, e3]
        rw [e]
        simp [sqsF, hodd]
theorem m_squares_of_eq {b k : Nat} (hb : b < 2 ^ k) (hk : k < 900) : m_squares_of [.int ((b : Nat) : Int)] = some (.list ((sqsF k b 0).map fun x => .int ((x : Nat) : Int))) := by
  obtain ⟨b', s', e⟩ := loop_sqs k 1000 b 0 [] hb (by omega) (by simp; omega)
  simp [m_squares_of, g_squares_of]
  have e' := e
  simp only [List.nil_append] at e'
  have e2 : ((0 : Nat) : Int) = 0 := rfl
  rw [e2] at e'
  rw [e']
  simp
theorem mem_sqsF : ∀ (k b s x : Nat), x ∈ sqsF k b s ↔ s ≤ x ∧ x < s + k ∧ b.testBit (x - s) = true
  | 0, b, s, x => by simp [sqsF]; omega
  | k + 1, b, s, x => by
    rw [sqsF, List.mem_append, mem_sqsF k]
    by_cases hx : x = s
    · subst hx
      have : b.testBit (x - x) = decide (b % 2 = 1) := by rw [Nat.sub_self, Nat.testBit_zero]
      rw [this]
      by_cases ho : b % 2 = 1
      · simp [ho]
      · simp [ho]; omega
    · have h1 : ¬ x ∈ (if b % 2 = 1 then [s] else []) := by split <;> simp [hx]
      by_cases hs : s + 1 ≤ x
      · have e1 : x - s = (x - (s + 1)) + 1 := by omega
        rw [e1, Nat.testBit_add_one]
        simp only [h1, false_or]
        constructor
        · rintro ⟨a, b, c⟩; exact ⟨by omega, by omega, c⟩
        · rintro ⟨a, b, c⟩; exact ⟨by omega, by omega, c⟩
      · simp only [h1, false_or]
        constructor
        · rintro ⟨a, b, c⟩; omega
        · rintro ⟨a, b, c⟩; omega
end
end RB
set_option Elab.async false
set_option linter.all false
set_option maxRecDepth 100000
set_option maxHeartbeats 2000000
set_option autoImplicit false
/-! PU2: loops in general; rules and places as types; kinds, pieces. -/
namespace RB
open PySem PySem.Spec L2
noncomputable section
/-! ### loops -/
section
variable {α : Type} {t : Tg} {b : FS} {c : FT} {f : FE} {g r : α → D} {p : α → Bool}
theorem loopC_eq {ρ : Sl} : ∀ {xs : List α}, (∀ x ∈ xs, ∃ ρ1, t.s (g x) ρ = some ρ1 ∧ c ρ1 = some (p x) ∧ (p x = true → f ρ1 = some (r x))) → loopC t c f ρ (xs.map g) = some ((xs.filter p).map r)
  | [], _ => rfl
  | x :: xs, h => by
    obtain ⟨ρ1, e1, e2, e3⟩ := h x List.mem_cons_self
    have ih := loopC_eq (xs := xs) fun y hy => h y (List.mem_cons_of_mem _ hy)
    show ((t.s (g x) ρ).bind _ : Option (List D)) = _
    rw [e1]
    show ((c ρ1).bind _ : Option (List D)) = _
    rw [e2]
    show (if p x = true then _ else _ : Option (List D)) = _
    cases hp : p x with
    | true =>
      rw [if_pos rfl, e3 hp, List.filter_cons_of_pos hp]
      show Option.map _ (loopC t c f ρ (xs.map g)) = _
      rw [ih]
      rfl
    | false =>
      rw [if_neg (by decide), List.filter_cons_of_neg (by simp [hp])]
      exact ih
theorem loopF_inv {xs : List α} (I : List α → Sl → Prop) (step : ∀ (pre : List α) (x : α) (post : List α) (ρ : Sl), xs = pre ++ x :: post → I pre ρ → ∃ ρ1 ρ2, t.s (g x) ρ = some ρ1 ∧ b ρ1 = some (.nx ρ2) ∧ I (pre ++ [x]) ρ2) :
    ∀ (post pre : List α) (ρ : Sl), xs = pre ++ post → I pre ρ → ∃ ρ', loopF t b (post.map g) ρ = some (.nx ρ') ∧ I xs ρ'
  | [], pre, ρ, e, h => ⟨ρ, rfl, by rw [e, List.append_nil]; exact h⟩
  | x :: post, pre, ρ, e, h => by
    obtain ⟨ρ1, ρ2, e1, e2, h2⟩ := step pre x post ρ e h
    obtain ⟨ρ', e3, h3⟩ := loopF_inv I step post (pre ++ [x]) ρ2 (by rw [e, List.append_assoc]; rfl) h2
    refine ⟨ρ', ?_, h3⟩
    show ((t.s (g x) ρ).bind _ : Option Out) = _
    rw [e1]
    show ((b ρ1).bind _ : Option Out) = _
    rw [e2]
    exact e3
theorem loopF_all {xs : List α} (I : List α → Sl → Prop) (step : ∀ (pre : List α) (x : α) (post : List α) (ρ : Sl), xs = pre ++ x :: post → I pre ρ → ∃ ρ1 ρ2, t.s (g x) ρ = some ρ1 ∧ b ρ1 = some (.nx ρ2) ∧ I (pre ++ [x]) ρ2) {ρ : Sl} (h : I [] ρ) :
    ∃ ρ', loopF t b (xs.map g) ρ = some (.nx ρ') ∧ I xs ρ' := loopF_inv I step xs [] ρ rfl h
/-- a loop that looks for one -/
theorem loopF_find (J : Sl → Prop) : ∀ {xs : List α} {ρ : Sl}, (∀ x ∈ xs, ∀ ρ, J ρ → ∃ ρ1, t.s (g x) ρ = some ρ1 ∧ ((p x = false ∧ ∃ ρ2, (b ρ1 = some (.nx ρ2) ∨ b ρ1 = some (.ct ρ2)) ∧ J ρ2) ∨ (p x = true ∧ b ρ1 = some (.rt (r x))))) → J ρ →
    (∃ x, xs.find? p = some x ∧ loopF t b (xs.map g) ρ = some (.rt (r x))) ∨ (xs.find? p = none ∧ ∃ ρ', loopF t b (xs.map g) ρ = some (.nx ρ') ∧ J ρ')
  | [], ρ, _, h => .inr ⟨rfl, ρ, rfl, h⟩
  | x :: xs, ρ, hs, h => by
    obtain ⟨ρ1, e1, q⟩ := hs x List.mem_cons_self ρ h
    have un : loopF t b ((x :: xs).map g) ρ = (b ρ1).bind fun o => match o with
        | .nx ρ2 => loopF t b (xs.map g) ρ2
        | .ct ρ2 => loopF t b (xs.map g) ρ2
        | .bk ρ2 => some (.nx ρ2)
        | .rt d => some (.rt d) := by
      show ((t.s (g x) ρ).bind _ : Option Out) = _
      rw [e1]
      rfl
    rcases q with ⟨hp, ρ2, e2, h2⟩ | ⟨hp, e2⟩
    · have ih := loopF_find J (xs := xs) (ρ := ρ2) (fun y hy => hs y (List.mem_cons_of_mem _ hy)) h2
      have un2 : loopF t b ((x :: xs).map g) ρ = loopF t b (xs.map g) ρ2 := by
        rw [un]
        rcases e2 with e2 | e2 <;> rw [e2] <;> rfl
      rw [un2, List.find?_cons_of_neg (by simp [hp])]
      exact ih
    · refine .inl ⟨x, List.find?_cons_of_pos hp, ?_⟩
      rw [un, e2]
      rfl
end
/-! ### signs -/
def isLow (c : Nat) : Bool := decide (97 ≤ c) && decide (c ≤ 122)
def isUp (c : Nat) : Bool := decide (65 ≤ c) && decide (c ≤ 90)
def low (c : Nat) : Nat := if isUp c then c + 32 else c
def up (c : Nat) : Nat := if isLow c then c - 32 else c
theorem lower_tab : ∀ c < 128, Txt.lower ⟨#[c]⟩ = ⟨#[low c]⟩ := by decide +kernel
theorem upper_tab : ∀ c < 128, Txt.upper ⟨#[c]⟩ = ⟨#[up c]⟩ := by decide +kernel
theorem isupper_tab : ∀ c < 128, Txt.isupper ⟨#[c]⟩ = isUp c := by decide +kernel
theorem islower_tab : ∀ c < 128, Txt.islower ⟨#[c]⟩ = isLow c := by decide +kernel
@[simp] theorem gLower_ch {c : Nat} (h : c < 128) : gLower (ch c) = some (.str (ch (low c))) := by
  unfold gLower
  rw [if_pos (show (ch c).length ≤ 5592405 by rw [ch_len]; decide), lower_tab c h]
@[simp] theorem gUpper_ch {c : Nat} (h : c < 128) : gUpper (ch c) = some (.str (ch (up c))) := by
  unfold gUpper
  rw [if_pos (show (ch c).length ≤ 5592405 by rw [ch_len]; decide), upper_tab c h]
@[simp] theorem gIsUpper_ch {c : Nat} (h : c < 128) : gIsUpper (ch c) = some (.bool (isUp c)) := by
  unfold gIsUpper
  rw [isupper_tab c h]
@[simp] theorem gIsLower_ch {c : Nat} (h : c < 128) : gIsLower (ch c) = some (.bool (isLow c)) := by
  unfold gIsLower
  rw [islower_tab c h]
@[simp] theorem ch_inj {a b : Nat} : (ch a = ch b) ↔ a = b := by simp [ch]
theorem dot_ch : (".": Str) = ch 46 := by decide +kernel
theorem hash_ch : ("#": Str) = ch 35 := by decide +kernel
theorem low_lt {c : Nat} (h : c < 128) : low c < 128 := by unfold low isUp; split <;> simp_all <;> omega
theorem up_lt {c : Nat} (h : c < 128) : up c < 128 := by unfold up; split <;> omega
theorem low_low {c : Nat} (h : isLow c = true) : low c = c := by unfold low isUp; unfold isLow at h; simp at h ⊢; omega
theorem low_up {c : Nat} (h : isLow c = true) : low (up c) = c := by unfold up; rw [if_pos h]; unfold low isUp; unfold isLow at h; simp at h ⊢; split <;> omega
theorem isUp_up {c : Nat} (h : isLow c = true) : isUp (up c) = true := by unfold up; rw [if_pos h]; unfold isUp; unfold isLow at h; simp at h ⊢; omega
theorem isLow_low {c : Nat} (h : (isUp c || isLow c) = true) : isLow (low c) = true := by unfold low isUp isLow at *; simp at *; split <;> omega
/-! ### rules and places -/
structure Way where
  word : Str
  dx : Int
  dy : Int
  turn : Str
  use : Str
  once : Bool
  most : Int
def Way.d (w : Way) : D := .tuple [.str w.word, .int w.dx, .int w.dy, .str w.turn, .str w.use, .bool w.once, .int w.most]
def UseOk (u : Str) : Prop := u = "both" ∨ u = "go" ∨ u = "take"
structure WayOk (w : Way) : Prop where
  word : w.word = "leap" ∨ w.word = "ride" ∨ w.word = "hop"
  turn : w.turn = "one" ∨ w.turn = "wide" ∨ w.turn = "all"
  use : UseOk w.use
  dx : -2 ≤ w.dx ∧ w.dx ≤ 2
  dy : -2 ≤ w.dy ∧ w.dy ≤ 2
  ne : ¬ (w.dx = 0 ∧ w.dy = 0)
  most : 0 ≤ w.most ∧ w.most ≤ 3
structure Kind where
  letter : Nat
  royal : Bool
  passes : Bool
  becomes : Option Nat
  row : Int
  ways : List Way
def optS : Option Nat → Str
  | none => ""
  | some c => ch c
def Kind.d (k : Kind) : D := .tuple [.str (ch k.letter), .bool k.royal, .bool k.passes, .str (optS k.becomes), .int k.row, .tuple (k.ways.map Way.d)]
structure Rules where
  wide : Nat
  high : Nat
  holes : Nat
  kinds : List Kind
  pairs : List (Nat × Nat)
  stuck : Str
  calm : Int
  rep : Int
def pairD (p : Nat × Nat) : D := .tuple [.str (ch p.1), .str (ch p.2)]
def Rules.b (R : Rules) : D := .tuple [.int (R.wide : Int), .int (R.high : Int), .int (R.holes : Int)]
def Rules.d (R : Rules) : D := .tuple [R.b, .tuple (R.kinds.map Kind.d), .tuple (R.pairs.map pairD), .tuple [.str R.stuck, .int R.calm, .int R.rep]]
structure KindOk (R : Rules) (k : Kind) : Prop where
  low : isLow k.letter = true
  few : k.ways.length ≤ 2
  ways : ∀ w ∈ k.ways, WayOk w
  bec : ∀ c, k.becomes = some c → isLow c = true ∧ ∃ k' ∈ R.kinds, k'.letter = c
structure RulesOk (R : Rules) : Prop where
  w : 1 ≤ R.wide ∧ R.wide ≤ 4
  h : 1 ≤ R.high ∧ R.high ≤ 3
  few : R.kinds.length ≤ 4
  ks : ∀ k ∈ R.kinds, KindOk R k
  pfew : R.pairs.length ≤ 4
  ps : ∀ p ∈ R.pairs, isLow p.1 = true ∧ isLow p.2 = true
  stuck : R.stuck = "even" ∨ R.stuck = "lost" ∨ R.stuck = "won"
  kne : 0 < R.kinds.length
  pk : ∀ p ∈ R.pairs, (∃ k ∈ R.kinds, k.letter = p.1) ∧ ∃ k ∈ R.kinds, k.letter = p.2
structure Place where
  cells : List Nat
  side : Nat
  fresh : Nat
  passed : Option (Nat × Nat)
  calm : Int
def passD : Option (Nat × Nat) → D
  | none => .none
  | some (b, a) => .tuple [.int (b : Int), .int (a : Int)]
def Place.d (p : Place) : D := .tuple [.str (txt p.cells), .int (p.side : Int), .int (p.fresh : Int), passD p.passed, .int p.calm]
def isPc (c : Nat) : Bool := isUp c || isLow c
def Rules.n (R : Rules) : Nat := R.wide * R.high
structure CellOk (R : Rules) (c : Nat) : Prop where
  is : c = 46 ∨ c = 35 ∨ (isPc c = true ∧ ∃ k ∈ R.kinds, k.letter = low c)
structure PlaceOk (R : Rules) (p : Place) : Prop where
  len : p.cells.length = R.n
  cells : ∀ c ∈ p.cells, CellOk R c
  side : p.side = 0 ∨ p.side = 1
  fresh : p.fresh < 2 ^ 20
  passed : ∀ b a, p.passed = some (b, a) → b < R.n ∧ a < R.n
  calm : 0 ≤ p.calm ∧ p.calm ≤ 999
section
variable {R : Rules} {p : Place}
theorem RulesOk.n12 (h : RulesOk R) : R.n ≤ 12 ∧ 1 ≤ R.n := by
  have h1 := h.w
  have h2 := h.h
  unfold Rules.n
  constructor
  · calc R.wide * R.high ≤ 4 * 3 := Nat.mul_le_mul h1.2 h2.2
      _ = 12 := rfl
  · exact Nat.mul_pos h1.1 h2.1
theorem CellOk.lt {c : Nat} (h : CellOk R c) : c < 128 := by
  rcases h.is with e | e | ⟨e, _⟩
  · omega
  · omega
  · unfold isPc isUp isLow at e; simp at e; omega
theorem PlaceOk.cell (hp : PlaceOk R p) {i : Nat} (hi : i < R.n) : ∃ c, p.cells[i]? = some c ∧ CellOk R c := by
  have hl : i < p.cells.length := by rw [hp.len]; exact hi
  exact ⟨_, List.getElem?_eq_getElem hl, hp.cells _ (List.getElem_mem hl)⟩
@[simp] theorem atS {cs : List Nat} {i : Nat} {c : Nat} (h : cs[i]? = some c) (hl : cs.length ≤ 1000) : dAt (.str (txt cs)) (.int (i : Nat)) = some (.str (ch c)) := by
  have hi := (List.getElem?_eq_some_iff.mp h).1
  have h1 : cs.length ≤ sizeLine := Nat.le_trans hl (Nat.le_trans (by decide) sizeLine_big)
  simp [dAt, atI, ixN, h, h1, hi]
  exact (List.getElem?_eq_some_iff.mp h).2
def kindOf (R : Rules) (c : Nat) : Option Kind := R.kinds.find? fun k => decide (k.letter = low c)
def kindD : Option Kind → D
  | none => .none
  | some k => k.d
theorem m_kind_of_eq (hR : RulesOk R) {c : Nat} (hc : c < 128) : m_kind_of [R.d, .str (ch c)] = some (kindD (kindOf R c)) := by
  have key := loopF_find (t := .nm 2) (b := b_kind_of_1) (g := Kind.d) (r := Kind.d) (p := fun k => decide (k.letter = low c)) (fun ρ => ∃ v, ρ = [.im R.d, .im (.str (ch c)), v]) (xs := R.kinds) (ρ := [.im R.d, .im (.str (ch c)), .no]) (fun k hk ρ ⟨v, e⟩ => by
    subst e
    have h1 := (hR.ks k hk).low
    have h2 : k.letter < 200 := by unfold isLow at h1; simp at h1; omega
    have h3 : low c < 200 := by have := low_lt hc; omega
    refine ⟨[.im R.d, .im (.str (ch c)), .im k.d], rfl, ?_⟩
    by_cases h : k.letter = low c
    · right
      refine ⟨by simp [h], ?_⟩
      simp [b_kind_of_1, Kind.d, hc, h2, h3, h]
    · left
      refine ⟨by simp [h], [.im R.d, .im (.str (ch c)), .im k.d], .inl ?_, _, rfl⟩
      simp [b_kind_of_1, Kind.d, hc, h2, h3, h]) ⟨_, rfl⟩
  have e0 : R.d = .tuple [R.b, .tuple (R.kinds.map Kind.d), .tuple (R.pairs.map pairD), .tuple [.str R.stuck, .int R.calm, .int R.rep]] := rfl
  unfold kindOf
  rcases key with ⟨k, e1, e2⟩ | ⟨e1, ρ', e2, _⟩
  · rw [e1]
    rw [e0] at e2 ⊢
    simp [m_kind_of, g_kind_of, e2, kindD]
  · rw [e1]
    rw [e0] at e2 ⊢
    simp [m_kind_of, g_kind_of, e2, kindD]
theorem kindOf_some (hR : RulesOk R) {c : Nat} (h : CellOk R c) (hp : isPc c = true) : ∃ k ∈ R.kinds, kindOf R c = some k ∧ k.letter = low c := by
  rcases h.is with e | e | ⟨_, k, hk, e⟩
  · subst e; exact absurd hp (by decide)
  · subst e; exact absurd hp (by decide)
  · unfold kindOf
    cases hf : R.kinds.find? fun k => decide (k.letter = low c) with
    | none =>
      have := List.find?_eq_none.mp hf k hk
      simp [e] at this
    | some k' => 
      have h1 := List.find?_some hf
      exact ⟨k', List.mem_of_find?_eq_some hf, rfl, by simpa using h1⟩
end
end
end RB
set_option Elab.async false
set_option linter.all false
set_option maxRecDepth 100000
set_option maxHeartbeats 2000000
set_option autoImplicit false
/-! PU3: full, pieces. -/
namespace RB
open PySem PySem.Spec L2
noncomputable section
theorem enumFrom_eq {f : Nat → D} : ∀ (cs : List Nat) (n : Nat), enumFrom n (cs.map f) = (List.range cs.length).map fun i => .tuple [.int ((n + i : Nat) : Int), f (cs.getD i 0)]
  | [], _ => rfl
  | c :: r, n => by
    rw [List.length_cons, List.range_succ_eq_map, List.map_cons, List.map_cons, List.map_map, enumFrom, enumFrom_eq r (n + 1)]
    congr 1
    refine List.map_congr_left fun i _ => ?_
    show PyData.tuple [PyData.int ((n + 1 + i : Nat) : Int), f (r.getD i 0)] = PyData.tuple [PyData.int ((n + (i + 1) : Nat) : Int), f ((c :: r).getD (i + 1) 0)]
    rw [show n + 1 + i = n + (i + 1) by omega]
    rfl
def sqWhere (P : Nat → Bool) (cs : List Nat) : List Nat := (List.range cs.length).filter fun i => P (cs.getD i 0)
theorem mem_sqWhere {P : Nat → Bool} {cs : List Nat} {i : Nat} : i ∈ sqWhere P cs ↔ ∃ c, cs[i]? = some c ∧ P c = true := by
  unfold sqWhere
  rw [List.mem_filter, List.mem_range]
  constructor
  · rintro ⟨h, e⟩
    refine ⟨cs[i], List.getElem?_eq_getElem h, ?_⟩
    simpa [List.getD, List.getElem?_eq_getElem h] using e
  · rintro ⟨c, e, h⟩
    refine ⟨(List.getElem?_eq_some_iff.mp e).1, ?_⟩
    simpa [List.getD, e] using h
/-- numbered signs, taken by P -/
theorem enum_comp {c : FT} {f : FE} {ρ : Sl} {P : Nat → Bool} {cs : List Nat} {t : Tg} (h : ∀ i c0, cs[i]? = some c0 → ∃ ρ1, t.s (.tuple [.int (i : Nat), .str (ch c0)]) ρ = some ρ1 ∧ c ρ1 = some (P c0) ∧ f ρ1 = some (.int (i : Nat))) :
    loopC t c f ρ (enumFrom 0 (signsD (txt cs))) = some ((sqWhere P cs).map fun i => .int ((i : Nat) : Int)) := by
  rw [signs_txt, enumFrom_eq]
  unfold sqWhere
  refine loopC_eq (g := fun i => PyData.tuple [PyData.int ((0 + i : Nat) : Int), PyData.str (ch (cs.getD i 0))]) fun i hi => ?_
  have hi := List.mem_range.mp hi
  have e : cs.getD i 0 = cs[i] := by simp [List.getD, List.getElem?_eq_getElem hi]
  obtain ⟨ρ1, a, b, d⟩ := h i cs[i] (List.getElem?_eq_getElem hi)
  refine ⟨ρ1, ?_, ?_, fun _ => d⟩
  · rw [Nat.zero_add, e]; exact a
  · rw [e]; exact b
def pcB (c : Nat) : Bool := decide (¬ c = 46) && decide (¬ c = 35)
def fullB (p : Place) : Nat := bitsL 0 (sqWhere pcB p.cells)
section
variable {R : Rules} {p : Place}
theorem enumlen {cs : List Nat} (h : cs.length ≤ 12) : (enumFrom 0 (signsD (txt cs))).length ≤ sizeLine := by
  rw [enum_len, signs_len, txt_size]
  exact Nat.le_trans h (Nat.le_trans (by decide) sizeLine_big)
theorem m_full_eq (hR : RulesOk R) (hp : PlaceOk R p) : m_full [p.d] = some (.int ((fullB p : Nat) : Int)) := by
  have hl : p.cells.length ≤ 12 := by rw [hp.len]; exact hR.n12.1
  have e := enum_comp (c := c_full_1) (f := e_full_2) (t := .tp [1, 2]) (ρ := [.im p.d, .no, .no]) (P := pcB) (cs := p.cells) (fun i c0 h0 => by
    have hc : c0 < 200 := by have := (hp.cells c0 (List.mem_of_getElem? h0)).lt; omega
    refine ⟨[.im p.d, .im (.int (i : Nat)), .im (.str (ch c0))], rfl, ?_, rfl⟩
    by_cases h46 : c0 = 46 <;> simp [c_full_1, dot_ch, hash_ch, hc, pcB, h46])
  have e0 : p.d = .tuple [.str (txt p.cells), .int (p.side : Int), .int (p.fresh : Int), passD p.passed, .int p.calm] := rfl
  have e1 := m_bits_of_eq (xs := sqWhere pcB p.cells) fun s hs => by
    obtain ⟨c, h, _⟩ := mem_sqWhere.mp hs
    have := (List.getElem?_eq_some_iff.mp h).1
    omega
  have e2 := enumlen hl
  rw [e0] at e ⊢
  simp [m_full, g_full, e, e1, e2, fullB]
def sideP (side : Nat) (c : Nat) : Bool := if side = 0 then isUp c else isLow c
def piecesB (p : Place) (side : Nat) : Nat := bitsL 0 (sqWhere (sideP side) p.cells)
theorem letters_list : (Str.ofString "abcdefghijklmnopqrstuvwxyz").cps.toList = [97, 98, 99, 100, 101, 102, 103, 104, 105, 106, 107, 108, 109, 110, 111, 112, 113, 114, 115, 116, 117, 118, 119, 120, 121, 122] := by decide +kernel
theorem great_list : (Str.ofString "ABCDEFGHIJKLMNOPQRSTUVWXYZ").cps.toList = [65, 66, 67, 68, 69, 70, 71, 72, 73, 74, 75, 76, 77, 78, 79, 80, 81, 82, 83, 84, 85, 86, 87, 88, 89, 90] := by decide +kernel
@[simp] theorem in_letters {c : Nat} : dIn (.str (ch c)) (.str "abcdefghijklmnopqrstuvwxyz") = some (.bool (isLow c)) := by
  show some (PyData.bool (id (decide (c ∈ (Str.ofString "abcdefghijklmnopqrstuvwxyz").cps.toList)))) = _
  rw [letters_list]
  congr 2
  unfold isLow
  rw [id, ← Bool.decide_and, decide_eq_decide]
  simp only [List.mem_cons, List.not_mem_nil, or_false]
  omega
@[simp] theorem in_great {c : Nat} : dIn (.str (ch c)) (.str "ABCDEFGHIJKLMNOPQRSTUVWXYZ") = some (.bool (isUp c)) := by
  show some (PyData.bool (id (decide (c ∈ (Str.ofString "ABCDEFGHIJKLMNOPQRSTUVWXYZ").cps.toList)))) = _
  rw [great_list]
  congr 2
  unfold isUp
  rw [id, ← Bool.decide_and, decide_eq_decide]
  simp only [List.mem_cons, List.not_mem_nil, or_false]
  omega
theorem m_pieces_eq (hR : RulesOk R) (hp : PlaceOk R p) {side : Nat} (hs : side = 0 ∨ side = 1) : m_pieces [p.d, .int ((side : Nat) : Int)] = some (.int ((piecesB p side : Nat) : Int)) := by
  have hl : p.cells.length ≤ 12 := by rw [hp.len]; exact hR.n12.1
  have e1 := m_bits_of_eq (xs := sqWhere (sideP side) p.cells) fun s hs => by
    obtain ⟨c, h, _⟩ := mem_sqWhere.mp hs
    have := (List.getElem?_eq_some_iff.mp h).1
    omega
  have e0 : p.d = .tuple [.str (txt p.cells), .int (p.side : Int), .int (p.fresh : Int), passD p.passed, .int p.calm] := rfl
  have e2 := enumlen hl
  rcases hs with rfl | rfl
  · have e := enum_comp (c := c_pieces_1) (f := e_pieces_2) (t := .tp [3, 4]) (ρ := [.im p.d, .im (.int ((0 : Nat) : Int)), .im (.str "ABCDEFGHIJKLMNOPQRSTUVWXYZ"), .no, .no]) (P := sideP 0) (cs := p.cells) (fun i c0 h0 => by
      refine ⟨[.im p.d, .im (.int ((0 : Nat) : Int)), .im (.str "ABCDEFGHIJKLMNOPQRSTUVWXYZ"), .im (.int (i : Nat)), .im (.str (ch c0))], rfl, ?_, rfl⟩
      simp [c_pieces_1, sideP])
    rw [e0] at e ⊢
    simp at e
    simp [m_pieces, g_pieces, e, e1, e2, piecesB]
  · have e := enum_comp (c := c_pieces_1) (f := e_pieces_2) (t := .tp [3, 4]) (ρ := [.im p.d, .im (.int ((1 : Nat) : Int)), .im (.str "abcdefghijklmnopqrstuvwxyz"), .no, .no]) (P := sideP 1) (cs := p.cells) (fun i c0 h0 => by
      refine ⟨[.im p.d, .im (.int ((1 : Nat) : Int)), .im (.str "abcdefghijklmnopqrstuvwxyz"), .im (.int (i : Nat)), .im (.str (ch c0))], rfl, ?_, rfl⟩
      simp [c_pieces_1, sideP])
    rw [e0] at e ⊢
    simp at e
    simp [m_pieces, g_pieces, e, e1, e2, piecesB]
/-- the squares of a side's pieces -/
def own (p : Place) (side : Nat) : List Nat := sqsF 12 (piecesB p side) 0
theorem m_own_eq (hR : RulesOk R) (hp : PlaceOk R p) (side : Nat) : m_squares_of [.int ((piecesB p side : Nat) : Int)] = some (.list ((own p side).map fun x => .int ((x : Nat) : Int))) := by
  have hl : p.cells.length ≤ 12 := by rw [hp.len]; exact hR.n12.1
  refine m_squares_of_eq (bitsL_lt _ _ _ (by decide) fun s hs => ?_) (by decide)
  obtain ⟨c, h, _⟩ := mem_sqWhere.mp hs
  have := (List.getElem?_eq_some_iff.mp h).1
  omega
theorem mem_own (hR : RulesOk R) (hp : PlaceOk R p) {side x : Nat} : x ∈ own p side ↔ ∃ c, p.cells[x]? = some c ∧ sideP side c = true := by
  have hl : p.cells.length ≤ 12 := by rw [hp.len]; exact hR.n12.1
  unfold own piecesB
  rw [mem_sqsF, bitsL_test]
  simp only [Nat.zero_le, true_and, Nat.sub_zero, Nat.zero_testBit, Bool.false_or, decide_eq_true_eq, mem_sqWhere]
  constructor
  · exact fun h => h.2
  · rintro ⟨c, e, h⟩
    have := (List.getElem?_eq_some_iff.mp e).1
    exact ⟨by omega, c, e, h⟩
theorem own_lt (hR : RulesOk R) (hp : PlaceOk R p) {side x : Nat} (h : x ∈ own p side) : x < R.n := by
  obtain ⟨c, e, _⟩ := (mem_own hR hp).mp h
  have := (List.getElem?_eq_some_iff.mp e).1
  rw [hp.len] at this
  exact this
theorem sideP_pc {side c : Nat} (h : sideP side c = true) : isPc c = true := by unfold sideP at h; unfold isPc; split at h <;> simp [h]
end
end
end RB
set_option Elab.async false
set_option linter.all false
set_option maxRecDepth 100000
set_option maxHeartbeats 2000000
set_option autoImplicit false
/-! PU4: sorted sets; steps. -/
namespace RB
open PySem PySem.Spec L2
noncomputable section
@[simp] theorem lt_sig (n : Nat) (h : n < 1000000) : n < sizeLine := Nat.lt_of_lt_of_le h sizeLine_big
/-! ### sorted(set(..)) of typed rows -/
def sortSetL : D → Option D
  | .list ds => (keysOf ds).bind fun ks => if setC ks = true ∧ plainDs ds = true then some (.list (sortK ks)) else none
  | _ => none
@[simp] theorem sortSetE_eq {f : FE} {ρ : Sl} : sortSetE f ρ = (f ρ).bind sortSetL := by
  unfold sortSetE
  cases f ρ with
  | none => rfl
  | some d => cases d <;> rfl
/-- rows of one kind: how they are keyed -/
structure Keyed (α : Type) where
  k : α → NestedKey
  d : α → D
  data : ∀ a, (k a).data = d a
  inj : ∀ a b, k a = k b → a = b
  key : ∀ a, keyOf (d a) = some (k a)
  plain : ∀ a, plainD (d a) = true
  tup : ∀ a, ∃ x r, k a = .tup (x :: r)
  dep : ∀ a, (k a).depth ≤ 8
  ddep : ∀ a, (k a).data.depth ≤ 8
  alike : ∀ a b, PySem.W.alike (d a) (d b) = true
section
variable {α : Type} (S : Keyed α)
theorem keysOf_map : ∀ L : List α, keysOf (L.map S.d) = some (L.map S.k)
  | [] => rfl
  | a :: L => by simp [keysOf, S.key, keysOf_map L]
theorem preim (M : List NestedKey) (L : List α) (h : ∀ x ∈ M, x ∈ L.map S.k) : ∃ L' : List α, M = L'.map S.k := by
  induction M with
  | nil => exact ⟨[], rfl⟩
  | cons x M ih =>
    obtain ⟨L', e⟩ := ih fun y hy => h y (List.mem_cons_of_mem _ hy)
    obtain ⟨a, _, rfl⟩ := List.mem_map.mp (h x List.mem_cons_self)
    exact ⟨a :: L', by rw [e]; rfl⟩
theorem sortK_map (L : List α) : ∃ L' : List α, sortK (L.map S.k) = L'.map S.d ∧ L'.Nodup ∧ (∀ a, a ∈ L' ↔ a ∈ L) ∧ L'.length ≤ L.length := by
  have hm : ∀ x, x ∈ (dedupK (L.map S.k)).mergeSort leK ↔ x ∈ L.map S.k := fun x => by
    rw [(List.mergeSort_perm _ _).mem_iff, mem_dedupK]
  obtain ⟨L', e⟩ := preim S ((dedupK (L.map S.k)).mergeSort leK) L fun x hx => (hm x).mp hx
  have hnd : ((dedupK (L.map S.k)).mergeSort leK).Nodup := (List.mergeSort_perm _ _).nodup_iff.mpr nodup_dedupK
  have hlen : (dedupK (L.map S.k)).length ≤ L.length := by
    have := len_le_of_sub (nodup_dedupK (ks := L.map S.k)) fun x hx => mem_dedupK.mp hx
    rw [List.length_map] at this
    exact this
  refine ⟨L', ?_, ?_, ?_, ?_⟩
  · unfold sortK
    rw [← sortD_keys, e, List.map_map]
    exact List.map_congr_left fun a _ => S.data a
  · rw [e] at hnd; exact nodup_map hnd
  · intro a
    have := hm (S.k a)
    rw [e] at this
    constructor
    · intro ha
      obtain ⟨b, hb, eb⟩ := List.mem_map.mp (this.mp (List.mem_map.mpr ⟨a, ha, rfl⟩))
      rw [← S.inj _ _ eb]; exact hb
    · intro ha
      obtain ⟨b, hb, eb⟩ := List.mem_map.mp (this.mpr (List.mem_map.mpr ⟨a, ha, rfl⟩))
      rw [← S.inj _ _ eb]; exact hb
  · have h1 := (List.mergeSort_perm (dedupK (L.map S.k)) leK).length_eq
    rw [e, List.length_map] at h1
    omega
theorem alike_map (L : List α) : alikeK (L.map S.k) = true := by
  unfold alikeK
  rw [List.all_eq_true]
  intro x hx
  rw [List.all_eq_true]
  intro y hy
  obtain ⟨a, _, rfl⟩ := List.mem_map.mp hx
  obtain ⟨b, _, rfl⟩ := List.mem_map.mp hy
  rw [S.data, S.data]
  exact S.alike a b
theorem sortSet_map (L C : List α) (hs : ∀ a ∈ L, a ∈ C) (hC : C.length < 64) : ∃ L' : List α, sortSetL (.list (L.map S.d)) = some (.list (L'.map S.d)) ∧ L'.Nodup ∧ (∀ a, a ∈ L' ↔ a ∈ L) ∧ L'.length ≤ C.length := by
  obtain ⟨L', e, nd, hm, hl⟩ := sortK_map S L
  refine ⟨L', ?_, nd, hm, len_le_of_sub nd fun a ha => hs a ((hm a).mp ha)⟩
  have hset : setC (L.map S.k) = true := by
    unfold setC
    simp only [Bool.and_eq_true, List.all_eq_true, decide_eq_true_eq]
    refine ⟨⟨fun k hk => ?_, ?_⟩, alike_map S L⟩
    · obtain ⟨a, _, rfl⟩ := List.mem_map.mp hk
      obtain ⟨x, r, ex⟩ := S.tup a
      exact ⟨⟨by rw [ex], S.dep a⟩, S.ddep a⟩
    · have h1 := len_le_of_sub (m := C.map S.k) (nodup_dedupK (ks := L.map S.k)) fun x hx => by
        obtain ⟨a, ha, rfl⟩ := List.mem_map.mp (mem_dedupK.mp hx)
        exact List.mem_map.mpr ⟨a, hs a ha, rfl⟩
      rw [List.length_map] at h1
      omega
  have hpl : plainDs (L.map S.d) = true := plainDs_of fun d hd => by
    obtain ⟨a, _, rfl⟩ := List.mem_map.mp hd
    exact S.plain a
  show (keysOf (L.map S.d)).bind _ = _
  rw [keysOf_map S L]
  show (if setC (L.map S.k) = true ∧ plainDs (L.map S.d) = true then some (PyData.list (sortK (L.map S.k))) else none) = _
  rw [if_pos ⟨hset, hpl⟩, e]
end
/-! ### pairs of whole numbers -/
abbrev prD (a : Int × Int) : D := .tuple [.int a.1, .int a.2]
def prS : Keyed (Int × Int) where
  k a := .tup [.num a.1, .num a.2]
  d := prD
  data _ := rfl
  inj a b h := by
    simp only [NestedKey.tup.injEq, List.cons.injEq, NestedKey.num.injEq, and_true] at h
    exact Prod.ext h.1 h.2
  key _ := rfl
  plain _ := rfl
  tup _ := ⟨_, _, rfl⟩
  dep _ := by simp [NestedKey.depth, NestedKey.depthAll]
  ddep _ := by simp [NestedKey.data, NestedKey.datas, PyData.depth, PyData.depthAll]
  alike _ _ := rfl
def rawSteps (w : Way) : List (Int × Int) := (w.dx, w.dy) :: (if w.turn = "wide" then [(0 - w.dx, w.dy)] else if w.turn = "all" then
  [(w.dx, w.dy), (0 - w.dx, w.dy), (w.dx, 0 - w.dy), (0 - w.dx, 0 - w.dy), (w.dy, w.dx), (0 - w.dy, w.dx), (w.dy, 0 - w.dx), (0 - w.dy, 0 - w.dx)] else [])
def sideSteps (w : Way) (side : Nat) : List (Int × Int) := if side = 1 then (rawSteps w).map fun a => (a.1, 0 - a.2) else rawSteps w
theorem sideSteps_len (w : Way) (side : Nat) : (sideSteps w side).length ≤ 9 := by
  unfold sideSteps rawSteps
  split
  · rw [List.length_map]
    split
    · simp
    · split <;> simp
  · split
    · simp
    · split <;> simp
structure StepOk (a : Int × Int) : Prop where
  x : -2 ≤ a.1 ∧ a.1 ≤ 2
  y : -2 ≤ a.2 ∧ a.2 ≤ 2
  ne : ¬ (a.1 = 0 ∧ a.2 = 0)
theorem rawSteps_ok {w : Way} (h : WayOk w) : ∀ a ∈ rawSteps w, StepOk a := by
  have h1 := h.dx
  have h2 := h.dy
  have h3 := h.ne
  intro a ha
  unfold rawSteps at ha
  rcases List.mem_cons.mp ha with e | ha
  · subst e; exact ⟨h1, h2, h3⟩
  · split at ha
    · simp only [List.mem_cons, List.not_mem_nil, or_false] at ha
      subst ha
      exact ⟨by simp only; omega, h2, by simp only; omega⟩
    · split at ha
      · simp only [List.mem_cons, List.not_mem_nil, or_false] at ha
        rcases ha with e | e | e | e | e | e | e | e <;> subst e <;> exact ⟨by simp only; omega, by simp only; omega, by simp only; omega⟩
      · cases ha
theorem sideSteps_ok {w : Way} (h : WayOk w) {side : Nat} : ∀ a ∈ sideSteps w side, StepOk a := by
  intro a ha
  unfold sideSteps at ha
  split at ha
  · obtain ⟨b, hb, rfl⟩ := List.mem_map.mp ha
    have := rawSteps_ok h b hb
    exact ⟨this.x, by have := this.y; simp only; omega, by have := this.ne; simp only; omega⟩
  · exact rawSteps_ok h a ha
@[simp] theorem ne_one_wide : ¬ (("one" : Str) = "wide") := by decide +kernel
@[simp] theorem ne_one_all : ¬ (("one" : Str) = "all") := by decide +kernel
@[simp] theorem ne_wide_all : ¬ (("wide" : Str) = "all") := by decide +kernel
@[simp] theorem ne_all_wide : ¬ (("all" : Str) = "wide") := by decide +kernel
theorem m_steps_raw {w : Way} (h : WayOk w) {side : Nat} (hs : side = 0 ∨ side = 1) : m_steps [w.d, .int ((side : Nat) : Int)] = sortSetL (.list ((sideSteps w side).map prD)) := by
  have ok1 : PyData.strOk w.turn = true := by rcases h.turn with e | e | e <;> rw [e] <;> simp
  rcases h.turn with e | e | e <;> rcases hs with rfl | rfl <;>
    simp [m_steps, g_steps, Way.d, e, sideSteps, rawSteps, loopF, b_steps_1, loopC, e_steps_2] <;> (cases sortSetL _ <;> rfl)
theorem m_steps_eq {w : Way} (h : WayOk w) {side : Nat} (hs : side = 0 ∨ side = 1) : ∃ L : List (Int × Int), m_steps [w.d, .int ((side : Nat) : Int)] = some (.list (L.map prD)) ∧ (∀ a, a ∈ L ↔ a ∈ sideSteps w side) ∧ L.length ≤ 9 := by
  obtain ⟨L, e, _, hm, hl⟩ := sortSet_map prS (sideSteps w side) (sideSteps w side) (fun _ h => h) (Nat.lt_of_le_of_lt (sideSteps_len w side) (by decide))
  refine ⟨L, ?_, hm, Nat.le_trans hl (sideSteps_len w side)⟩
  rw [m_steps_raw h hs]
  exact e
end
end RB
set_option Elab.async false
set_option linter.all false
set_option maxRecDepth 100000
set_option maxHeartbeats 2000000
set_option autoImplicit false
/-! PU5: squares, lines of movers. -/
namespace RB
open PySem PySem.Spec L2
noncomputable section
theorem bit_eq (b s : Nat) : Builtin.bitAnd (((b : Nat) : Int) / 2 ^ s) 1 = if b.testBit s = true then 1 else 0 := by
  have e : ((b : Nat) : Int) / 2 ^ s = ((b / 2 ^ s : Nat) : Int) := by simp
  rw [e, PyProof.Rows.bitAnd_m1, Nat.testBit_eq_decide_div_mod_eq]
  simp only [decide_eq_true_eq]
  split <;> omega
theorem log_small {x y : Int} (hx : x.natAbs < 100000) (hy : y.natAbs < 100000) : x.natAbs.log2 + y.natAbs.log2 < 100000000 := by
  have h1 := Nat.log2_le_self x.natAbs
  have h2 := Nat.log2_le_self y.natAbs
  omega
def optI : Option Nat → D
  | none => .none
  | some s => .int (s : Int)
def sqAt (R : Rules) (c r : Int) : Option Nat := if 0 ≤ c ∧ c < R.wide ∧ 0 ≤ r ∧ r < R.high ∧ R.holes.testBit (r * R.wide + c).toNat = false then some (r * R.wide + c).toNat else none
section
variable {R : Rules} {p : Place}
theorem sq_lt {w h : Nat} {c r : Int} (h1 : 0 ≤ c) (h2 : c < w) (h3 : 0 ≤ r) (h4 : r < h) : 0 ≤ r * w + c ∧ (r * w + c).toNat < w * h := by
  have a : 0 ≤ r * (w : Int) := Int.mul_nonneg h3 (by omega)
  have b : r * (w : Int) ≤ ((h : Int) - 1) * w := Int.mul_le_mul_of_nonneg_right (by omega) (by omega)
  have e : ((h : Int) - 1) * w = (h : Int) * w - w := by rw [Int.sub_mul, Int.one_mul]
  have e2 : ((w * h : Nat) : Int) = (h : Int) * w := by rw [Int.natCast_mul, Int.mul_comm]
  refine ⟨by omega, ?_⟩
  have : r * (w : Int) + c < ((w * h : Nat) : Int) := by rw [e2]; omega
  omega
theorem sqAt_lt {c r : Int} {s : Nat} (h : sqAt R c r = some s) : s < R.n ∧ 0 ≤ c ∧ c < R.wide ∧ 0 ≤ r ∧ r < R.high ∧ (s : Int) = r * R.wide + c := by
  unfold sqAt at h
  split at h
  · rename_i hc
    cases h
    obtain ⟨a, b⟩ := sq_lt hc.1 hc.2.1 hc.2.2.1 hc.2.2.2.1
    exact ⟨b, hc.1, hc.2.1, hc.2.2.1, hc.2.2.2.1, Int.toNat_of_nonneg a⟩
  · cases h
theorem m_square_at_eq (hR : RulesOk R) (c r : Int) : m_square_at [R.b, .int c, .int r] = some (optI (sqAt R c r)) := by
  have hw := hR.w
  have hh := hR.h
  unfold Rules.b
  by_cases h1 : 0 ≤ c
  · by_cases h2 : c < (R.wide : Int)
    · by_cases h3 : 0 ≤ r
      · by_cases h4 : r < (R.high : Int)
        · obtain ⟨a, _⟩ := sq_lt h1 h2 h3 h4
          have hl : r.natAbs.log2 + (R.wide : Int).natAbs.log2 < 100000000 := log_small (by omega) (by omega)
          have hl' : r.natAbs.log2 + R.wide.log2 < 100000000 := hl
          have hb := bit_eq R.holes (r * (R.wide : Int) + c).toNat
          by_cases hbt : R.holes.testBit (r * (R.wide : Int) + c).toNat = true
          · rw [if_pos hbt] at hb
            simp [m_square_at, g_square_at, h1, h2, h3, h4, hl', a, hb, sqAt, hbt, optI, Int.not_le.mpr h2, Int.not_le.mpr h4]
          · rw [if_neg hbt] at hb
            simp [m_square_at, g_square_at, h1, h2, h3, h4, hl', a, hb, sqAt, hbt, optI, Int.not_le.mpr h2, Int.not_le.mpr h4]
            omega
        · simp [m_square_at, g_square_at, h1, h2, h3, h4, sqAt, optI, Int.not_lt.mp h4]
      · simp [m_square_at, g_square_at, h1, h2, h3, sqAt, optI]
    · simp [m_square_at, g_square_at, h1, h2, sqAt, optI, Int.not_lt.mp h2]
  · simp [m_square_at, g_square_at, h1, sqAt, optI]
def aheadOf (R : Rules) (i j : Int) (at_ : Nat) : Option Nat := sqAt R ((at_ : Int) % R.wide + i) ((at_ : Int) / R.wide + j)
theorem m_ahead_eq (hR : RulesOk R) {cs : List Addr} {C : Addr} (hC : C ∈ cs) (i j k : Int) (at_ : Nat) : m_ahead cs [movD C i j k, R.b, .int (at_ : Int)] = some (optI (aheadOf R i j at_)) := by
  have hw := hR.w
  have e := m_square_at_eq hR ((at_ : Int) % R.wide + i) ((at_ : Int) / R.wide + j)
  have e0 : R.b = .tuple [.int (R.wide : Int), .int (R.high : Int), .int (R.holes : Int)] := rfl
  have h1 : (0 : Int) < R.wide := by omega
  have h2 : (R.wide : Int) < 1073741824 := by omega
  have h3 : 0 < R.wide := by omega
  rw [e0] at e ⊢
  simp [m_ahead, g_ahead, movAt_mem hC, h1, h2, h3, e, aheadOf]
theorem m_goes_on_eq {cs : List Addr} {C : Addr} (hC : C ∈ cs) (i j k : Int) (L : List D) : m_goes_on cs [movD C i j k, .list L] = some (.bool (decide (k = 0) || decide ((L.length : Int) ≤ k))) := by
  by_cases h : k = 0 <;> simp [m_goes_on, g_goes_on, movAt_mem hC, h]
/-- how far one can go -/
def pot (R : Rules) (i j : Int) (at_ : Nat) : Int := if 0 < i then R.wide - (at_ : Int) % R.wide else if i < 0 then (at_ : Int) % R.wide + 1 else if 0 < j then R.high - (at_ : Int) / R.wide else (at_ : Int) / R.wide + 1
theorem colrow {w : Nat} {c r : Int} {s : Nat} (hw : 0 < w) (h1 : 0 ≤ c) (h2 : c < w) (h3 : (s : Int) = r * w + c) : (s : Int) % w = c ∧ (s : Int) / w = r := by
  have e : (s : Int) = c + (w : Int) * r := by rw [h3, Int.mul_comm]; omega
  rw [e, Int.add_mul_emod_self_left, Int.add_mul_ediv_left _ _ (by omega : (w : Int) ≠ 0), Int.emod_eq_of_lt h1 h2, Int.ediv_eq_zero_of_lt h1 h2]
  exact ⟨rfl, by omega⟩
theorem pot_pos (hR : RulesOk R) {i j : Int} {at_ : Nat} (h : at_ < R.n) : 1 ≤ pot R i j at_ ∧ pot R i j at_ ≤ 4 := by
  have hw := hR.w
  have hh := hR.h
  have h1 : 0 ≤ (at_ : Int) % R.wide := Int.emod_nonneg _ (by omega)
  have h2 : (at_ : Int) % R.wide < R.wide := Int.emod_lt_of_pos _ (by omega)
  have h3 : 0 ≤ (at_ : Int) / R.wide := Int.ediv_nonneg (by omega) (by omega)
  have h4 : (at_ : Int) / R.wide < R.high := Int.ediv_lt_of_lt_mul (by omega) (by
    unfold Rules.n at h
    have : ((R.wide * R.high : Nat) : Int) = (R.high : Int) * R.wide := by rw [Int.natCast_mul, Int.mul_comm]
    omega)
  unfold pot
  split
  · omega
  · split
    · omega
    · split <;> omega
theorem pot_ahead (hR : RulesOk R) {i j : Int} (hs : StepOk (i, j)) {at_ to : Nat} (h : aheadOf R i j at_ = some to) : pot R i j to + 1 ≤ pot R i j at_ := by
  obtain ⟨_, a, b, c, d, e⟩ := sqAt_lt h
  obtain ⟨e1, e2⟩ := colrow (by have := hR.w; omega) a b e
  have ne := hs.ne
  simp only at ne
  unfold pot
  rw [e1, e2]
  split
  · omega
  · split
    · omega
    · split <;> omega
def insD (l : List Nat) : D := .list (l.map fun (s : Nat) => .int (s : Int))
def rideL (R : Rules) (i j k : Int) (full : Nat) : Nat → List Nat → Nat → List (List Nat)
  | 0, _, _ => []
  | n + 1, line, at_ => if k = 0 ∨ (line.length : Int) ≤ k then match aheadOf R i j at_ with
      | none => []
      | some to => (line ++ [to]) :: (if full.testBit to = true then [] else rideL R i j k full n (line ++ [to]) to)
    else []
def hopL (R : Rules) (i j k : Int) (full : Nat) : Nat → List Nat → Nat → Nat → List (List Nat)
  | 0, _, _, _ => []
  | n + 1, line, at_, over => if over < 2 ∧ (k = 0 ∨ (line.length : Int) ≤ k) then match aheadOf R i j at_ with
      | none => []
      | some to => (if over = 1 then [line ++ [to]] else []) ++ hopL R i j k full n (line ++ [to]) to (over + if full.testBit to = true then 1 else 0)
    else []
def leapL (R : Rules) (i j : Int) (at_ : Nat) : List (List Nat) := match aheadOf R i j at_ with
  | none => []
  | some to => [[at_, to]]
theorem m_leap_eq (hR : RulesOk R) {cs : List Addr} {C : Addr} (hC : C ∈ cs) (i j k : Int) (full at_ : Nat) : m_leap cs [movD C i j k, R.b, .int (full : Int), .int (at_ : Int)] = some (.list ((leapL R i j at_).map insD)) := by
  have e := m_ahead_eq hR hC i j k at_
  unfold leapL
  cases h : aheadOf R i j at_ with
  | none => rw [h] at e; simp [m_leap, g_leap, movAt_mem hC, e, optI]
  | some to => rw [h] at e; simp [m_leap, g_leap, movAt_mem hC, e, optI, insD]
end
end
end RB
set_option Elab.async false
set_option linter.all false
set_option maxRecDepth 100000
set_option maxHeartbeats 2000000
set_option autoImplicit false
/-! PU6: rides, hops; lines. -/
namespace RB
open PySem PySem.Spec L2
noncomputable section
@[simp] theorem at_last {ds : List D} {d : D} : dAt (.list (ds ++ [d])) (.int (-1)) = some d := by
  have h : ¬ (0 : Int) ≤ -1 := by decide
  have h2 : -((ds.length + 1 : Nat) : Int) ≤ -1 := by omega
  have h3 : ((-1 : Int) + ((ds.length + 1 : Nat) : Int)).toNat = ds.length := by omega
  show (ixN (ds ++ [d]).length (-1)).bind _ = _
  unfold ixN
  rw [if_neg h, List.length_append, List.length_singleton, if_pos h2, h3]
  show (ds ++ [d])[ds.length]? = some d
  simp
theorem insD_snoc (l : List Nat) (a : Nat) : insD (l ++ [a]) = .list ((l.map fun (s : Nat) => PyData.int (s : Int)) ++ [.int (a : Int)]) := by simp [insD]
abbrev cRide (cs : List Addr) : FT := tstT (methE cs 2 (m_goes_on cs) (varE 0) (consA (varE 5) nilA))
abbrev bRide (cs : List Addr) : FS := (seqS (asgS 6 [] (methE cs 3 (m_ahead cs) (varE 0) (consA (varE 1) (consA (binE dAt (varE 5) (unE dNeg (litE (.int 1)))) nilA))))
    (seqS (ifS [] (binT dIs (varE 6) (litE .none)) bkS nilS)
    (seqS (asgS 5 [] (binE dAdd (varE 5) (lstE (consA (varE 6) nilA))))
    (seqS (appS 4 [] (varE 5))
    (ifS [] (binT dEq (binE dAnd (binE dShr (varE 2) (varE 6)) (litE (.int 1))) (litE (.int 1))) bkS nilS)))))
theorem g_ride_eq (cs : List Addr) : g_ride cs = (seqS (ownS 4 [] nilA) (seqS (asgS 5 [] (lstE (consA (varE 3) nilA))) (seqS (loopW (cRide cs) (bRide cs) 1000) (retS [4] (varE 4))))) := rfl
section
variable {R : Rules} {p : Place}
theorem ride_loop (hR : RulesOk R) {cs : List Addr} {C : Addr} (hC : C ∈ cs) {i j k : Int} (hs : StepOk (i, j)) (full : Nat) (s3 : SD) : ∀ (f n : Nat) (init : List Nat) (at_ : Nat) (fs : List D) (s6 : SD), at_ < R.n → pot R i j at_ ≤ f + 1 → f < n → fs.length + f < 1000 → init.length + f < 1000 →
    ∃ x5 x6, loopW (cRide cs) (bRide cs) n [.im (movD C i j k), .im R.b, .im (.int (full : Int)), s3, .ow fs, .im (insD (init ++ [at_])), s6] =
      some (.nx [.im (movD C i j k), .im R.b, .im (.int (full : Int)), s3, .ow (fs ++ (rideL R i j k full f (init ++ [at_]) at_).map insD), x5, x6])
  | f, 0, _, _, _, _, _, _, h, _, _ => by omega
  | f, n + 1, init, at_, fs, s6, hat, hp, hn, hf, hi => by
    have e1 := m_goes_on_eq hC i j k ((init.map fun (s : Nat) => PyData.int (s : Int)) ++ [PyData.int (at_ : Int)])
    have e2 := m_ahead_eq hR hC i j k at_
    have hl : ((((init.map fun (s : Nat) => PyData.int (s : Int)) ++ [PyData.int (at_ : Int)]).length : Nat) : Int) = ((init ++ [at_]).length : Int) := by simp
    rw [hl] at e1
    rw [insD_snoc]
    by_cases hg : k = 0 ∨ ((init ++ [at_]).length : Int) ≤ k
    · have hgb : (decide (k = 0) || decide (((init ++ [at_]).length : Int) ≤ k)) = true := by simpa using hg
      rw [hgb] at e1
      cases ha : aheadOf R i j at_ with
      | none =>
        rw [ha] at e2
        refine ⟨.im (insD (init ++ [at_])), .im .none, ?_⟩
        have er : rideL R i j k full f (init ++ [at_]) at_ = [] := by
          cases f with
          | zero => rfl
          | succ f => simp only [rideL, ha]; split <;> rfl
        rw [er, loopW]
        simp [cRide, bRide, movAt_mem hC, e1, e2, optI, insD]
      | some to =>
        rw [ha] at e2
        have hto := (sqAt_lt ha).1
        have hp2 := pot_ahead hR hs ha
        have hp3 := (pot_pos hR (i := i) (j := j) hto).1
        cases f with
        | zero => omega
        | succ f =>
          have hb := bit_eq full to
          have l1 : init.length + 1 + 1 ≤ sizeLine := len_sig _ (by omega)
          have l2 : fs.length < sizeLine := lt_sig _ (by omega)
          by_cases hbt : full.testBit to = true
          · rw [if_pos hbt] at hb
            refine ⟨.im (insD (init ++ [at_] ++ [to])), .im (.int (to : Int)), ?_⟩
            rw [loopW]
            simp [cRide, bRide, movAt_mem hC, e1, e2, optI, l1, l2, hb]
            simp only [rideL, ha, hbt, if_true]
            rw [if_pos (by simpa using hg)]
            simp [insD]
          · rw [if_neg hbt] at hb
            obtain ⟨x5, x6, e⟩ := ride_loop hR hC hs full s3 f n (init ++ [at_]) to (fs ++ [insD (init ++ [at_] ++ [to])]) (.im (.int (to : Int))) hto (by omega) (by omega) (by simp; omega) (by simp; omega)
            refine ⟨x5, x6, ?_⟩
            rw [loopW]
            simp [cRide, bRide, movAt_mem hC, e1, e2, optI, l1, l2, hb]
            simp only [rideL, ha, hbt, if_false, Bool.false_eq_true]
            rw [if_pos (by simpa using hg)]
            simp [insD] at e ⊢
            exact e
    · have hgb : (decide (k = 0) || decide (((init ++ [at_]).length : Int) ≤ k)) = false := by simpa using hg
      rw [hgb] at e1
      refine ⟨.im (insD (init ++ [at_])), s6, ?_⟩
      have er : rideL R i j k full f (init ++ [at_]) at_ = [] := by
        cases f with
        | zero => rfl
        | succ f => simp only [rideL]; rw [if_neg hg]
      rw [er, loopW]
      simp [cRide, movAt_mem hC, e1, insD]
theorem m_ride_eq (hR : RulesOk R) {cs : List Addr} {C : Addr} (hC : C ∈ cs) {i j : Int} (k : Int) (hs : StepOk (i, j)) (full : Nat) {at_ : Nat} (hat : at_ < R.n) : m_ride cs [movD C i j k, R.b, .int (full : Int), .int (at_ : Int)] = some (.list ((rideL R i j k full 3 [at_] at_).map insD)) := by
  obtain ⟨x5, x6, e⟩ := ride_loop hR hC (k := k) hs full (.im (.int (at_ : Int))) 3 1000 [] at_ [] .no hat (pot_pos hR hat).2 (by omega) (by simp) (by simp)
  simp [insD] at e
  simp [m_ride, g_ride_eq, e, insD]
end
end
end RB
set_option Elab.async false
set_option linter.all false
set_option maxRecDepth 100000
set_option maxHeartbeats 2000000
set_option autoImplicit false
/-! PU7: hops; lines of any mover. -/
namespace RB
open PySem PySem.Spec L2
noncomputable section
abbrev cHop (cs : List Addr) : FT := andT (binT dLt (varE 6) (litE (.int 2))) (tstT (methE cs 2 (m_goes_on cs) (varE 0) (consA (varE 5) nilA)))
abbrev bHop (cs : List Addr) : FS := (seqS (asgS 7 [] (methE cs 3 (m_ahead cs) (varE 0) (consA (varE 1) (consA (binE dAt (varE 5) (unE dNeg (litE (.int 1)))) nilA))))
    (seqS (ifS [] (binT dIs (varE 7) (litE .none)) bkS nilS)
    (seqS (asgS 5 [] (binE dAdd (varE 5) (lstE (consA (varE 7) nilA))))
    (seqS (ifS [] (binT dEq (varE 6) (litE (.int 1))) (appS 4 [] (varE 5)) nilS)
    (asgS 6 [] (binE dAdd (varE 6) (binE dAnd (binE dShr (varE 2) (varE 7)) (litE (.int 1)))))))))
theorem g_hop_eq (cs : List Addr) : g_hop cs = (seqS (ownS 4 [] nilA) (seqS (asgS 5 [] (lstE (consA (varE 3) nilA))) (seqS (asgS 6 [] (litE (.int 0))) (seqS (loopW (cHop cs) (bHop cs) 1000) (retS [4] (varE 4)))))) := rfl
section
variable {R : Rules} {p : Place}
theorem hop_loop (hR : RulesOk R) {cs : List Addr} {C : Addr} (hC : C ∈ cs) {i j k : Int} (hs : StepOk (i, j)) (full : Nat) (s3 : SD) : ∀ (f n : Nat) (init : List Nat) (at_ over : Nat) (fs : List D) (s7 : SD), at_ < R.n → pot R i j at_ ≤ f + 1 → f < n → fs.length + f < 1000 → init.length + f < 1000 →
    ∃ x5 x6 x7, loopW (cHop cs) (bHop cs) n [.im (movD C i j k), .im R.b, .im (.int (full : Int)), s3, .ow fs, .im (insD (init ++ [at_])), .im (.int (over : Int)), s7] =
      some (.nx [.im (movD C i j k), .im R.b, .im (.int (full : Int)), s3, .ow (fs ++ (hopL R i j k full f (init ++ [at_]) at_ over).map insD), x5, x6, x7])
  | f, 0, _, _, _, _, _, _, _, h, _, _ => by omega
  | f, n + 1, init, at_, over, fs, s7, hat, hp, hn, hf, hi => by
    have e1 := m_goes_on_eq hC i j k ((init.map fun (s : Nat) => PyData.int (s : Int)) ++ [PyData.int (at_ : Int)])
    have e2 := m_ahead_eq hR hC i j k at_
    have hl : ((((init.map fun (s : Nat) => PyData.int (s : Int)) ++ [PyData.int (at_ : Int)]).length : Nat) : Int) = ((init ++ [at_]).length : Int) := by simp
    rw [hl] at e1
    rw [insD_snoc]
    by_cases ho : over < 2
    · have ho' : (over : Int) < 2 := by omega
      by_cases hg : k = 0 ∨ ((init ++ [at_]).length : Int) ≤ k
      · have hgb : (decide (k = 0) || decide (((init ++ [at_]).length : Int) ≤ k)) = true := by simpa using hg
        rw [hgb] at e1
        cases ha : aheadOf R i j at_ with
        | none =>
          rw [ha] at e2
          refine ⟨.im (insD (init ++ [at_])), .im (.int (over : Int)), .im .none, ?_⟩
          have er : hopL R i j k full f (init ++ [at_]) at_ over = [] := by
            cases f with
            | zero => rfl
            | succ f => simp only [hopL, ha]; split <;> rfl
          rw [er, loopW]
          simp [cHop, bHop, movAt_mem hC, e1, e2, optI, insD, ho']
        | some to =>
          rw [ha] at e2
          have hto := (sqAt_lt ha).1
          have hp2 := pot_ahead hR hs ha
          have hp3 := (pot_pos hR (i := i) (j := j) hto).1
          cases f with
          | zero => omega
          | succ f =>
            have hb := bit_eq full to
            have l1 : init.length + 1 + 1 ≤ sizeLine := len_sig _ (by omega)
            have l2 : fs.length < sizeLine := lt_sig _ (by omega)
            have hb2 : (over : Int) + (if full.testBit to = true then 1 else 0) = ((over + if full.testBit to = true then 1 else 0 : Nat) : Int) := by split <;> simp
            obtain ⟨x5, x6, x7, e⟩ := hop_loop hR hC hs full s3 f n (init ++ [at_]) to (over + if full.testBit to = true then 1 else 0) (fs ++ if over = 1 then [insD (init ++ [at_] ++ [to])] else []) (.im (.int (to : Int))) hto (by omega) (by omega) (by split <;> simp <;> omega) (by simp; omega)
            refine ⟨x5, x6, x7, ?_⟩
            have eu : hopL R i j k full (f + 1) (init ++ [at_]) at_ over = (if over = 1 then [init ++ [at_] ++ [to]] else []) ++ hopL R i j k full f (init ++ [at_] ++ [to]) to (over + if full.testBit to = true then 1 else 0) := by
              simp only [hopL, ha]
              rw [if_pos ⟨ho, by simpa using hg⟩]
            rw [eu, loopW]
            by_cases h1 : over = 1
            · subst h1
              simp [cHop, bHop, movAt_mem hC, e1, e2, optI, l1, l2, hb]
              simp [insD] at e ⊢
              rw [← e]
              by_cases hh : full.testBit to = true <;> simp [hh]
            · have h1' : ¬ (over : Int) = 1 := by omega
              simp [cHop, bHop, movAt_mem hC, e1, e2, optI, l1, l2, hb, ho', h1']
              simp [insD, h1] at e ⊢
              rw [← e]
              simp [hb2]
      · have hgb : (decide (k = 0) || decide (((init ++ [at_]).length : Int) ≤ k)) = false := by simpa using hg
        rw [hgb] at e1
        refine ⟨.im (insD (init ++ [at_])), .im (.int (over : Int)), s7, ?_⟩
        have er : hopL R i j k full f (init ++ [at_]) at_ over = [] := by
          cases f with
          | zero => rfl
          | succ f => simp only [hopL]; rw [if_neg fun z => hg z.2]
        rw [er, loopW]
        simp [cHop, movAt_mem hC, e1, insD, ho']
    · have ho' : ¬ (over : Int) < 2 := by omega
      refine ⟨.im (insD (init ++ [at_])), .im (.int (over : Int)), s7, ?_⟩
      have er : hopL R i j k full f (init ++ [at_]) at_ over = [] := by
        cases f with
        | zero => rfl
        | succ f => simp only [hopL]; rw [if_neg fun z => ho z.1]
      rw [er, loopW]
      simp [cHop, insD, ho']
theorem m_hop_eq (hR : RulesOk R) {cs : List Addr} {C : Addr} (hC : C ∈ cs) {i j : Int} (k : Int) (hs : StepOk (i, j)) (full : Nat) {at_ : Nat} (hat : at_ < R.n) : m_hop cs [movD C i j k, R.b, .int (full : Int), .int (at_ : Int)] = some (.list ((hopL R i j k full 3 [at_] at_ 0).map insD)) := by
  obtain ⟨x5, x6, x7, e⟩ := hop_loop hR hC (k := k) hs full (.im (.int (at_ : Int))) 3 1000 [] at_ 0 [] .no hat (pot_pos hR hat).2 (by omega) (by simp) (by simp)
  simp [insD] at e
  simp [m_hop, g_hop_eq, e, insD]
/-! ### any mover -/
def linesOf (R : Rules) (word : Str) (i j k : Int) (full at_ : Nat) : List (List Nat) := if word = "leap" then leapL R i j at_ else if word = "ride" then rideL R i j k full 3 [at_] at_ else hopL R i j k full 3 [at_] at_ 0
theorem m_lines_eq (hR : RulesOk R) {word : Str} (hw : word = "leap" ∨ word = "ride" ∨ word = "hop") {i j : Int} (k : Int) (hs : StepOk (i, j)) (full : Nat) {at_ : Nat} (hat : at_ < R.n) :
    m_lines [.str word, .int i, .int j, .int k, R.b, .int (full : Int), .int (at_ : Int)] = some (.list ((linesOf R word i j k full at_).map insD)) := by
  refine m_lines_of ?_
  unfold linesOf
  rcases hw with rfl | rfl | rfl
  · exact .leap rfl fun cs C hC => by simpa using m_leap_eq hR hC i j k full at_
  · exact .ride rfl fun cs C hC => by simpa using m_ride_eq hR hC k hs full hat
  · exact .hop rfl fun cs C hC => by simpa using m_hop_eq hR hC k hs full hat
/-- what is known of a line -/
structure LineOk (R : Rules) (l : List Nat) : Prop where
  ex : ∃ init x, l = init ++ [x] ∧ x < R.n
  all : ∀ x ∈ l, x < R.n
  few : l.length ≤ 8
theorem ride_ok (hR : RulesOk R) {i j k : Int} (full : Nat) : ∀ (f : Nat) (init : List Nat) (at_ : Nat), (∀ x ∈ init, x < R.n) → at_ < R.n → init.length + f ≤ 7 → (rideL R i j k full f (init ++ [at_]) at_).length ≤ f ∧ ∀ l ∈ rideL R i j k full f (init ++ [at_]) at_, LineOk R l
  | 0, _, _, _, _, _ => ⟨Nat.le_refl _, fun l h => nomatch h⟩
  | f + 1, init, at_, hi, ha, hl => by
    simp only [rideL]
    split
    · cases h : aheadOf R i j at_ with
      | none => exact ⟨by simp, fun l h => nomatch h⟩
      | some to =>
        have hto := (sqAt_lt h).1
        have hall : ∀ x ∈ init ++ [at_] ++ [to], x < R.n := fun x hx => by
          simp only [List.mem_append, List.mem_singleton] at hx
          rcases hx with (hx | hx) | hx
          · exact hi x hx
          · rw [hx]; exact ha
          · rw [hx]; exact hto
        have me : LineOk R (init ++ [at_] ++ [to]) := ⟨⟨_, _, rfl, hto⟩, hall, by simp; omega⟩
        have ih := ride_ok hR (i := i) (j := j) (k := k) full f (init ++ [at_]) to (fun x hx => hall x (List.mem_append_left _ hx)) hto (by simp; omega)
        dsimp only
        split
        · exact ⟨by simp, fun l hl => by rw [List.mem_singleton.mp hl]; exact me⟩
        · refine ⟨by simp only [List.length_cons]; omega, fun l hl => ?_⟩
          rcases List.mem_cons.mp hl with e | hl
          · rw [e]; exact me
          · exact ih.2 l hl
    · exact ⟨by simp, fun l h => nomatch h⟩
theorem hop_ok (hR : RulesOk R) {i j k : Int} (full : Nat) : ∀ (f : Nat) (init : List Nat) (at_ over : Nat), (∀ x ∈ init, x < R.n) → at_ < R.n → init.length + f ≤ 7 → (hopL R i j k full f (init ++ [at_]) at_ over).length ≤ f ∧ ∀ l ∈ hopL R i j k full f (init ++ [at_]) at_ over, LineOk R l
  | 0, _, _, _, _, _, _ => ⟨Nat.le_refl _, fun l h => nomatch h⟩
  | f + 1, init, at_, over, hi, ha, hl => by
    simp only [hopL]
    split
    · cases h : aheadOf R i j at_ with
      | none => exact ⟨by simp, fun l h => nomatch h⟩
      | some to =>
        have hto := (sqAt_lt h).1
        have hall : ∀ x ∈ init ++ [at_] ++ [to], x < R.n := fun x hx => by
          simp only [List.mem_append, List.mem_singleton] at hx
          rcases hx with (hx | hx) | hx
          · exact hi x hx
          · rw [hx]; exact ha
          · rw [hx]; exact hto
        have me : LineOk R (init ++ [at_] ++ [to]) := ⟨⟨_, _, rfl, hto⟩, hall, by simp; omega⟩
        have ih := hop_ok hR (i := i) (j := j) (k := k) full f (init ++ [at_]) to (over + if full.testBit to = true then 1 else 0) (fun x hx => hall x (List.mem_append_left _ hx)) hto (by simp; omega)
        refine ⟨?_, fun l hl => ?_⟩
        · rw [List.length_append]
          have : (if over = 1 then [init ++ [at_] ++ [to]] else [] : List (List Nat)).length ≤ 1 := by split <;> simp
          have := ih.1
          omega
        · rcases List.mem_append.mp hl with hl | hl
          · split at hl
            · rw [List.mem_singleton.mp hl]; exact me
            · cases hl
          · exact ih.2 l hl
    · exact ⟨by simp, fun l h => nomatch h⟩
theorem linesOf_ok (hR : RulesOk R) {word : Str} {i j k : Int} (full : Nat) {at_ : Nat} (hat : at_ < R.n) : (linesOf R word i j k full at_).length ≤ 3 ∧ ∀ l ∈ linesOf R word i j k full at_, LineOk R l := by
  unfold linesOf
  split
  · unfold leapL
    cases h : aheadOf R i j at_ with
    | none => exact ⟨by simp, fun l h => nomatch h⟩
    | some to =>
      have hto := (sqAt_lt h).1
      refine ⟨by simp, fun l hl => ?_⟩
      rw [List.mem_singleton.mp hl]
      exact ⟨⟨[at_], to, rfl, hto⟩, fun x hx => by
        simp only [List.mem_cons, List.not_mem_nil, or_false] at hx
        rcases hx with e | e <;> rw [e] <;> assumption, by simp⟩
  · split
    · exact ride_ok hR full 3 [] at_ (fun x hx => nomatch hx) hat (by simp)
    · exact hop_ok hR full 3 [] at_ 0 (fun x hx => nomatch hx) hat (by simp)
end
end
end RB
set_option Elab.async false
set_option linter.all false
set_option maxRecDepth 100000
set_option maxHeartbeats 2000000
set_option autoImplicit false
/-! PU8: reach. -/
namespace RB
open PySem PySem.Spec L2
noncomputable section
@[simp] theorem linesE_eq {f g : FA} {ρ : Sl} : linesE f g ρ = (f ρ).bind fun xs => (g ρ).bind fun ys => if xs.length = 4 then m_lines (xs ++ ys) else none := rfl
abbrev natsD (l : List Nat) : List D := l.map fun (s : Nat) => PyData.int (s : Int)
theorem plainDs_nats : ∀ l : List Nat, plainDs (natsD l) = true
  | [] => rfl
  | _ :: l => by simp [plainDs, plainD]; exact plainDs_nats l
theorem keysOf_nats : ∀ l : List Nat, keysOf (natsD l) = some (l.map fun (s : Nat) => NestedKey.num (s : Int))
  | [] => rfl
  | a :: l => by simp [keysOf, keyOf]; exact keysOf_nats l
theorem datas_nats : ∀ l : List Nat, NestedKey.datas (l.map fun (s : Nat) => NestedKey.num (s : Int)) = natsD l
  | [] => rfl
  | _ :: l => by simp [NestedKey.datas, NestedKey.data]; exact datas_nats l
theorem depth_nats : ∀ l : List Nat, NestedKey.depthAll (l.map fun (s : Nat) => NestedKey.num (s : Int)) = 0
  | [] => rfl
  | _ :: l => by simp [NestedKey.depthAll, NestedKey.depth]; exact depth_nats l
theorem ddepth_nats : ∀ l : List Nat, PyData.depthAll (natsD l) = 0
  | [] => rfl
  | _ :: l => by simp [PyData.depthAll, PyData.depth]; exact ddepth_nats l
theorem alike_nats : ∀ l m : List Nat, PySem.W.alikeAll (natsD l) (natsD m) = true
  | [], _ => by simp [PySem.W.alikeAll]
  | _ :: _, [] => by simp [PySem.W.alikeAll]
  | _ :: l, _ :: m => by simp [PySem.W.alikeAll, PySem.W.alike]; exact alike_nats l m
theorem nums_inj : ∀ l m : List Nat, (l.map fun (s : Nat) => NestedKey.num (s : Int)) = (m.map fun (s : Nat) => NestedKey.num (s : Int)) → l = m
  | [], [], _ => rfl
  | [], _ :: _, h => by simp at h
  | _ :: _, [], h => by simp at h
  | a :: l, b :: m, h => by
    simp only [List.map_cons, List.cons.injEq, NestedKey.num.injEq] at h
    rw [Int.ofNat.inj h.1, nums_inj l m h.2]
theorem canLay_nats : ∀ l : List Nat, PyData.canLayAll0 (natsD l) = true
  | [] => rfl
  | _ :: l => by simp [PyData.canLayAll0, PyData.canLay0]; exact canLay_nats l
abbrev Row := List Nat × Str
def rowD (r : Row) : D := .tuple [.tuple (natsD r.1), .str r.2]
def rowS : Keyed Row where
  k r := .tup [.tup (r.1.map fun (s : Nat) => NestedKey.num (s : Int)), .text r.2]
  d := rowD
  data r := by simp [NestedKey.data, NestedKey.datas, rowD]; exact datas_nats r.1
  inj a b h := by
    simp only [NestedKey.tup.injEq, List.cons.injEq, NestedKey.text.injEq, and_true] at h
    exact Prod.ext (nums_inj _ _ h.1) h.2
  key r := by
    have := keysOf_nats r.1
    simp only [rowD, keyOf, keysOf, this, Option.map_some, Option.bind_some]
  plain r := by simp [rowD, plainD, plainDs]; exact plainDs_nats r.1
  tup _ := ⟨_, _, rfl⟩
  dep r := by simp [NestedKey.depth, NestedKey.depthAll, depth_nats]
  ddep r := by
    have e : NestedKey.data (.tup [.tup (r.1.map fun (s : Nat) => NestedKey.num (s : Int)), .text r.2]) = .tuple [.tuple (natsD r.1), .str r.2] := by simp [NestedKey.data, NestedKey.datas]; exact datas_nats r.1
    rw [e]
    simp [PyData.depth, PyData.depthAll]
    rw [ddepth_nats]
    decide
  alike a b := by simp [rowD, PySem.W.alike, PySem.W.alikeAll]; exact alike_nats a.1 b.1
structure RowOk (R : Rules) (r : Row) : Prop where
  line : LineOk R r.1
  use : UseOk r.2
section
variable {R : Rules} {p : Place}
theorem reach_in {s0 s1 s2 s3 s5 s7 s8 s10 : SD} {w : Way} (fs : List Row) : ∀ (Ls pre : List (List Nat)) (s9 : SD), fs.length + pre.length + Ls.length < 1000 →
    ∃ s9', loopF (.nm 9) b_reach_1 (Ls.map insD) [s0, s1, s2, s3, .ow ((fs ++ pre.map fun l => (l, w.use)).map rowD), s5, .im w.d, s7, s8, s9, s10] = some (.nx [s0, s1, s2, s3, .ow ((fs ++ (pre ++ Ls).map fun l => (l, w.use)).map rowD), s5, .im w.d, s7, s8, s9', s10])
  | [], pre, s9, _ => ⟨s9, by simp [loopF]⟩
  | l :: Ls, pre, s9, h => by
    obtain ⟨s9', e⟩ := reach_in (s0 := s0) (s1 := s1) (s2 := s2) (s3 := s3) (s5 := s5) (s7 := s7) (s8 := s8) (s10 := s10) (w := w) fs Ls (pre ++ [l]) (.im (insD l)) (by simp at h ⊢; omega)
    refine ⟨s9', ?_⟩
    have l1 : fs.length + pre.length < sizeLine := lt_sig _ (by simp at h; omega)
    have ew : w.d = .tuple [.str w.word, .int w.dx, .int w.dy, .str w.turn, .str w.use, .bool w.once, .int w.most] := rfl
    rw [ew] at e ⊢
    simp only [List.map_cons, loopF, b_reach_1]
    simp [insD, l1, rowD] at e ⊢
    exact e
theorem reach_mid (hR : RulesOk R) {at_ : Nat} (hat : at_ < R.n) {s1 s3 s10 : SD} {full : Nat} {w : Way} (hw : WayOk w) (L : List (Int × Int)) (hL : ∀ a ∈ L, StepOk a) (fs : List Row) (hfs : ∀ r ∈ fs, RowOk R r) (hl : fs.length + 3 * L.length < 900) (s7 s8 s9 : SD) :
    ∃ (fs' : List Row) (s7' s8' s9' : SD), loopF (.tp [7, 8]) b_reach_2 (L.map prD) [.im R.d, s1, .im (.int (at_ : Int)), s3, .ow (fs.map rowD), .im (.int (full : Int)), .im w.d, s7, s8, s9, s10] = some (.nx [.im R.d, s1, .im (.int (at_ : Int)), s3, .ow (fs'.map rowD), .im (.int (full : Int)), .im w.d, s7', s8', s9', s10]) ∧
      (∀ r ∈ fs', RowOk R r) ∧ fs'.length ≤ fs.length + 3 * L.length := by
  obtain ⟨ρ', e, fs', s7', s8', s9', rfl, h1, h2⟩ := loopF_all (xs := L) (t := .tp [7, 8]) (b := b_reach_2) (g := prD) (fun pre ρ => ∃ (fs' : List Row) (s7 s8 s9 : SD), ρ = [.im R.d, s1, .im (.int (at_ : Int)), s3, .ow (fs'.map rowD), .im (.int (full : Int)), .im w.d, s7, s8, s9, s10] ∧ (∀ r ∈ fs', RowOk R r) ∧ fs'.length ≤ fs.length + 3 * pre.length)
    (fun pre a post ρ eL ⟨fs1, s7, s8, s9, eρ, h1, h2⟩ => by
      subst eρ
      have ha := hL a (by rw [eL]; simp)
      have hlen : L.length = pre.length + (post.length + 1) := by rw [eL]; simp
      obtain ⟨k1, k2⟩ := linesOf_ok hR (word := w.word) (i := a.1) (j := a.2) (k := w.most) full hat
      have em := m_lines_eq hR hw.word w.most (i := a.1) (j := a.2) ha full hat
      obtain ⟨s9', e9⟩ := reach_in (s0 := .im R.d) (s1 := s1) (s2 := .im (.int (at_ : Int))) (s3 := s3) (s5 := .im (.int (full : Int))) (s7 := .im (.int a.1)) (s8 := .im (.int a.2)) (s10 := s10) (w := w) fs1 (linesOf R w.word a.1 a.2 w.most full at_) [] s9 (by simp; omega)
      simp only [List.map_nil, List.append_nil, List.nil_append] at e9
      refine ⟨_, _, rfl, ?_, fs1 ++ (linesOf R w.word a.1 a.2 w.most full at_).map fun l => (l, w.use), .im (.int a.1), .im (.int a.2), s9', rfl, fun r hr => ?_, ?_⟩
      · have ew : w.d = .tuple [.str w.word, .int w.dx, .int w.dy, .str w.turn, .str w.use, .bool w.once, .int w.most] := rfl
        have eR : R.d = .tuple [R.b, .tuple (R.kinds.map Kind.d), .tuple (R.pairs.map pairD), .tuple [.str R.stuck, .int R.calm, .int R.rep]] := rfl
        rw [ew, eR] at e9 ⊢
        simp [b_reach_2, em, -List.map_append]
        exact e9
      · rcases List.mem_append.mp hr with hr | hr
        · exact h1 r hr
        · obtain ⟨l, hl, rfl⟩ := List.mem_map.mp hr
          exact ⟨k2 l hl, hw.use⟩
      · simp only [List.length_append, List.length_map, List.length_singleton]
        omega) (ρ := [.im R.d, s1, .im (.int (at_ : Int)), s3, .ow (fs.map rowD), .im (.int (full : Int)), .im w.d, s7, s8, s9, s10]) ⟨fs, s7, s8, s9, rfl, hfs, by simp⟩
  exact ⟨fs', s7', s8', s9', e, h1, h2⟩
end
end
end RB
set_option Elab.async false
set_option linter.all false
set_option maxRecDepth 100000
set_option maxHeartbeats 2000000
set_option autoImplicit false
/-! PU9: reach's result. -/
namespace RB
open PySem PySem.Spec L2
noncomputable section
def outD (r : Row) : D := .tuple [insD r.1, .str r.2]
section
variable {R : Rules} {p : Place}
theorem Rules.d_eq (R : Rules) : R.d = .tuple [R.b, .tuple (R.kinds.map Kind.d), .tuple (R.pairs.map pairD), .tuple [.str R.stuck, .int R.calm, .int R.rep]] := rfl
theorem Rules.b_eq (R : Rules) : R.b = .tuple [.int (R.wide : Int), .int (R.high : Int), .int (R.holes : Int)] := rfl
theorem Place.d_eq (p : Place) : p.d = .tuple [.str (txt p.cells), .int (p.side : Int), .int (p.fresh : Int), passD p.passed, .int p.calm] := rfl
theorem Way.d_eq (w : Way) : w.d = .tuple [.str w.word, .int w.dx, .int w.dy, .str w.turn, .str w.use, .bool w.once, .int w.most] := rfl
theorem Kind.d_eq (k : Kind) : k.d = .tuple [.str (ch k.letter), .bool k.royal, .bool k.passes, .str (optS k.becomes), .int k.row, .tuple (k.ways.map Way.d)] := rfl
end
section
variable (w : Way) (k : Kind) (R : Rules) (p : Place)
@[simp] theorem Way.at0 : dAt w.d (.int 0) = some (.str w.word) := by rw [Way.d_eq]; simp
@[simp] theorem Way.at1 : dAt w.d (.int 1) = some (.int w.dx) := by rw [Way.d_eq]; simp
@[simp] theorem Way.at2 : dAt w.d (.int 2) = some (.int w.dy) := by rw [Way.d_eq]; simp
@[simp] theorem Way.at3 : dAt w.d (.int 3) = some (.str w.turn) := by rw [Way.d_eq]; simp
@[simp] theorem Way.at4 : dAt w.d (.int 4) = some (.str w.use) := by rw [Way.d_eq]; simp
@[simp] theorem Way.at5 : dAt w.d (.int 5) = some (.bool w.once) := by rw [Way.d_eq]; simp
@[simp] theorem Way.at6 : dAt w.d (.int 6) = some (.int w.most) := by rw [Way.d_eq]; simp
@[simp] theorem Kind.at0 : dAt k.d (.int 0) = some (.str (ch k.letter)) := by rw [Kind.d_eq]; simp
@[simp] theorem Kind.at1 : dAt k.d (.int 1) = some (.bool k.royal) := by rw [Kind.d_eq]; simp
@[simp] theorem Kind.at2 : dAt k.d (.int 2) = some (.bool k.passes) := by rw [Kind.d_eq]; simp
@[simp] theorem Kind.at3 : dAt k.d (.int 3) = some (.str (optS k.becomes)) := by rw [Kind.d_eq]; simp
@[simp] theorem Kind.at4 : dAt k.d (.int 4) = some (.int k.row) := by rw [Kind.d_eq]; simp
@[simp] theorem Kind.at5 : dAt k.d (.int 5) = some (.tuple (k.ways.map Way.d)) := by rw [Kind.d_eq]; simp
@[simp] theorem Rules.at0 : dAt R.d (.int 0) = some R.b := by rw [Rules.d_eq]; simp
@[simp] theorem Rules.at1 : dAt R.d (.int 1) = some (.tuple (R.kinds.map Kind.d)) := by rw [Rules.d_eq]; simp
@[simp] theorem Rules.at2 : dAt R.d (.int 2) = some (.tuple (R.pairs.map pairD)) := by rw [Rules.d_eq]; simp
@[simp] theorem Rules.at3 : dAt R.d (.int 3) = some (.tuple [.str R.stuck, .int R.calm, .int R.rep]) := by rw [Rules.d_eq]; simp
@[simp] theorem Rules.bt0 : dAt R.b (.int 0) = some (.int (R.wide : Int)) := by rw [Rules.b_eq]; simp
@[simp] theorem Rules.bt1 : dAt R.b (.int 1) = some (.int (R.high : Int)) := by rw [Rules.b_eq]; simp
@[simp] theorem Rules.bt2 : dAt R.b (.int 2) = some (.int (R.holes : Int)) := by rw [Rules.b_eq]; simp
@[simp] theorem Place.at0 : dAt p.d (.int 0) = some (.str (txt p.cells)) := by rw [Place.d_eq]; simp
@[simp] theorem Place.at1 : dAt p.d (.int 1) = some (.int (p.side : Int)) := by rw [Place.d_eq]; simp
@[simp] theorem Place.at2 : dAt p.d (.int 2) = some (.int (p.fresh : Int)) := by rw [Place.d_eq]; simp
@[simp] theorem Place.at3 : dAt p.d (.int 3) = some (passD p.passed) := by rw [Place.d_eq]; simp
@[simp] theorem Place.at4 : dAt p.d (.int 4) = some (.int p.calm) := by rw [Place.d_eq]; simp
end
section
variable {R : Rules} {p : Place}
theorem m_steps_low {w : Way} (h : WayOk w) (c : Nat) : ∃ L : List (Int × Int), m_steps [w.d, .int (if isLow c = true then 1 else 0)] = some (.list (L.map prD)) ∧ (∀ a ∈ L, StepOk a) ∧ L.length ≤ 9 := by
  by_cases hc : isLow c = true
  · obtain ⟨L, e, hm, hl⟩ := m_steps_eq h (.inr rfl)
    exact ⟨L, by simpa [hc] using e, fun a ha => sideSteps_ok h a ((hm a).mp ha), hl⟩
  · obtain ⟨L, e, hm, hl⟩ := m_steps_eq h (.inl rfl)
    exact ⟨L, by simpa [hc] using e, fun a ha => sideSteps_ok h a ((hm a).mp ha), hl⟩
theorem reach_out (hR : RulesOk R) {at_ : Nat} (hat : at_ < R.n) {s10 : SD} {full c : Nat} (hc : c < 128) (ws : List Way) (hws : ∀ w ∈ ws, WayOk w) (hl : ws.length ≤ 2) (s6 s7 s8 s9 : SD) :
    ∃ (fs' : List Row) (s6' s7' s8' s9' : SD), loopF (.nm 6) b_reach_3 (ws.map Way.d) [.im R.d, .im p.d, .im (.int (at_ : Int)), .im (.str (ch c)), .ow [], .im (.int (full : Int)), s6, s7, s8, s9, s10] = some (.nx [.im R.d, .im p.d, .im (.int (at_ : Int)), .im (.str (ch c)), .ow (fs'.map rowD), .im (.int (full : Int)), s6', s7', s8', s9', s10]) ∧
      (∀ r ∈ fs', RowOk R r) ∧ fs'.length ≤ 27 * ws.length := by
  obtain ⟨ρ', e, fs', s6', s7', s8', s9', rfl, h1, h2⟩ := loopF_all (xs := ws) (t := .nm 6) (b := b_reach_3) (g := Way.d) (fun pre ρ => ∃ (fs' : List Row) (s6 s7 s8 s9 : SD), ρ = [.im R.d, .im p.d, .im (.int (at_ : Int)), .im (.str (ch c)), .ow (fs'.map rowD), .im (.int (full : Int)), s6, s7, s8, s9, s10] ∧ (∀ r ∈ fs', RowOk R r) ∧ fs'.length ≤ 27 * pre.length)
    (fun pre w post ρ eL ⟨fs1, s6, s7, s8, s9, eρ, h1, h2⟩ => by
      subst eρ
      have hw := hws w (by rw [eL]; simp)
      have hlen : ws.length = pre.length + (post.length + 1) := by rw [eL]; simp
      obtain ⟨L, eS, hL, hL9⟩ := m_steps_low hw c
      have hb := bit_eq p.fresh at_
      have eo : w.once = true ∧ ¬ p.fresh.testBit at_ = true ∨ (w.once = false ∨ p.fresh.testBit at_ = true) := by
        cases w.once <;> cases p.fresh.testBit at_ <;> simp
      rcases eo with ⟨ho, ht⟩ | ho
      · rw [if_neg ht] at hb
        refine ⟨_, [.im R.d, .im p.d, .im (.int (at_ : Int)), .im (.str (ch c)), .ow (fs1.map rowD), .im (.int (full : Int)), .im w.d, s7, s8, s9, s10], rfl, ?_, fs1, .im w.d, s7, s8, s9, rfl, h1, by rw [List.length_append]; omega⟩
        simp [b_reach_3, ho, hb]
      · obtain ⟨fs2, s7', s8', s9', em, k1, k2⟩ := reach_mid hR hat (s1 := .im p.d) (s3 := .im (.str (ch c))) (s10 := s10) (full := full) hw L hL fs1 h1 (by omega) s7 s8 s9
        refine ⟨_, _, rfl, ?_, fs2, .im w.d, s7', s8', s9', rfl, k1, by rw [List.length_append, List.length_singleton]; omega⟩
        rcases ho with ho | ht
        · simp [b_reach_3, ho, eS, hc]
          exact em
        · rw [if_pos ht] at hb
          cases hon : w.once
          · simp [b_reach_3, hon, eS, hc, hb]
            exact em
          · simp [b_reach_3, hon, eS, hc, hb]
            exact em) (ρ := [.im R.d, .im p.d, .im (.int (at_ : Int)), .im (.str (ch c)), .ow [], .im (.int (full : Int)), s6, s7, s8, s9, s10]) ⟨[], s6, s7, s8, s9, rfl, fun r hr => (nomatch hr), by simp⟩
  exact ⟨fs', s6', s7', s8', s9', e, h1, h2⟩
end
end
end RB
set_option Elab.async false
set_option linter.all false
set_option maxRecDepth 100000
set_option maxHeartbeats 2000000
set_option autoImplicit false
/-! PU10: reach, attacks. -/
namespace RB
open PySem PySem.Spec L2
noncomputable section
section
variable {R : Rules} {p : Place}
theorem PlaceOk.le (hR : RulesOk R) (hp : PlaceOk R p) : p.cells.length ≤ 1000 := by rw [hp.len]; have := hR.n12; omega
theorem m_reach_ex (hR : RulesOk R) (hp : PlaceOk R p) {at_ : Nat} (hat : at_ < R.n) : ∃ rs : List Row, m_reach [R.d, p.d, .int (at_ : Int)] = some (.list (rs.map outD)) ∧ (∀ r ∈ rs, RowOk R r) ∧ rs.length ≤ 54 := by
  obtain ⟨c, ec, ok⟩ := hp.cell hat
  have hc := ok.lt
  have ea := atS ec (hp.le hR)
  have hc2 : c < 200 := by omega
  by_cases h46 : c = 46
  · exact ⟨[], by simp [m_reach, g_reach, ea, dot_ch, hash_ch, hc2, h46], fun r h => (nomatch h), by simp⟩
  · by_cases h35 : c = 35
    · exact ⟨[], by simp [m_reach, g_reach, ea, dot_ch, hash_ch, hc2, h35], fun r h => (nomatch h), by simp⟩
    · have hpc : isPc c = true := by
        rcases ok.is with e | e | ⟨e, _⟩
        · exact absurd e h46
        · exact absurd e h35
        · exact e
      obtain ⟨k, hk, ek, _⟩ := kindOf_some hR ok hpc
      have eK := m_kind_of_eq hR hc
      rw [ek] at eK
      have eK' : m_kind_of [R.d, .str (ch c)] = some k.d := eK
      have eF := m_full_eq hR hp
      obtain ⟨fs, s6, s7, s8, s9, eL, h1, h2⟩ := reach_out hR (p := p) hat (s10 := .no) (full := fullB p) hc k.ways (hR.ks k hk).ways (hR.ks k hk).few .no .no .no .no
      have hl : fs.length < 64 := by have := (hR.ks k hk).few; omega
      obtain ⟨L, eS, _, hm, hL⟩ := sortSet_map rowS fs fs (fun _ h => h) hl
      have eC : loopC (.tp [9, 10]) yesT e_reach_4 [.im R.d, .im p.d, .im (.int (at_ : Int)), .im (.str (ch c)), .im (.list (fs.map rowD)), .im (.int (fullB p : Int)), s6, s7, s8, .no, .no] (L.map rowD) = some (((L.filter fun _ => true)).map outD) := by
        refine loopC_eq (g := rowD) (r := outD) fun r _ => ⟨_, rfl, rfl, fun _ => ?_⟩
        simp [e_reach_4, outD, insD]
      have eC' : loopC (.tp [9, 10]) yesT e_reach_4 [.im R.d, .im p.d, .im (.int (at_ : Int)), .im (.str (ch c)), .im (.list (fs.map rowD)), .im (.int (fullB p : Int)), s6, s7, s8, .no, .no] (L.map rowD) = some (L.map outD) := by
        rw [eC, List.filter_eq_self.mpr fun _ _ => rfl]
      have eS' : sortSetL (.list (fs.map rowD)) = some (.list (L.map rowD)) := eS
      have lL : L.length ≤ sizeLine := len_sig _ (by omega)
      refine ⟨L, ?_, fun r hr => h1 r ((hm r).mp hr), by have := (hR.ks k hk).few; omega⟩
      simp [m_reach, g_reach, ea, dot_ch, hash_ch, hc2, h46, h35, eK', eF, eL, eS', eC', lL]
/-! ### attacks -/
theorem loopF_nx {t : Tg} {b : FS} {d : D} {r : List D} {ρ ρ1 ρ2 : Sl} (h1 : t.s d ρ = some ρ1) (h2 : b ρ1 = some (.nx ρ2)) : loopF t b (d :: r) ρ = loopF t b r ρ2 := by
  simp only [loopF]
  rw [h1]
  simp only [Option.bind_some]
  rw [h2]
  rfl
theorem loopF_rt {t : Tg} {b : FS} {d : D} {r : List D} {ρ ρ1 : Sl} {e : D} (h1 : t.s d ρ = some ρ1) (h2 : b ρ1 = some (.rt e)) : loopF t b (d :: r) ρ = some (.rt e) := by
  simp only [loopF]
  rw [h1]
  simp only [Option.bind_some]
  rw [h2]
  rfl
@[simp] theorem ok_use {u : Str} (h : UseOk u) : PyData.strOk u = true := by rcases h with e | e | e <;> rw [e] <;> simp
theorem okD_ins (l : List Nat) : okD (insD l) = true := by
  simp [okD, insD, plainD, SeqAt.shaped, PyData.canLay0, PyData.depth]
  exact ⟨plainDs_nats l, canLay_nats l, by rw [ddepth_nats]; decide⟩
theorem plainDs_all : ∀ ds : List D, (∀ d ∈ ds, plainD d = true) → plainDs ds = true := fun _ h => plainDs_of h
theorem canLayAll_all : ∀ ds : List D, (∀ d ∈ ds, PyData.canLay0 d = true) → PyData.canLayAll0 ds = true
  | [], _ => rfl
  | d :: r, h => by simp [PyData.canLayAll0, h d List.mem_cons_self, canLayAll_all r fun e he => h e (List.mem_cons_of_mem _ he)]
theorem depthAll_le {n : Nat} : ∀ ds : List D, (∀ d ∈ ds, d.depth ≤ n) → PyData.depthAll ds ≤ n
  | [], _ => Nat.zero_le _
  | d :: r, h => by
    simp only [PyData.depthAll]
    exact Nat.max_le.mpr ⟨h d List.mem_cons_self, depthAll_le r fun e he => h e (List.mem_cons_of_mem _ he)⟩
/-- a list of good data of little depth -/
structure GoodD (n : Nat) (d : D) : Prop where
  p : plainD d = true
  l : PyData.canLay0 d = true
  d : d.depth ≤ n
theorem GoodD.ok {n : Nat} {d : D} (h : GoodD n d) (hn : n ≤ 64) : okD d = true := by
  have := h.d
  simp [okD, SeqAt.shaped, h.p, h.l]
  omega
theorem GoodD.mono {n m : Nat} {d : D} (h : GoodD n d) (hn : n ≤ m) : GoodD m d := ⟨h.p, h.l, Nat.le_trans h.d hn⟩
theorem GoodD.list {n : Nat} {ds : List D} (h : ∀ d ∈ ds, GoodD n d) : GoodD (n + 1) (.list ds) := ⟨by simp [plainD]; exact plainDs_of fun d hd => (h d hd).p, by simp [PyData.canLay0]; exact canLayAll_all ds fun d hd => (h d hd).l, by simp [PyData.depth]; exact depthAll_le ds fun d hd => (h d hd).d⟩
theorem GoodD.tuple {n : Nat} {ds : List D} (h : ∀ d ∈ ds, GoodD n d) : GoodD (n + 1) (.tuple ds) := ⟨by simp [plainD]; exact plainDs_of fun d hd => (h d hd).p, by simp [PyData.canLay0]; exact canLayAll_all ds fun d hd => (h d hd).l, by simp [PyData.depth]; exact depthAll_le ds fun d hd => (h d hd).d⟩
theorem good_int {i : Int} : GoodD 0 (.int i) := ⟨rfl, by simp [PyData.canLay0], by simp [PyData.depth]⟩
theorem good_bool {b : Bool} : GoodD 0 (.bool b) := ⟨rfl, by simp [PyData.canLay0], by simp [PyData.depth]⟩
theorem good_none : GoodD 0 .none := ⟨rfl, by simp [PyData.canLay0], by simp [PyData.depth]⟩
theorem good_str {x : Str} (h : PyData.strOk x = true) : GoodD 0 (.str x) := ⟨rfl, by simp [PyData.canLay0, h], by simp [PyData.depth]⟩
theorem good_ins (l : List Nat) : GoodD 1 (insD l) := .list fun d hd => by
  obtain ⟨s, _, rfl⟩ := List.mem_map.mp hd
  exact good_int
@[simp] theorem inOwnT_eq {nt : Bool → Bool} {f : FE} {i : Nat} {ρ : Sl} {x : D} {ds : List D} (h1 : f ρ = some x) (h2 : ownE i ρ = some (.list ds)) (h3 : okD x = true) (h4 : okD (.list ds) = true) : inOwnT nt f i ρ = some (nt (inD x ds)) := by
  unfold inOwnT
  rw [h1]
  show (ownE i ρ).bind _ = _
  rw [h2]
  show (if okD x = true ∧ okD (.list ds) = true then some (nt (inD x ds)) else none) = _
  rw [if_pos ⟨h3, h4⟩]
theorem okD_lines (ls : List (List Nat)) : okD (.list (ls.map insD)) = true := (GoodD.list (n := 1) fun d hd => by
  obtain ⟨l, _, rfl⟩ := List.mem_map.mp hd
  exact good_ins l).ok (by decide)
theorem att_in {s0 s1 s2 s5 : SD} {sq : Int} : ∀ (rs : List Row) (ls : List (List Nat)) (s6 s7 : SD), (∀ r ∈ rs, RowOk R r) → (∀ l ∈ ls, LineOk R l) → ls.length + rs.length < 1000 →
    ∃ (ls' : List (List Nat)) (s6' s7' : SD), loopF (.tp [6, 7]) b_attacks_1 (rs.map outD) [s0, s1, s2, .im (.int sq), .ow (ls.map insD), s5, s6, s7] = some (.nx [s0, s1, s2, .im (.int sq), .ow (ls'.map insD), s5, s6', s7']) ∧ (∀ l ∈ ls', LineOk R l) ∧ ls'.length ≤ ls.length + rs.length
  | [], ls, s6, s7, _, h, _ => ⟨ls, s6, s7, rfl, h, by simp⟩
  | r :: rs, ls, s6, s7, hr, hl, hn => by
    have ok := hr r List.mem_cons_self
    obtain ⟨init, x, ex, hx⟩ := ok.line.ex
    have more : ∀ (ls1 : List (List Nat)), (∀ l ∈ ls1, LineOk R l) → ls1.length ≤ ls.length + 1 → b_attacks_1 [s0, s1, s2, .im (.int sq), .ow (ls.map insD), s5, .im (insD r.1), .im (.str r.2)] = some (.nx [s0, s1, s2, .im (.int sq), .ow (ls1.map insD), s5, .im (insD r.1), .im (.str r.2)]) →
        ∃ (ls' : List (List Nat)) (s6' s7' : SD), loopF (.tp [6, 7]) b_attacks_1 ((r :: rs).map outD) [s0, s1, s2, .im (.int sq), .ow (ls.map insD), s5, s6, s7] = some (.nx [s0, s1, s2, .im (.int sq), .ow (ls'.map insD), s5, s6', s7']) ∧ (∀ l ∈ ls', LineOk R l) ∧ ls'.length ≤ ls.length + (r :: rs).length := fun ls1 h1 h2 e => by
      obtain ⟨ls', s6', s7', e2, h3, h4⟩ := att_in (s0 := s0) (s1 := s1) (s2 := s2) (s5 := s5) (sq := sq) rs ls1 (.im (insD r.1)) (.im (.str r.2)) (fun q hq => hr q (List.mem_cons_of_mem _ hq)) h1 (by simp at hn; omega)
      refine ⟨ls', s6', s7', ?_, h3, by simp; omega⟩
      have et : (Tg.tp [6, 7]).s (outD r) [s0, s1, s2, .im (.int sq), .ow (ls.map insD), s5, s6, s7] = some [s0, s1, s2, .im (.int sq), .ow (ls.map insD), s5, .im (insD r.1), .im (.str r.2)] := rfl
      rw [List.map_cons, loopF_nx et e]
      exact e2
    have elast : dAt (insD r.1) (.int (-1)) = some (.int (x : Int)) := by rw [ex, insD_snoc]; exact at_last
    have eown := inOwnT_eq (nt := not) (f := varE 6) (i := 4) (ρ := [s0, s1, s2, .im (.int sq), .ow (ls.map insD), s5, .im (insD r.1), .im (.str r.2)]) (x := insD r.1) (ds := ls.map insD) rfl rfl (okD_ins _) (okD_lines ls)
    have hlt : ls.length < sizeLine := lt_sig _ (by simp at hn; omega)
    by_cases hgo : r.2 = "go"
    · refine more ls hl (by omega) ?_
      simp [b_attacks_1, hgo]
    · by_cases hsq : (x : Int) = sq
      · cases hin : inD (insD r.1) (ls.map insD) with
        | true =>
          refine more ls hl (by omega) ?_
          rw [hin] at eown
          simp [b_attacks_1, hgo, ok.use, elast, hsq, eown]
        | false =>
          refine more (ls ++ [r.1]) (fun l h => ?_) (by simp) ?_
          · rcases List.mem_append.mp h with h | h
            · exact hl l h
            · rw [List.mem_singleton.mp h]; exact ok.line
          · rw [hin] at eown
            simp [b_attacks_1, hgo, ok.use, elast, hsq, eown, hlt]
      · refine more ls hl (by omega) ?_
        simp [b_attacks_1, hgo, ok.use, elast, hsq]
end
end
end RB
set_option Elab.async false
set_option linter.all false
set_option maxRecDepth 100000
set_option maxHeartbeats 2000000
set_option autoImplicit false
/-! PU11: attacks, safety. -/
namespace RB
open PySem PySem.Spec L2
noncomputable section
theorem sqsF_len : ∀ (k b s : Nat), (sqsF k b s).length ≤ k
  | 0, _, _ => Nat.le_refl _
  | k + 1, b, s => by
    have := sqsF_len k (b / 2) (s + 1)
    rw [sqsF, List.length_append]
    have : (if b % 2 = 1 then [s] else []).length ≤ 1 := by split <;> simp
    omega
theorem own_len (p : Place) (side : Nat) : (own p side).length ≤ 12 := sqsF_len 12 _ _
section
variable {R : Rules} {p : Place}
theorem att_out (hR : RulesOk R) (hp : PlaceOk R p) {s2 : SD} {sq : Int} : ∀ (xs : List Nat) (ls : List (List Nat)) (s5 s6 s7 : SD), (∀ x ∈ xs, x < R.n) → (∀ l ∈ ls, LineOk R l) → ls.length + 54 * xs.length < 900 →
    ∃ (ls' : List (List Nat)) (s5' s6' s7' : SD), loopF (.nm 5) b_attacks_2 (natsD xs) [.im R.d, .im p.d, s2, .im (.int sq), .ow (ls.map insD), s5, s6, s7] = some (.nx [.im R.d, .im p.d, s2, .im (.int sq), .ow (ls'.map insD), s5', s6', s7']) ∧ (∀ l ∈ ls', LineOk R l) ∧ ls'.length ≤ ls.length + 54 * xs.length
  | [], ls, s5, s6, s7, _, h, _ => ⟨ls, s5, s6, s7, rfl, h, by simp⟩
  | x :: xs, ls, s5, s6, s7, hx, hl, hn => by
    obtain ⟨rs, er, hrs, hrl⟩ := m_reach_ex hR hp (hx x List.mem_cons_self)
    have hn' : ls.length + 54 * xs.length + 54 < 900 := by simp at hn; omega
    obtain ⟨ls1, s6', s7', e1, h1, h2⟩ := att_in (s0 := .im R.d) (s1 := .im p.d) (s2 := s2) (s5 := .im (.int (x : Int))) (sq := sq) rs ls s6 s7 hrs hl (by omega)
    obtain ⟨ls', s5', s6'', s7'', e2, h3, h4⟩ := att_out hR hp (s2 := s2) (sq := sq) xs ls1 (.im (.int (x : Int))) s6' s7' (fun y hy => hx y (List.mem_cons_of_mem _ hy)) h1 (by omega)
    refine ⟨ls', s5', s6'', s7'', ?_, h3, by simp; omega⟩
    have eb : b_attacks_2 [.im R.d, .im p.d, s2, .im (.int sq), .ow (ls.map insD), .im (.int (x : Int)), s6, s7] = some (.nx [.im R.d, .im p.d, s2, .im (.int sq), .ow (ls1.map insD), .im (.int (x : Int)), s6', s7']) := by
      simp [b_attacks_2, er]
      exact e1
    show loopF (.nm 5) b_attacks_2 (PyData.int (x : Int) :: natsD xs) _ = _
    rw [loopF_nx rfl eb]
    exact e2
theorem sortC_lines (ls : List (List Nat)) : sortC (ls.map insD) = true := by
  unfold sortC
  simp only [Bool.and_eq_true, Bool.or_eq_true, List.all_eq_true]
  refine ⟨fun d hd e he => ?_, .inr fun d hd => ?_, fun d hd => ?_⟩
  · obtain ⟨l, _, rfl⟩ := List.mem_map.mp hd
    obtain ⟨m, _, rfl⟩ := List.mem_map.mp he
    simp [insD, PySem.W.alike]
    exact alike_nats l m
  · obtain ⟨l, _, rfl⟩ := List.mem_map.mp hd
    rfl
  · obtain ⟨l, _, rfl⟩ := List.mem_map.mp hd
    exact okD_ins l
theorem gSorted_lines (ls : List (List Nat)) : ∃ ls' : List (List Nat), gSorted [.list (ls.map insD)] = some (.list (ls'.map insD)) ∧ ls'.Perm ls := by
  refine ⟨ls.mergeSort (PySem.W.dataLe false insD), ?_, List.mergeSort_perm _ _⟩
  have e : (ls.mergeSort (PySem.W.dataLe false insD)).map insD = sortD (ls.map insD) := PySem.W.sort_maps insD fun _ _ _ _ => rfl
  rw [e]
  show (if sortC (ls.map insD) = true then some (PyData.list (sortD (ls.map insD))) else none) = _
  rw [if_pos (sortC_lines ls)]
theorem m_attacks_ex (hR : RulesOk R) (hp : PlaceOk R p) {side : Nat} (hs : side = 0 ∨ side = 1) (sq : Int) : ∃ ls : List (List Nat), m_attacks [R.d, p.d, .int (side : Int), .int sq] = some (.list (ls.map insD)) ∧ ls.length ≤ 700 := by
  have e1 := m_pieces_eq hR hp hs
  have e2 := m_own_eq hR hp side
  have hl := own_len p side
  obtain ⟨ls, s5, s6, s7, e3, _, h3⟩ := att_out hR hp (s2 := .im (.int (side : Int))) (sq := sq) (own p side) [] .no .no .no (fun x hx => own_lt hR hp hx) (fun l h => nomatch h) (by simp; omega)
  obtain ⟨ls', e4, pm⟩ := gSorted_lines ls
  refine ⟨ls', ?_, by rw [pm.length_eq]; simp at h3; omega⟩
  simp at e3
  simp [m_attacks, g_attacks, e1, e2, e3, e4]
/-- how many lines attack -/
def attN (R : Rules) (p : Place) (side : Nat) (sq : Int) : Nat := match m_attacks [R.d, p.d, .int (side : Int), .int sq] with
  | some (.list ds) => ds.length
  | _ => 0
def royalAt (R : Rules) (p : Place) (x : Nat) : Bool := match p.cells[x]? with
  | some c => match kindOf R c with
    | some k => k.royal
    | none => false
  | none => false
theorem kind_at (hR : RulesOk R) (hp : PlaceOk R p) {side x : Nat} (h : x ∈ own p side) : ∃ c k, p.cells[x]? = some c ∧ c < 128 ∧ isPc c = true ∧ kindOf R c = some k ∧ k ∈ R.kinds ∧ k.letter = low c ∧ royalAt R p x = k.royal ∧ sideP side c = true ∧
    dAt (.str (txt p.cells)) (.int (x : Int)) = some (.str (ch c)) ∧ m_kind_of [R.d, .str (ch c)] = some k.d := by
  obtain ⟨c, e, hs⟩ := (mem_own hR hp).mp h
  have ok := hp.cells c (List.mem_of_getElem? e)
  have hpc := sideP_pc hs
  obtain ⟨k, hk, ek, el⟩ := kindOf_some hR ok hpc
  refine ⟨c, k, e, ok.lt, hpc, ek, hk, el, ?_, hs, atS e (hp.le hR), ?_⟩
  · unfold royalAt
    rw [e]
    simp only [ek]
  · rw [m_kind_of_eq hR ok.lt, ek]
    rfl
def unsafeAt (R : Rules) (p : Place) (side : Nat) (x : Nat) : Bool := royalAt R p x && decide (0 < attN R p (1 - side) (x : Int))
theorem attN_eq {ls : List (List Nat)} {side : Nat} {sq : Int} (e : m_attacks [R.d, p.d, .int (side : Int), .int sq] = some (.list (ls.map insD))) : attN R p side sq = ls.length := by
  unfold attN
  rw [e]
  simp
theorem m_is_safe_eq (hR : RulesOk R) (hp : PlaceOk R p) {side : Nat} (hs : side = 0 ∨ side = 1) : m_is_safe [R.d, p.d, .int (side : Int)] = some (.bool (!(own p side).any (unsafeAt R p side))) := by
  have e1 := m_pieces_eq hR hp hs
  have e2 := m_own_eq hR hp side
  have hs1 : (1 : Int) - (side : Int) = ((1 - side : Nat) : Int) := by rcases hs with e | e <;> subst e <;> rfl
  have hs2 : 1 - side = 0 ∨ 1 - side = 1 := by rcases hs with e | e <;> subst e <;> simp
  have key := loopF_find (t := .nm 3) (b := b_is_safe_1) (g := fun x : Nat => PyData.int (x : Int)) (r := fun _ => PyData.bool false) (p := unsafeAt R p side) (fun ρ => ∃ v, ρ = [.im R.d, .im p.d, .im (.int (side : Int)), v]) (xs := own p side) (ρ := [.im R.d, .im p.d, .im (.int (side : Int)), .no]) (fun x hx ρ ⟨v, e⟩ => by
    subst e
    obtain ⟨c, k, ec, hc, hpc, ek, hk, el, er, hsp, ea, eK⟩ := kind_at hR hp hx
    obtain ⟨ls, eA, _⟩ := m_attacks_ex hR hp hs2 (x : Int)
    have eN := attN_eq eA
    refine ⟨[.im R.d, .im p.d, .im (.int (side : Int)), .im (.int (x : Int))], rfl, ?_⟩
    rw [← hs1] at eA
    cases hr : k.royal with
    | false =>
      left
      refine ⟨by unfold unsafeAt; rw [er, hr]; rfl, [.im R.d, .im p.d, .im (.int (side : Int)), .im (.int (x : Int))], .inl ?_, _, rfl⟩
      simp [b_is_safe_1, ea, eK, hr]
    | true =>
      by_cases hn : 0 < ls.length
      · right
        refine ⟨by unfold unsafeAt; rw [er, hr, eN]; simpa using hn, ?_⟩
        simp [b_is_safe_1, ea, eK, hr, eA, hn]
      · left
        refine ⟨by unfold unsafeAt; rw [er, hr, eN]; simpa using hn, [.im R.d, .im p.d, .im (.int (side : Int)), .im (.int (x : Int))], .inl ?_, _, rfl⟩
        simp [b_is_safe_1, ea, eK, hr, eA, hn]) ⟨_, rfl⟩
  rcases key with ⟨x, ef, eL⟩ | ⟨ef, ρ', eL, _⟩
  · have h1 : (own p side).any (unsafeAt R p side) = true := List.any_eq_true.mpr ⟨x, List.mem_of_find?_eq_some ef, List.find?_some ef⟩
    rw [h1]
    simp [m_is_safe, g_is_safe, e1, e2, eL]
  · have h1 : (own p side).any (unsafeAt R p side) = false := by
      rw [List.any_eq_false]
      exact fun x hx => List.find?_eq_none.mp ef x hx
    rw [h1]
    simp [m_is_safe, g_is_safe, e1, e2, eL]
end
end
end RB
set_option Elab.async false
set_option linter.all false
set_option maxRecDepth 100000
set_option maxHeartbeats 2000000
set_option autoImplicit false
/-! PU12: letters, words, partners. -/
namespace RB
open PySem PySem.Spec L2
noncomputable section
@[simp] theorem ch_ne_empty {c : Nat} : ¬ (ch c = "") := by
  intro h
  have := congrArg Str.length h
  simp at this
  revert this
  decide +kernel
@[simp] theorem empty_ne_ch {c : Nat} : ¬ ("" = ch c) := fun h => ch_ne_empty h.symm
theorem signs_ch (c : Nat) : signsD (ch c) = [.str (ch c)] := by simp [signsD]
def letterOf (R : Rules) (k : Kind) (side to : Nat) : Str := if k.becomes ≠ none ∧ (if side = 1 then (R.high : Int) + 1 - ((to : Int) / R.wide + 1) else (to : Int) / R.wide + 1) = k.row then optS k.becomes else ""
section
variable {R : Rules} {p : Place}
theorem optS_ok (hR : RulesOk R) {k : Kind} (hk : k ∈ R.kinds) : PyData.strOk (optS k.becomes) = true := by
  cases h : k.becomes with
  | none => simp [optS]
  | some c =>
    have := ((hR.ks k hk).bec c h).1
    have : c < 200 := by unfold isLow at this; simp at this; omega
    simp [optS, this]
theorem m_letters_for_eq (hR : RulesOk R) {k : Kind} (hk : k ∈ R.kinds) {side to : Nat} (hs : side = 0 ∨ side = 1) : m_letters_for [R.d, k.d, .int (side : Int), .int (to : Int)] = some (.list [.str (letterOf R k side to)]) := by
  have hw := hR.w
  have h1 : 0 < R.wide := hw.1
  have h2 : (R.wide : Int) < 1073741824 := by omega
  have ok := optS_ok hR hk
  unfold letterOf
  cases hb : k.becomes with
  | none =>
    rw [hb] at ok
    rcases hs with rfl | rfl <;> simp [m_letters_for, g_letters_for, h1, h2, hb, optS]
  | some c =>
    rw [hb] at ok
    simp only [optS] at ok
    rcases hs with rfl | rfl
    · by_cases hr : (to : Int) / R.wide + 1 = k.row
      · simp [m_letters_for, g_letters_for, h1, h2, hb, optS, ok, hr, signs_ch, loopC, e_letters_for_1]
      · simp [m_letters_for, g_letters_for, h1, h2, hb, optS, ok, hr]
    · by_cases hr : (R.high : Int) + 1 - ((to : Int) / R.wide + 1) = k.row
      · simp [m_letters_for, g_letters_for, h1, h2, hb, optS, ok, hr, signs_ch, loopC, e_letters_for_1]
      · simp [m_letters_for, g_letters_for, h1, h2, hb, optS, ok, hr]
theorem m_signs_of_eq {side c : Nat} (hs : side = 0 ∨ side = 1) (hc : c < 128) : m_signs_of [.int (side : Int), .str (ch c)] = some (.str (ch (if side = 0 then up c else c))) := by
  rcases hs with rfl | rfl <;> simp [m_signs_of, g_signs_of, hc]
def passTo (p : Place) (x : Nat) : Bool := match p.passed with
  | some (b, _) => decide (b = x)
  | none => false
def wordsOf (p : Place) (k : Kind) (c x : Nat) (use : Str) : List Str := if c = 46 then (if use = "take" then [] else [("go" : Str)]) ++ (if ¬ use = "go" ∧ k.passes = true ∧ passTo p x = true then [("pass" : Str)] else [])
  else if ¬ use = "go" ∧ isUp c = decide (p.side = 1) then [("take" : Str)] else []
@[simp] theorem ne_both_go : ¬ (("both" : Str) = "go") := by decide +kernel
@[simp] theorem ne_both_take : ¬ (("both" : Str) = "take") := by decide +kernel
@[simp] theorem ne_go_take : ¬ (("go" : Str) = "take") := by decide +kernel
@[simp] theorem ne_take_go : ¬ (("take" : Str) = "go") := by decide +kernel
theorem dt0 {a : D} {r : List D} : dAt (.tuple (a :: r)) (.int 0) = some a := atT0
theorem m_words_for_eq (hR : RulesOk R) (hp : PlaceOk R p) {k : Kind} {line : List Nat} {init : List Nat} {x c : Nat} (el : line = init ++ [x]) (ec : p.cells[x]? = some c) {use : Str} (hu : UseOk use) : m_words_for [p.d, k.d, insD line, .str use] = some (.list ((wordsOf p k c x use).map .str)) := by
  have ea := atS ec (hp.le hR)
  have hc := (hp.cells c (List.mem_of_getElem? ec)).lt
  have hc2 : c < 200 := by omega
  have elast : dAt (insD line) (.int (-1)) = some (.int (x : Int)) := by rw [el, insD_snoc]; exact at_last
  by_cases h46 : c = 46
  · cases hpa : p.passed with
    | none =>
      cases hk : k.passes <;> rcases hu with rfl | rfl | rfl <;> simp [m_words_for, g_words_for, elast, ea, dot_ch, hc2, h46, wordsOf, passTo, hpa, passD, hk]
    | some q =>
      obtain ⟨b, a⟩ := q
      by_cases hb : b = x
      · cases hk : k.passes <;> rcases hu with rfl | rfl | rfl <;> simp [m_words_for, g_words_for, elast, ea, dot_ch, hc2, h46, wordsOf, passTo, hpa, passD, hk, hb]
      · have hb' : ¬ (b : Int) = (x : Int) := by omega
        cases hk : k.passes <;> rcases hu with rfl | rfl | rfl <;> simp [m_words_for, g_words_for, elast, ea, dot_ch, hc2, h46, wordsOf, passTo, hpa, passD, hk, hb, hb']
  · have e1 : decide ((p.side : Int) = 1) = decide (p.side = 1) := by rw [decide_eq_decide]; omega
    by_cases hup : isUp c = decide (p.side = 1)
    · rcases hu with rfl | rfl | rfl <;> simp [m_words_for, g_words_for, elast, ea, dot_ch, hc2, hc, h46, wordsOf, e1, hup]
    · rcases hu with rfl | rfl | rfl <;> simp [m_words_for, g_words_for, elast, ea, dot_ch, hc2, hc, h46, wordsOf, e1, hup]
/-! ### partners -/
def parL (R : Rules) (p : Place) (base way : Int) : Nat → Int → Option Nat
  | 0, _ => none
  | f + 1, col => if 0 ≤ col ∧ col < R.wide then match p.cells[(base + col).toNat]? with
      | none => none
      | some c => if c = 35 then none else if c = 46 then parL R p base way f (col + way) else some (base + col).toNat
    else none
def baseOf (R : Rules) (at_ : Nat) : Int := (at_ : Int) / R.wide * R.wide
def partnerOf (R : Rules) (p : Place) (at_ : Nat) (way : Int) : Option Nat := parL R p (baseOf R at_) way 8 ((at_ : Int) % R.wide + way)
def potC (R : Rules) (way col : Int) : Int := if way = 1 then R.wide - col else col + 1
theorem base_in (hR : RulesOk R) {at_ : Nat} (hat : at_ < R.n) {col : Int} (h0 : 0 ≤ col) (h1 : col < R.wide) : 0 ≤ baseOf R at_ + col ∧ (baseOf R at_ + col).toNat < R.n := by
  have hw := hR.w
  have h3 : 0 ≤ (at_ : Int) / R.wide := Int.ediv_nonneg (by omega) (by omega)
  have h4 : (at_ : Int) / R.wide < R.high := Int.ediv_lt_of_lt_mul (by omega) (by
    unfold Rules.n at hat
    have : ((R.wide * R.high : Nat) : Int) = (R.high : Int) * R.wide := by rw [Int.natCast_mul, Int.mul_comm]
    omega)
  exact sq_lt h0 h1 h3 h4
theorem m_partner_loop (hR : RulesOk R) (hp : PlaceOk R p) {at_ : Nat} (hat : at_ < R.n) {way : Int} (hway : way = 1 ∨ way = -1) : ∀ (f n : Nat) (col : Int) (s6 : SD), (0 ≤ col → col < R.wide → potC R way col ≤ f) → f < n →
    (parL R p (baseOf R at_) way f col = none ∧ ((∃ s5 s6', loopW c_partner_1 b_partner_2 n [.im R.d, .im p.d, .im (.int (at_ : Int)), .im (.int way), .im (.int (R.wide : Int)), .im (.int col), s6] = some (.nx [.im R.d, .im p.d, .im (.int (at_ : Int)), .im (.int way), .im (.int (R.wide : Int)), s5, s6'])) ∨
        loopW c_partner_1 b_partner_2 n [.im R.d, .im p.d, .im (.int (at_ : Int)), .im (.int way), .im (.int (R.wide : Int)), .im (.int col), s6] = some (.rt .none))) ∨
    (∃ s, parL R p (baseOf R at_) way f col = some s ∧ loopW c_partner_1 b_partner_2 n [.im R.d, .im p.d, .im (.int (at_ : Int)), .im (.int way), .im (.int (R.wide : Int)), .im (.int col), s6] = some (.rt (.int (s : Int))))
  | f, 0, _, _, _, h => by omega
  | f, n + 1, col, s6, hf, hn => by
    by_cases hin : 0 ≤ col ∧ col < R.wide
    · obtain ⟨b1, b2⟩ := base_in hR hat hin.1 hin.2
      obtain ⟨c, ec, ok⟩ := hp.cell b2
      have ea := atS ec (hp.le hR)
      rw [Int.toNat_of_nonneg b1] at ea
      have hc2 : c < 200 := by have := ok.lt; omega
      have hw := hR.w
      have w1 : 0 < R.wide := hw.1
      have w2 : (R.wide : Int) < 1073741824 := by omega
      have hn12 := hR.n12
      have hdiv : ((at_ : Int) / R.wide).natAbs < 100000 := by
        have h0 : 0 ≤ (at_ : Int) / R.wide := Int.ediv_nonneg (by omega) (by omega)
        have h1 : (at_ : Int) / R.wide ≤ at_ := Int.ediv_le_self _ (by omega)
        omega
      have hl : ((at_ : Int) / R.wide).natAbs.log2 + R.wide.log2 < 100000000 := log_small hdiv (y := (R.wide : Int)) (by omega)
      have hpot := hf hin.1 hin.2
      have hp1 : 1 ≤ potC R way col := by unfold potC; split <;> omega
      cases f with
      | zero => omega
      | succ f =>
        unfold baseOf at ea b1 ec
        by_cases h35 : c = 35
        · left
          refine ⟨?_, .inr ?_⟩
          · simp only [parL]
            rw [if_pos hin]
            unfold baseOf
            rw [ec]
            simp only [h35, if_true]
          · rw [loopW]
            simp [c_partner_1, b_partner_2, hin.1, hin.2, w1, w2, hl, ea, hash_ch, h35]
        · by_cases h46 : c = 46
          · have ih := m_partner_loop hR hp hat hway f n (col + way) (.im (.int ((at_ : Int) / R.wide * R.wide + col))) (fun h1 h2 => by
              unfold potC at hpot ⊢
              rcases hway with e | e
              · rw [if_pos e] at hpot ⊢; omega
              · rw [if_neg (by omega)] at hpot ⊢; omega) (by omega)
            have e1 : parL R p (baseOf R at_) way (f + 1) col = parL R p (baseOf R at_) way f (col + way) := by
              simp only [parL]
              rw [if_pos hin]
              unfold baseOf
              rw [ec]
              simp only [h46, if_true]
              rfl
            have e2 : loopW c_partner_1 b_partner_2 (n + 1) [.im R.d, .im p.d, .im (.int (at_ : Int)), .im (.int way), .im (.int (R.wide : Int)), .im (.int col), s6] = loopW c_partner_1 b_partner_2 n [.im R.d, .im p.d, .im (.int (at_ : Int)), .im (.int way), .im (.int (R.wide : Int)), .im (.int (col + way)), .im (.int ((at_ : Int) / R.wide * R.wide + col))] := by
              rw [loopW]
              simp [c_partner_1, b_partner_2, hin.1, hin.2, w1, w2, hl, ea, hash_ch, dot_ch, h46]
            rw [e1, e2]
            exact ih
          · right
            refine ⟨(baseOf R at_ + col).toNat, ?_, ?_⟩
            · simp only [parL]
              rw [if_pos hin]
              unfold baseOf
              rw [ec]
              simp only [h35, h46, if_false]
            · unfold baseOf
              rw [loopW, Int.toNat_of_nonneg b1]
              simp [c_partner_1, b_partner_2, hin.1, hin.2, w1, w2, hl, ea, hash_ch, dot_ch, h46, h35, hc2]
    · left
      refine ⟨?_, .inl ⟨.im (.int col), s6, ?_⟩⟩
      · cases f with
        | zero => rfl
        | succ f => simp only [parL]; rw [if_neg hin]
      · rw [loopW]
        by_cases h0 : 0 ≤ col
        · have h1 : ¬ col < R.wide := fun z => hin ⟨h0, z⟩
          simp [c_partner_1, h0, h1]
        · simp [c_partner_1, h0]
theorem m_partner_eq (hR : RulesOk R) (hp : PlaceOk R p) {at_ : Nat} (hat : at_ < R.n) {way : Int} (hway : way = 1 ∨ way = -1) : m_partner [R.d, p.d, .int (at_ : Int), .int way] = some (optI (partnerOf R p at_ way)) := by
  have hw := hR.w
  have w1 : 0 < R.wide := hw.1
  have key := m_partner_loop hR hp hat hway 8 1000 ((at_ : Int) % R.wide + way) .no (fun h1 h2 => by
    have := hR.w
    unfold potC; split <;> omega) (by decide)
  unfold partnerOf
  rcases key with ⟨e1, ⟨s5, s6, e2⟩ | e2⟩ | ⟨s, e1, e2⟩
  · rw [e1]
    simp [m_partner, g_partner, w1, e2, optI]
  · rw [e1]
    simp [m_partner, g_partner, w1, e2, optI]
  · rw [e1]
    simp [m_partner, g_partner, w1, e2, optI]
theorem parL_some {base way : Int} : ∀ (f : Nat) (col : Int) (s : Nat), parL R p base way f col = some s → ∃ j : Nat, 0 ≤ col + j * way ∧ col + j * way < R.wide ∧ s = (base + (col + j * way)).toNat
  | 0, _, _, h => by cases h
  | f + 1, col, s, h => by
    simp only [parL] at h
    split at h
    · rename_i hin
      split at h
      · cases h
      · split at h
        · cases h
        · split at h
          · obtain ⟨j, h1, h2, h3⟩ := parL_some f (col + way) s h
            have e : col + way + j * way = col + (j + 1 : Nat) * way := by rw [Int.natCast_add, Int.add_mul]; omega
            rw [e] at h1 h2 h3
            exact ⟨j + 1, h1, h2, h3⟩
          · cases h
            exact ⟨0, by simpa using hin.1, by simpa using hin.2, by simp⟩
    · cases h
end
end
end RB
set_option Elab.async false
set_option linter.all false
set_option maxRecDepth 100000
set_option maxHeartbeats 2000000
set_option autoImplicit false
/-! PU13: pairs, moves. -/
namespace RB
open PySem PySem.Spec L2
noncomputable section
@[simp] theorem dNe_bool {a b : Bool} : dNe (.bool a) (.bool b) = some (.bool (decide (a ≠ b))) := by cases a <;> cases b <;> rfl
theorem dNotIn_tt {xs ds : List D} (h1 : okD (.tuple xs) = true) (h2 : okD (.tuple ds) = true) : dNotIn (.tuple xs) (.tuple ds) = some (.bool (!inD (.tuple xs) ds)) := by
  show (if okD (.tuple xs) = true ∧ okD (.tuple ds) = true then some (PyData.bool (not (inD (.tuple xs) ds))) else none) = _
  rw [if_pos ⟨h1, h2⟩]
section
variable {R : Rules} {p : Place}
theorem partner_at (hR : RulesOk R) (hp : PlaceOk R p) {at_ : Nat} (hat : at_ < R.n) {way : Int} (hway : way = 1 ∨ way = -1) {s : Nat} (h : partnerOf R p at_ way = some s) : s < R.n ∧ ∃ j : Nat, (s : Int) = at_ + j * way ∧ 1 ≤ j ∧ ((3 ≤ j) → 0 ≤ (at_ : Int) % R.wide + 2 * way ∧ (at_ : Int) % R.wide + 2 * way < R.wide) := by
  obtain ⟨j, h1, h2, h3⟩ := parL_some 8 _ s h
  obtain ⟨b1, b2⟩ := base_in hR hat h1 h2
  have hw := hR.w
  have e : (at_ : Int) / R.wide * R.wide + (at_ : Int) % R.wide = at_ := Int.ediv_mul_add_emod (at_ : Int) R.wide
  have m1 : 0 ≤ (at_ : Int) % R.wide := Int.emod_nonneg _ (by omega)
  have m2 : (at_ : Int) % R.wide < R.wide := Int.emod_lt_of_pos _ (by omega)
  refine ⟨by rw [h3]; exact b2, j + 1, ?_, by omega, fun hj => ?_⟩
  · rw [h3, Int.toNat_of_nonneg b1, Int.natCast_add, Int.add_mul]
    unfold baseOf
    omega
  · rcases hway with rfl | rfl <;> omega
theorem good_pairD {a b : Nat} (ha : a < 200) (hb : b < 200) : GoodD 1 (.tuple [.str (ch a), .str (ch b)]) := .tuple fun d hd => by
  simp only [List.mem_cons, List.not_mem_nil, or_false] at hd
  rcases hd with rfl | rfl
  · exact good_str (ok_ch ha)
  · exact good_str (ok_ch hb)
theorem low200 {c : Nat} (h : isLow c = true) : c < 200 := by unfold isLow at h; simp at h; omega
theorem okD_pairs (hR : RulesOk R) : okD (.tuple (R.pairs.map pairD)) = true := (GoodD.tuple (n := 1) fun d hd => by
  obtain ⟨q, hq, rfl⟩ := List.mem_map.mp hd
  exact good_pairD (low200 (hR.ps q hq).1) (low200 (hR.ps q hq).2)).ok (by decide)
theorem m_pair_fits_ex (hR : RulesOk R) (hp : PlaceOk R p) {at_ : Nat} (h : at_ ∈ own p p.side) {way : Int} (hway : way = 1 ∨ way = -1) : ∃ b : Bool, m_pair_fits [R.d, p.d, .int (at_ : Int), .int way] = some (.bool b) ∧ (b = true → ∃ s, partnerOf R p at_ way = some s ∧ ¬ ((if (s : Int) - at_ < 0 then -((s : Int) - at_) else (s : Int) - at_) < 3)) := by
  have hat := own_lt hR hp h
  obtain ⟨c, k, ec, hc, hpc, ek, hk, el, er, hsp, ea, eK⟩ := kind_at hR hp h
  have eP := m_partner_eq hR hp hat hway
  have hc200 : c < 200 := by omega
  cases hs : partnerOf R p at_ way with
  | none =>
    rw [hs] at eP
    exact ⟨false, by simp [m_pair_fits, g_pair_fits, eP, optI], fun z => nomatch z⟩
  | some s =>
    rw [hs] at eP
    have eP' : m_partner [R.d, p.d, .int (at_ : Int), .int way] = some (.int (s : Int)) := eP
    obtain ⟨hsn, _⟩ := partner_at hR hp hat hway hs
    obtain ⟨d, ed, okd⟩ := hp.cell hsn
    have hd := okd.lt
    have eb := atS ed (hp.le hR)
    have b1 := bit_eq p.fresh at_
    have b2 := bit_eq p.fresh s
    by_cases h3 : (if (s : Int) - at_ < 0 then -((s : Int) - at_) else (s : Int) - at_) < 3
    · exact ⟨false, by simp [m_pair_fits, g_pair_fits, eP', h3], fun z => nomatch z⟩
    · by_cases t1 : p.fresh.testBit at_ = true
      · rw [if_pos t1] at b1
        by_cases t2 : p.fresh.testBit s = true
        · rw [if_pos t2] at b2
          by_cases hu : isUp d = isUp c
          · have k1 : okD (.tuple [.str (ch (low c)), .str (ch (low d))]) = true := (good_pairD (by have := low_lt hc; omega) (by have := low_lt hd; omega)).ok (by decide)
            have eN := dNotIn_tt k1 (okD_pairs hR)
            cases hin : inD (.tuple [.str (ch (low c)), .str (ch (low d))]) (R.pairs.map pairD) with
            | false =>
              rw [hin] at eN
              exact ⟨false, by simp [m_pair_fits, g_pair_fits, eP', h3, b1, b2, ea, eb, hu, hc, hd, eN], fun z => nomatch z⟩
            | true =>
              rw [hin] at eN
              cases hr : k.royal with
              | false => exact ⟨true, by simp [m_pair_fits, g_pair_fits, eP', h3, b1, b2, ea, eb, hu, hc, hd, eN, eK, hr], fun _ => ⟨s, rfl, h3⟩⟩
              | true =>
                have hs1 : (1 : Int) - (p.side : Int) = ((1 - p.side : Nat) : Int) := by rcases hp.side with e | e <;> rw [e] <;> rfl
                have hs2 : 1 - p.side = 0 ∨ 1 - p.side = 1 := by rcases hp.side with e | e <;> rw [e] <;> simp
                have key := loopF_find (t := .nm 6) (b := b_pair_fits_1) (g := fun x : Int => PyData.int x) (r := fun _ => PyData.bool false) (p := fun x => decide (0 < attN R p (1 - p.side) x)) (fun ρ => ∃ v, ρ = [.im R.d, .im p.d, .im (.int (at_ : Int)), .im (.int way), .im (.int (s : Int)), .im (.str (ch c)), v]) (xs := [(at_ : Int), (at_ : Int) + way, (at_ : Int) + 2 * way]) (ρ := [.im R.d, .im p.d, .im (.int (at_ : Int)), .im (.int way), .im (.int (s : Int)), .im (.str (ch c)), .no]) (fun x _ ρ ⟨v, e⟩ => by
                  subst e
                  obtain ⟨ls, eA, _⟩ := m_attacks_ex hR hp hs2 x
                  have eN := attN_eq eA
                  rw [← hs1] at eA
                  refine ⟨[.im R.d, .im p.d, .im (.int (at_ : Int)), .im (.int way), .im (.int (s : Int)), .im (.str (ch c)), .im (.int x)], rfl, ?_⟩
                  by_cases hn : 0 < ls.length
                  · right
                    refine ⟨by rw [eN]; simpa using hn, ?_⟩
                    simp [b_pair_fits_1, eA, hn]
                  · left
                    refine ⟨by rw [eN]; simpa using hn, [.im R.d, .im p.d, .im (.int (at_ : Int)), .im (.int way), .im (.int (s : Int)), .im (.str (ch c)), .im (.int x)], .inl ?_, _, rfl⟩
                    simp [b_pair_fits_1, eA, hn]) ⟨_, rfl⟩
                have hm : Nat.log2 2 + way.natAbs.log2 < 100000000 := log_small (x := (2 : Int)) (by decide) (by omega)
                simp only [List.map_cons, List.map_nil] at key
                rcases key with ⟨x, _, eL⟩ | ⟨_, ρ', eL, v, eρ⟩
                · exact ⟨false, by simp [m_pair_fits, g_pair_fits, eP', h3, b1, b2, ea, eb, hu, hc, hd, eN, eK, hr, hm, eL], fun z => nomatch z⟩
                · exact ⟨true, by simp [m_pair_fits, g_pair_fits, eP', h3, b1, b2, ea, eb, hu, hc, hd, eN, eK, hr, hm, eL], fun _ => ⟨s, rfl, h3⟩⟩
          · exact ⟨false, by simp [m_pair_fits, g_pair_fits, eP', h3, b1, b2, ea, eb, hu, hc, hd], fun z => nomatch z⟩
        · rw [if_neg t2] at b2
          exact ⟨false, by simp [m_pair_fits, g_pair_fits, eP', h3, b1, b2], fun z => nomatch z⟩
      · rw [if_neg t1] at b1
        exact ⟨false, by simp [m_pair_fits, g_pair_fits, eP', h3, b1], fun z => nomatch z⟩
end
end
end RB
set_option Elab.async false
set_option linter.all false
set_option maxRecDepth 100000
set_option maxHeartbeats 2000000
set_option autoImplicit false
/-! PU14: the bare moves. -/
namespace RB
open PySem PySem.Spec L2
noncomputable section
structure Mv where
  at_ : Nat
  to : Nat
  word : Str
  letter : Str
def mvD (m : Mv) : D := .tuple [.int (m.at_ : Int), .int (m.to : Int), .str m.word, .str m.letter]
def mvS : Keyed Mv where
  k m := .tup [.num (m.at_ : Int), .num (m.to : Int), .text m.word, .text m.letter]
  d := mvD
  data _ := rfl
  inj a b h := by
    simp only [NestedKey.tup.injEq, List.cons.injEq, NestedKey.num.injEq, NestedKey.text.injEq, and_true] at h
    obtain ⟨h1, h2, h3, h4⟩ := h
    cases a
    cases b
    simp only [Mv.mk.injEq]
    exact ⟨Int.ofNat.inj h1, Int.ofNat.inj h2, h3, h4⟩
  key _ := rfl
  plain _ := rfl
  tup _ := ⟨_, _, rfl⟩
  dep _ := by simp [NestedKey.depth, NestedKey.depthAll]
  ddep _ := by simp [NestedKey.data, NestedKey.datas, PyData.depth, PyData.depthAll]
  alike _ _ := rfl
section
variable {R : Rules} {p : Place}
def letOf (R : Rules) (p : Place) (a t : Nat) : Str := match p.cells[a]? with
  | some c => match kindOf R c with
    | some k => letterOf R k p.side t
    | none => ""
  | none => ""
structure LetOk (R : Rules) (l : Str) : Prop where
  is : l = "" ∨ ∃ c, l = ch c ∧ isLow c = true ∧ ∃ k ∈ R.kinds, k.letter = c
inductive WordOk (R : Rules) (p : Place) (m : Mv) : Prop
  | go : m.word = "go" → p.cells[m.to]? = some 46 → WordOk R p m
  | take (c : Nat) : m.word = "take" → p.cells[m.to]? = some c → ¬ c = 46 → isUp c = decide (p.side = 1) → WordOk R p m
  | pass (a : Nat) : m.word = "pass" → p.cells[m.to]? = some 46 → p.passed = some (m.to, a) → WordOk R p m
  | pair (way : Int) (s : Nat) : m.word = "pair" → m.letter = "" → (way = 1 ∨ way = -1) → (m.to : Int) = m.at_ + 2 * way → partnerOf R p m.at_ way = some s → WordOk R p m
structure MvOk (R : Rules) (p : Place) (m : Mv) : Prop where
  own : m.at_ ∈ own p p.side
  to : m.to < R.n
  let_ : LetOk R m.letter
  word : WordOk R p m
  det : ¬ m.word = "pair" → m.letter = letOf R p m.at_ m.to
theorem letterOf_ok (hR : RulesOk R) {k : Kind} (hk : k ∈ R.kinds) (side t : Nat) : LetOk R (letterOf R k side t) := by
  unfold letterOf
  generalize (if side = 1 then (R.high : Int) + 1 - ((t : Int) / R.wide + 1) else (t : Int) / R.wide + 1) = X
  cases hb : k.becomes with
  | none => exact ⟨.inl (by simp)⟩
  | some c =>
    obtain ⟨h1, h2⟩ := (hR.ks k hk).bec c hb
    by_cases hX : X = k.row
    · exact ⟨.inr ⟨c, by simp [hX, optS], h1, h2⟩⟩
    · exact ⟨.inl (by simp [hX])⟩
theorem bare_l {s0 s1 s4 s6 s9 : SD} {a x : Nat} {line : List Nat} {init : List Nat} (el : line = init ++ [x]) {w l : Str} (ms : List Mv) (hl : ms.length < 100000) (s8 : SD) :
    loopF (.nm 8) b_bare_from_1 [.str l] [s0, s1, .im (.int (a : Int)), .ow (ms.map mvD), s4, .im (insD line), s6, .im (.str w), s8, s9] = some (.nx [s0, s1, .im (.int (a : Int)), .ow ((ms ++ [Mv.mk a x w l]).map mvD), s4, .im (insD line), s6, .im (.str w), .im (.str l), s9]) := by
  have elast : dAt (insD line) (.int (-1)) = some (.int (x : Int)) := by rw [el, insD_snoc]; exact at_last
  have h1 : ms.length < sizeLine := lt_sig _ (by omega)
  have eb : b_bare_from_1 [s0, s1, .im (.int (a : Int)), .ow (ms.map mvD), s4, .im (insD line), s6, .im (.str w), .im (.str l), s9] = some (.nx [s0, s1, .im (.int (a : Int)), .ow ((ms ++ [Mv.mk a x w l]).map mvD), s4, .im (insD line), s6, .im (.str w), .im (.str l), s9]) := by
    simp [b_bare_from_1, elast, h1, mvD]
  rw [loopF_nx rfl eb]
  rfl
theorem bare_w (hR : RulesOk R) {k : Kind} (hk : k ∈ R.kinds) {s6 s9 : SD} (hp : PlaceOk R p) {a x : Nat} {line : List Nat} {init : List Nat} (el : line = init ++ [x]) : ∀ (ws : List Str) (ms : List Mv) (s7 s8 : SD), ms.length + ws.length < 100000 →
    ∃ s7' s8' : SD, loopF (.nm 7) b_bare_from_2 (ws.map .str) [.im R.d, .im p.d, .im (.int (a : Int)), .ow (ms.map mvD), .im k.d, .im (insD line), s6, s7, s8, s9] = some (.nx [.im R.d, .im p.d, .im (.int (a : Int)), .ow ((ms ++ ws.map fun w => Mv.mk a x w (letterOf R k p.side x)).map mvD), .im k.d, .im (insD line), s6, s7', s8', s9])
  | [], ms, s7, s8, _ => ⟨s7, s8, by simp [loopF]⟩
  | w :: ws, ms, s7, s8, h => by
    have elast : dAt (insD line) (.int (-1)) = some (.int (x : Int)) := by rw [el, insD_snoc]; exact at_last
    have eL := m_letters_for_eq hR hk (side := p.side) (to := x) hp.side
    obtain ⟨s7', s8', e⟩ := bare_w hR hk (s6 := s6) (s9 := s9) hp el ws (ms ++ [Mv.mk a x w (letterOf R k p.side x)]) (.im (.str w)) (.im (.str (letterOf R k p.side x))) (by simp at h ⊢; omega)
    refine ⟨s7', s8', ?_⟩
    have eb : b_bare_from_2 [.im R.d, .im p.d, .im (.int (a : Int)), .ow (ms.map mvD), .im k.d, .im (insD line), s6, .im (.str w), s8, s9] = some (.nx [.im R.d, .im p.d, .im (.int (a : Int)), .ow ((ms ++ [Mv.mk a x w (letterOf R k p.side x)]).map mvD), .im k.d, .im (insD line), s6, .im (.str w), .im (.str (letterOf R k p.side x)), s9]) := by
      have e1 := bare_l (s0 := .im R.d) (s1 := .im p.d) (s4 := .im k.d) (s6 := s6) (s9 := s9) (a := a) el (w := w) (l := letterOf R k p.side x) ms (by simp at h; omega) s8
      simp [b_bare_from_2, eL, elast]
      simpa using e1
    rw [List.map_cons, loopF_nx rfl eb, e]
    simp
theorem passTo_some {p : Place} {x : Nat} (h : passTo p x = true) : ∃ a, p.passed = some (x, a) := by
  unfold passTo at h
  split at h
  · rename_i b a e
    have : b = x := by simpa using h
    subst this
    exact ⟨a, e⟩
  · cases h
theorem wordsOf_ok {a x c : Nat} (h : a ∈ own p p.side) (hx : x < R.n) {k : Kind} (hR : RulesOk R) (hp : PlaceOk R p) (hk : k ∈ R.kinds) {c0 : Nat} (e0 : p.cells[a]? = some c0) (ek : kindOf R c0 = some k) (ec : p.cells[x]? = some c) {use : Str} {w : Str} (hw : w ∈ wordsOf p k c x use) : MvOk R p ⟨a, x, w, letterOf R k p.side x⟩ := by
  have hd : letOf R p a x = letterOf R k p.side x := by
    unfold letOf
    rw [e0]
    simp only [ek]
  have hl := letterOf_ok hR hk p.side x
  unfold wordsOf at hw
  split at hw
  · rename_i h46
    subst h46
    rcases List.mem_append.mp hw with hw | hw
    · split at hw
      · cases hw
      · rw [List.mem_singleton.mp hw]
        exact ⟨h, hx, hl, .go rfl ec, fun _ => hd.symm⟩
    · split at hw
      · rename_i hc
        rw [List.mem_singleton.mp hw]
        obtain ⟨b, eb⟩ := passTo_some hc.2.2
        exact ⟨h, hx, hl, .pass b rfl ec eb, fun _ => hd.symm⟩
      · cases hw
  · rename_i h46
    split at hw
    · rename_i hc
      rw [List.mem_singleton.mp hw]
      exact ⟨h, hx, hl, .take c rfl ec h46 hc.2, fun _ => hd.symm⟩
    · cases hw
theorem wordsOf_len (p : Place) (k : Kind) (c x : Nat) (use : Str) : (wordsOf p k c x use).length ≤ 2 := by
  unfold wordsOf
  split
  · rw [List.length_append]
    have h1 : (if use = "take" then [] else [("go" : Str)]).length ≤ 1 := by split <;> simp
    have h2 : (if ¬ use = "go" ∧ k.passes = true ∧ passTo p x = true then [("pass" : Str)] else []).length ≤ 1 := by split <;> simp
    omega
  · split <;> simp
theorem bare_r (hR : RulesOk R) (hp : PlaceOk R p) {a c0 : Nat} (h : a ∈ own p p.side) {k : Kind} (hk : k ∈ R.kinds) (e0 : p.cells[a]? = some c0) (ek : kindOf R c0 = some k) {s9 : SD} : ∀ (rs : List Row) (ms : List Mv) (s5 s6 s7 s8 : SD), (∀ r ∈ rs, RowOk R r) → (∀ m ∈ ms, MvOk R p m) → ms.length + 2 * rs.length < 90000 →
    ∃ (ms' : List Mv) (s5' s6' s7' s8' : SD), loopF (.tp [5, 6]) b_bare_from_3 (rs.map outD) [.im R.d, .im p.d, .im (.int (a : Int)), .ow (ms.map mvD), .im k.d, s5, s6, s7, s8, s9] = some (.nx [.im R.d, .im p.d, .im (.int (a : Int)), .ow (ms'.map mvD), .im k.d, s5', s6', s7', s8', s9]) ∧ (∀ m ∈ ms', MvOk R p m) ∧ ms'.length ≤ ms.length + 2 * rs.length
  | [], ms, s5, s6, s7, s8, _, hm, _ => ⟨ms, s5, s6, s7, s8, rfl, hm, by simp⟩
  | r :: rs, ms, s5, s6, s7, s8, hr, hm, hn => by
    have ok := hr r List.mem_cons_self
    obtain ⟨init, x, el, hx⟩ := ok.line.ex
    obtain ⟨c, ec, _⟩ := hp.cell hx
    have eW := m_words_for_eq hR hp (k := k) el ec ok.use
    have hwl := wordsOf_len p k c x r.2
    have hn' : ms.length + 2 * rs.length + 2 < 90000 := by simp at hn; omega
    obtain ⟨s7', s8', e1⟩ := bare_w hR hk (s6 := .im (.str r.2)) (s9 := s9) hp (a := a) el (wordsOf p k c x r.2) ms s7 s8 (by omega)
    obtain ⟨ms', t5, t6, t7, t8, e2, h1, h2⟩ := bare_r hR hp h hk e0 ek (s9 := s9) rs (ms ++ (wordsOf p k c x r.2).map fun w => Mv.mk a x w (letterOf R k p.side x)) (.im (insD r.1)) (.im (.str r.2)) s7' s8' (fun q hq => hr q (List.mem_cons_of_mem _ hq)) (fun m hm' => by
      rcases List.mem_append.mp hm' with z | z
      · exact hm m z
      · obtain ⟨w, hw, rfl⟩ := List.mem_map.mp z
        exact wordsOf_ok h hx hR hp hk e0 ek ec hw) (by simp; omega)
    refine ⟨ms', t5, t6, t7, t8, ?_, h1, by simp at h2 ⊢; omega⟩
    have et : (Tg.tp [5, 6]).s (outD r) [.im R.d, .im p.d, .im (.int (a : Int)), .ow (ms.map mvD), .im k.d, s5, s6, s7, s8, s9] = some [.im R.d, .im p.d, .im (.int (a : Int)), .ow (ms.map mvD), .im k.d, .im (insD r.1), .im (.str r.2), s7, s8, s9] := rfl
    have eb : b_bare_from_3 [.im R.d, .im p.d, .im (.int (a : Int)), .ow (ms.map mvD), .im k.d, .im (insD r.1), .im (.str r.2), s7, s8, s9] = some (.nx [.im R.d, .im p.d, .im (.int (a : Int)), .ow ((ms ++ (wordsOf p k c x r.2).map fun w => Mv.mk a x w (letterOf R k p.side x)).map mvD), .im k.d, .im (insD r.1), .im (.str r.2), s7', s8', s9]) := by
      simp [b_bare_from_3, eW, -List.map_append]
      exact e1
    rw [List.map_cons, loopF_nx et eb]
    exact e2
end
end
end RB
set_option Elab.async false
set_option linter.all false
set_option maxRecDepth 100000
set_option maxHeartbeats 2000000
set_option autoImplicit false
/-! PU15: all bare moves, each once, sorted. -/
namespace RB
open PySem PySem.Spec L2
noncomputable section
section
variable {R : Rules} {p : Place}
theorem pair_to (hR : RulesOk R) (hp : PlaceOk R p) {a s : Nat} (h : a ∈ own p p.side) {way : Int} (hway : way = 1 ∨ way = -1) (hs : partnerOf R p a way = some s) (h3 : ¬ ((if (s : Int) - a < 0 then -((s : Int) - a) else (s : Int) - a) < 3)) : ∃ t : Nat, (t : Int) = a + 2 * way ∧ t < R.n ∧ MvOk R p ⟨a, t, "pair", ""⟩ := by
  have hat := own_lt hR hp h
  obtain ⟨hsn, j, e, _, h4⟩ := partner_at hR hp hat hway hs
  have hj : 3 ≤ j := by
    rcases hway with rfl | rfl
    · split at h3 <;> omega
    · split at h3 <;> omega
  obtain ⟨b1, b2⟩ := h4 hj
  obtain ⟨c1, c2⟩ := base_in hR hat b1 b2
  have ee : (a : Int) / R.wide * R.wide + (a : Int) % R.wide = a := Int.ediv_mul_add_emod (a : Int) R.wide
  have ef : baseOf R a + ((a : Int) % R.wide + 2 * way) = a + 2 * way := by unfold baseOf; omega
  rw [ef] at c1 c2
  refine ⟨((a : Int) + 2 * way).toNat, Int.toNat_of_nonneg c1, c2, h, c2, ⟨.inl rfl⟩, .pair way s rfl rfl hway (Int.toNat_of_nonneg c1) hs, fun z => absurd rfl z⟩
theorem bare_p (hR : RulesOk R) (hp : PlaceOk R p) {a : Nat} (h : a ∈ own p p.side) {s4 s5 s6 s7 s8 : SD} {way : Int} (hway : way = 1 ∨ way = -1) (ms : List Mv) (hm : ∀ m ∈ ms, MvOk R p m) (hl : ms.length < 100000) :
    ∃ ms' : List Mv, b_bare_from_4 [.im R.d, .im p.d, .im (.int (a : Int)), .ow (ms.map mvD), s4, s5, s6, s7, s8, .im (.int way)] = some (.nx [.im R.d, .im p.d, .im (.int (a : Int)), .ow (ms'.map mvD), s4, s5, s6, s7, s8, .im (.int way)]) ∧ (∀ m ∈ ms', MvOk R p m) ∧ ms'.length ≤ ms.length + 1 := by
  obtain ⟨b, e, hb⟩ := m_pair_fits_ex hR hp h hway
  cases b with
  | false => exact ⟨ms, by simp [b_bare_from_4, e], hm, by omega⟩
  | true =>
    obtain ⟨s, hs, h3⟩ := hb rfl
    obtain ⟨t, et, _, ok⟩ := pair_to hR hp h hway hs h3
    have h1 : ms.length < sizeLine := lt_sig _ (by omega)
    have hmul : Nat.log2 2 + way.natAbs.log2 < 100000000 := log_small (x := (2 : Int)) (by decide) (by omega)
    refine ⟨ms ++ [Mv.mk a t "pair" ""], ?_, fun m hm' => ?_, by simp⟩
    · simp [b_bare_from_4, e, h1, hmul, mvD, et]
    · rcases List.mem_append.mp hm' with z | z
      · exact hm m z
      · rw [List.mem_singleton.mp z]; exact ok
theorem m_bare_from_ex (hR : RulesOk R) (hp : PlaceOk R p) {a : Nat} (h : a ∈ own p p.side) : ∃ ms : List Mv, m_bare_from [R.d, p.d, .int (a : Int)] = some (.list (ms.map mvD)) ∧ (∀ m ∈ ms, MvOk R p m) ∧ ms.length ≤ 110 := by
  have hat := own_lt hR hp h
  obtain ⟨c, k, ec, hc, hpc, ek, hk, el, er, hsp, ea, eK⟩ := kind_at hR hp h
  obtain ⟨rs, eR, hrs, hrl⟩ := m_reach_ex hR hp hat
  obtain ⟨ms, s5, s6, s7, s8, e1, h1, h2⟩ := bare_r hR hp h hk ec ek (s9 := .no) rs [] .no .no .no .no hrs (fun m hm => nomatch hm) (by simp; omega)
  simp only [List.map_nil, List.length_nil] at e1 h2
  obtain ⟨ms1, e2, h3, h4⟩ := bare_p hR hp h (s4 := .im k.d) (s5 := s5) (s6 := s6) (s7 := s7) (s8 := s8) (way := -1) (.inr rfl) ms h1 (by omega)
  obtain ⟨ms2, e3, h5, h6⟩ := bare_p hR hp h (s4 := .im k.d) (s5 := s5) (s6 := s6) (s7 := s7) (s8 := s8) (way := 1) (.inl rfl) ms1 h3 (by omega)
  have e4 : loopF (.nm 9) b_bare_from_4 [.int (-1), .int 1] [.im R.d, .im p.d, .im (.int (a : Int)), .ow (ms.map mvD), .im k.d, s5, s6, s7, s8, .no] = some (.nx [.im R.d, .im p.d, .im (.int (a : Int)), .ow (ms2.map mvD), .im k.d, s5, s6, s7, s8, .im (.int 1)]) := by
    rw [loopF_nx rfl e2, loopF_nx rfl e3]
    rfl
  refine ⟨ms2, ?_, h5, by omega⟩
  simp [m_bare_from, g_bare_from, ea, eK, eR, e1, e4]
theorem bare_out (hR : RulesOk R) (hp : PlaceOk R p) : ∀ (xs : List Nat) (ms : List Mv) (s3 : SD), (∀ x ∈ xs, x ∈ own p p.side) → (∀ m ∈ ms, MvOk R p m) → ms.length + 110 * xs.length < 10000 →
    ∃ (ms' : List Mv) (s3' : SD), loopF (.nm 3) b_bare_1 (natsD xs) [.im R.d, .im p.d, .ow (ms.map mvD), s3] = some (.nx [.im R.d, .im p.d, .ow (ms'.map mvD), s3']) ∧ ∀ m ∈ ms', MvOk R p m
  | [], ms, s3, _, hm, _ => ⟨ms, s3, rfl, hm⟩
  | x :: xs, ms, s3, hx, hm, hn => by
    obtain ⟨ms1, e1, h1, h2⟩ := m_bare_from_ex hR hp (hx x List.mem_cons_self)
    have hn' : ms.length + 110 * xs.length + 110 < 10000 := by simp at hn; omega
    obtain ⟨ms', s3', e2, h3⟩ := bare_out hR hp xs (ms ++ ms1) (.im (.int (x : Int))) (fun y hy => hx y (List.mem_cons_of_mem _ hy)) (fun m hm' => (List.mem_append.mp hm').elim (hm m) (h1 m)) (by simp; omega)
    refine ⟨ms', s3', ?_, h3⟩
    have hl : ms.length + ms1.length ≤ sizeLine := len_sig _ (by omega)
    have eb : b_bare_1 [.im R.d, .im p.d, .ow (ms.map mvD), .im (.int (x : Int))] = some (.nx [.im R.d, .im p.d, .ow ((ms ++ ms1).map mvD), .im (.int (x : Int))]) := by
      simp [b_bare_1, e1, hl]
    show loopF (.nm 3) b_bare_1 (PyData.int (x : Int) :: natsD xs) _ = _
    rw [loopF_nx rfl eb]
    exact e2
/-! ### how many -/
def notSide (p : Place) (c : Nat) : Bool := !sideP p.side c
theorem filter_len {α : Type} (q : α → Bool) : ∀ l : List α, (l.filter q).length + (l.filter fun x => !q x).length = l.length
  | [] => rfl
  | x :: l => by
    have ih := filter_len q l
    cases h : q x <;> simp [List.filter_cons, h] <;> omega
theorem own_split (p : Place) : (sqWhere (sideP p.side) p.cells).length + (sqWhere (notSide p) p.cells).length = p.cells.length := by
  unfold sqWhere notSide
  have := filter_len (fun i => sideP p.side (p.cells.getD i 0)) (List.range p.cells.length)
  rw [List.length_range] at this
  exact this
def cand1 (R : Rules) (p : Place) (a : Nat) : List Mv := ((sqWhere (notSide p) p.cells).map fun t => Mv.mk a t (if p.cells[t]? = some 46 then "go" else "take") (letOf R p a t)) ++
  ([match p.passed with | some (b, _) => Mv.mk a b "pass" (letOf R p a b) | none => Mv.mk a 0 "pass" "", Mv.mk a ((a : Int) - 2).toNat "pair" "", Mv.mk a (a + 2) "pair" ""])
def cand (R : Rules) (p : Place) : List Mv := (sqWhere (sideP p.side) p.cells).flatMap (cand1 R p)
theorem flat_len {α β : Type} {f : α → List β} {m : Nat} : ∀ l : List α, (∀ x ∈ l, (f x).length = m) → (l.flatMap f).length = l.length * m
  | [], _ => by simp
  | x :: l, h => by
    rw [List.flatMap_cons, List.length_append, h x List.mem_cons_self, flat_len l fun y hy => h y (List.mem_cons_of_mem _ hy), List.length_cons, Nat.add_mul]
    omega
theorem cand_len (hR : RulesOk R) (hp : PlaceOk R p) : (cand R p).length < 64 := by
  unfold cand
  rw [flat_len (m := (sqWhere (notSide p) p.cells).length + 3) _ fun x _ => by simp [cand1]]
  have h1 := own_split p
  have h2 : p.cells.length ≤ 12 := by rw [hp.len]; exact hR.n12.1
  generalize (sqWhere (sideP p.side) p.cells).length = n at h1
  generalize (sqWhere (notSide p) p.cells).length = m at h1
  have hn : n ≤ 12 := by omega
  have hm : m ≤ 12 - n := by omega
  have h3 : n * (m + 3) ≤ n * (12 - n + 3) := Nat.mul_le_mul_left n (by omega)
  have h4 : ∀ k, k ≤ 12 → k * (12 - k + 3) < 64 := by decide
  exact Nat.lt_of_le_of_lt h3 (h4 n hn)
theorem side_46 {side : Nat} : sideP side 46 = false := by unfold sideP; split <;> rfl
theorem mem_cand (hR : RulesOk R) (hp : PlaceOk R p) {m : Mv} (h : MvOk R p m) : m ∈ cand R p := by
  obtain ⟨c, ec, hc⟩ := (mem_own hR hp).mp h.own
  refine List.mem_flatMap.mpr ⟨m.at_, mem_sqWhere.mpr ⟨c, ec, hc⟩, ?_⟩
  obtain ⟨a, t, w, l⟩ := m
  have first : ∀ c', p.cells[t]? = some c' → notSide p c' = true → (if p.cells[t]? = some 46 then ("go" : Str) else "take") = w → l = letOf R p a t → Mv.mk a t w l ∈ cand1 R p a := fun c' e1 e2 e3 e4 => by
    refine List.mem_append_left _ (List.mem_map.mpr ⟨t, mem_sqWhere.mpr ⟨c', e1, e2⟩, ?_⟩)
    rw [e3, e4]
  cases h.word with
  | go e1 e2 =>
    simp only at e1 e2
    subst e1
    exact first 46 e2 (by unfold notSide; rw [side_46]; rfl) (by rw [if_pos e2]) (h.det (show ¬ ("go" : Str) = "pair" by decide +kernel))
  | take c' e1 e2 e3 e4 =>
    simp only at e1 e2
    subst e1
    refine first c' e2 ?_ (by rw [if_neg (by rw [e2]; simp [e3])]) (h.det (show ¬ ("take" : Str) = "pair" by decide +kernel))
    unfold notSide sideP
    rcases hp.side with e | e
    · rw [e] at e4 ⊢
      simp at e4
      simp [e4]
    · rw [e] at e4 ⊢
      simp at e4
      have : isLow c' = false := by unfold isUp at e4; unfold isLow; simp at e4 ⊢; omega
      simp [this]
  | pass b e1 e2 e3 =>
    simp only at e1 e2 e3
    subst e1
    refine List.mem_append_right _ ?_
    rw [e3]
    have hd := h.det (show ¬ ("pass" : Str) = "pair" by decide +kernel)
    simp only at hd
    dsimp only
    rw [← hd]
    simp
  | pair way s e1 e2 e3 e4 e5 =>
    simp only at e1 e2 e4
    subst e1
    subst e2
    refine List.mem_append_right _ ?_
    rcases e3 with rfl | rfl
    · have : t = a + 2 := by omega
      subst this
      simp
    · have : t = ((a : Int) - 2).toNat := by omega
      subst this
      simp
theorem m_bare_ex (hR : RulesOk R) (hp : PlaceOk R p) : ∃ ms : List Mv, m_bare [R.d, p.d] = some (.list (ms.map mvD)) ∧ (∀ m ∈ ms, MvOk R p m) ∧ ms.Nodup ∧ ms.length < 64 := by
  have e1 := m_pieces_eq hR hp hp.side
  have e2 := m_own_eq hR hp p.side
  have hl := own_len p p.side
  obtain ⟨ms, s3, e3, h3⟩ := bare_out hR hp (own p p.side) [] .no (fun _ h => h) (fun m h => nomatch h) (by simp; omega)
  obtain ⟨L, e4, nd, hm, hL⟩ := sortSet_map mvS ms (cand R p) (fun m hm => mem_cand hR hp (h3 m hm)) (cand_len hR hp)
  have e4' : sortSetL (.list (ms.map mvD)) = some (.list (L.map mvD)) := e4
  refine ⟨L, ?_, fun m h => h3 m ((hm m).mp h), nd, Nat.lt_of_le_of_lt hL (cand_len hR hp)⟩
  simp at e3
  simp [m_bare, g_bare, e1, e2, e3, e4']
end
end
end RB
set_option Elab.async false
set_option linter.all false
set_option maxRecDepth 100000
set_option maxHeartbeats 2000000
set_option autoImplicit false
/-! PU16: what lies behind a move. -/
namespace RB
open PySem PySem.Spec L2
noncomputable section
theorem txt_app (a b : List Nat) : txt a ++ txt b = txt (a ++ b) := by
  show (⟨a.toArray ++ b.toArray⟩ : Str) = ⟨(a ++ b).toArray⟩
  simp
theorem ch_txt (c : Nat) : ch c = txt [c] := rfl
theorem cut_lo (cs : List Nat) (i : Nat) (h : i ≤ cs.length) : cutS (txt cs) none (some (i : Int)) = txt (cs.take i) := by
  unfold cutS
  rw [HT.sIx_none, HT.sIx_nat, txt_len, Nat.min_eq_left h, txt_cps]
  rfl
theorem cut_hi (cs : List Nat) (i : Nat) (h : i ≤ cs.length) : cutS (txt cs) (some (i : Int)) none = txt (cs.drop i) := by
  unfold cutS
  rw [HT.sIx_none, HT.sIx_nat, txt_len, Nat.min_eq_left h, txt_cps, List.take_of_length_le (by rw [List.length_drop]; omega)]
  rfl
@[simp] theorem dCut_txt {cs : List Nat} {lo hi : Option Int} (h : cs.length ≤ 1000) : dCut (.str (txt cs)) lo hi = some (.str (cutS (txt cs) lo hi)) := by
  have h1 : (txt cs).length ≤ sizeLine := by rw [txt_len]; exact len_sig _ (by omega)
  show (if (txt cs).length ≤ sizeLine then some (PyData.str (cutS (txt cs) lo hi)) else none) = _
  rw [if_pos h1]
theorem m_with_sign_eq {cs : List Nat} {i c : Nat} (hi : i < cs.length) (hl : cs.length ≤ 1000) : m_with_sign [.str (txt cs), .int (i : Int), .str (ch c)] = some (.str (txt (cs.set i c))) := by
  have e1 := cut_lo cs i (by omega)
  have e2 := cut_hi cs (i + 1) (by omega)
  have e3 : ((i : Int) + 1) = ((i + 1 : Nat) : Int) := by simp
  have h1 : min i cs.length + 1 ≤ sizeLine := len_sig _ (by omega)
  have h2 : min i cs.length + 1 + (cs.length - (i + 1)) ≤ sizeLine := len_sig _ (by omega)
  have e4 : txt (cs.take i) ++ txt [c] ++ txt (cs.drop (i + 1)) = txt (cs.set i c) := by
    rw [txt_app, txt_app, List.set_eq_take_append_cons_drop, if_pos hi, List.append_assoc]
    rfl
  simp only [m_with_sign, g_with_sign, semD_eq, start0_eq, retS_eq, frz_nil, binE_eq, slE_eq, noneO_eq, someO_eq, List.map_cons, List.map_nil, List.length_cons, List.length_nil, List.replicate, List.cons_append, List.nil_append, varE_im, varE_succ, litE_eq, Option.bind_some, Option.map_some, asI_int, dAdd_int, dCut_txt hl, e3, e1, e2, ch_txt, dAdd_str, txt_len, List.length_take, List.length_singleton]
  rw [if_pos (show min i cs.length + (0 + 1) ≤ sizeLine from h1)]
  simp only [Option.bind_some, dAdd_str, txt_app, txt_len, List.length_append, List.length_take, List.length_cons, List.length_nil, List.length_drop]
  rw [if_pos (show min i cs.length + (0 + 1) + (cs.length - (i + 1)) ≤ sizeLine from h2)]
  simp only [Option.map_some, Option.bind_some]
  rw [← e4, txt_app, txt_app]
section
variable {R : Rules} {p : Place}
theorem m_ride_once_ex {w : Way} (h : WayOk w) : ∃ b : Bool, m_is_ride_once [w.d] = some (.bool b) := by
  have h1 := h.use
  rcases h.word with e | e | e <;> cases ho : w.once <;> rcases h1 with u | u | u <;> exact ⟨decide (w.word = "ride") && w.once && !decide (w.use = "take") && !decide (w.most = 1), by simp [m_is_ride_once, g_is_ride_once, e, ho, u]⟩
theorem okD_pr (a b : Int) : okD (.tuple [.int a, .int b]) = true := (GoodD.tuple (n := 0) fun d hd => by
  simp only [List.mem_cons, List.not_mem_nil, or_false] at hd
  rcases hd with rfl | rfl <;> exact good_int).ok (by decide)
theorem okD_prs (L : List (Int × Int)) : okD (.list (L.map prD)) = true := (GoodD.list (n := 1) fun d hd => by
  obtain ⟨a, _, rfl⟩ := List.mem_map.mp hd
  exact .tuple fun d hd => by
    simp only [List.mem_cons, List.not_mem_nil, or_false] at hd
    rcases hd with rfl | rfl <;> exact good_int).ok (by decide)
theorem dIn_tl {xs ds : List D} (h1 : okD (.tuple xs) = true) (h2 : okD (.list ds) = true) : dIn (.tuple xs) (.list ds) = some (.bool (inD (.tuple xs) ds)) := by
  show (if okD (.tuple xs) = true ∧ okD (.list ds) = true then some (PyData.bool (id (inD (.tuple xs) ds))) else none) = _
  rw [if_pos ⟨h1, h2⟩]
  rfl
theorem LetOk.str {l : Str} (h : LetOk R l) : PyData.strOk l = true := by
  rcases h.is with e | ⟨c, e, hc, _⟩
  · rw [e]; simp
  · rw [e]; exact ok_ch (low200 hc)
inductive Word4 (w : Str) : Prop
  | go : w = "go" → Word4 w
  | take : w = "take" → Word4 w
  | pass : w = "pass" → Word4 w
  | pair : w = "pair" → Word4 w
theorem WordOk.four {m : Mv} (h : WordOk R p m) : Word4 m.word := by
  cases h with
  | go e => exact .go e
  | take _ e => exact .take e
  | pass _ e => exact .pass e
  | pair _ _ e => exact .pair e
theorem Word4.str {w : Str} (h : Word4 w) : PyData.strOk w = true := by
  cases h with
  | go e => rw [e]; simp
  | take e => rw [e]; simp
  | pass e => rw [e]; simp
  | pair e => rw [e]; simp
theorem m_left_behind_ex (hR : RulesOk R) (hp : PlaceOk R p) {m : Mv} (hm : MvOk R p m) : ∃ q : Option (Nat × Nat), m_left_behind [R.d, p.d, mvD m] = some (passD q) ∧ ∀ b a, q = some (b, a) → b < R.n ∧ a < R.n := by
  obtain ⟨c, k, ec, hc, hpc, ek, hk, el, er, hsp, ea, eK⟩ := kind_at hR hp hm.own
  have hat := own_lt hR hp hm.own
  have hto := hm.to
  have hw4 := hm.word.four.str
  have hls := hm.let_.str
  have eu : mvD m = .tuple [.int (m.at_ : Int), .int (m.to : Int), .str m.word, .str m.letter] := rfl
  have none_ : ∀ {x : Option D}, x = some .none → ∃ q : Option (Nat × Nat), x = some (passD q) ∧ ∀ b a, q = some (b, a) → b < R.n ∧ a < R.n := fun h => ⟨none, h, fun _ _ z => nomatch z⟩
  have b1 := bit_eq p.fresh m.at_
  rw [eu]
  by_cases hgo : m.word = "go"
  · by_cases hl0 : m.letter = ""
    · cases hr : k.royal with
      | true => exact none_ (by simp [m_left_behind, g_left_behind, ea, eK, hgo, hl0, hr])
      | false =>
        by_cases t1 : p.fresh.testBit m.at_ = true
        · rw [if_pos t1] at b1
          have hw := hR.w
          have w1 : 0 < R.wide := hw.1
          have w2 : (R.wide : Int) < 1073741824 := by omega
          by_cases hdx : ((m.to : Int) % R.wide - (m.at_ : Int) % R.wide) % 2 = 0
          · by_cases hdy : ((m.to : Int) / R.wide - (m.at_ : Int) / R.wide) % 2 = 0
            · -- between
              have m1 : 0 ≤ (m.at_ : Int) % R.wide := Int.emod_nonneg _ (by omega)
              have m2 : (m.at_ : Int) % R.wide < R.wide := Int.emod_lt_of_pos _ (by omega)
              have m3 : 0 ≤ (m.to : Int) % R.wide := Int.emod_nonneg _ (by omega)
              have m4 : (m.to : Int) % R.wide < R.wide := Int.emod_lt_of_pos _ (by omega)
              have ediv : ∀ x : Nat, x < R.n → 0 ≤ (x : Int) / R.wide ∧ (x : Int) / R.wide < R.high := fun x hx => ⟨Int.ediv_nonneg (by omega) (by omega), Int.ediv_lt_of_lt_mul (by omega) (by
                unfold Rules.n at hx
                have : ((R.wide * R.high : Nat) : Int) = (R.high : Int) * R.wide := by rw [Int.natCast_mul, Int.mul_comm]
                omega)⟩
              obtain ⟨d1, d2⟩ := ediv _ hat
              obtain ⟨d3, d4⟩ := ediv _ hto
              have hh := hR.h
              obtain ⟨s1, s2⟩ := sq_lt (w := R.wide) (h := R.high) (c := (m.at_ : Int) % R.wide + ((m.to : Int) % R.wide - (m.at_ : Int) % R.wide) / 2) (r := (m.at_ : Int) / R.wide + ((m.to : Int) / R.wide - (m.at_ : Int) / R.wide) / 2) (by omega) (by omega) (by omega) (by omega)
              have ee : (m.at_ : Int) / R.wide * R.wide + (m.at_ : Int) % R.wide = m.at_ := Int.ediv_mul_add_emod (m.at_ : Int) R.wide
              have eb : ((m.at_ : Int) / R.wide + ((m.to : Int) / R.wide - (m.at_ : Int) / R.wide) / 2) * R.wide + ((m.at_ : Int) % R.wide + ((m.to : Int) % R.wide - (m.at_ : Int) % R.wide) / 2) = (m.at_ : Int) + ((m.to : Int) / R.wide - (m.at_ : Int) / R.wide) / 2 * R.wide + ((m.to : Int) % R.wide - (m.at_ : Int) % R.wide) / 2 := by
                rw [Int.add_mul]; omega
              rw [eb] at s1 s2
              generalize hB : (m.at_ : Int) + ((m.to : Int) / R.wide - (m.at_ : Int) / R.wide) / 2 * R.wide + ((m.to : Int) % R.wide - (m.at_ : Int) % R.wide) / 2 = B at s1 s2
              obtain ⟨cb, ecb, okb⟩ := hp.cell s2
              have eab := atS ecb (hp.le hR)
              rw [Int.toNat_of_nonneg s1] at eab
              have hcb : cb < 200 := by have := okb.lt; omega
              have hl : (((m.to : Int) / R.wide - (m.at_ : Int) / R.wide) / 2).natAbs.log2 + R.wide.log2 < 100000000 := log_small (y := (R.wide : Int)) (by omega) (by omega)
              by_cases h46 : cb = 46
              · have key := loopF_find (t := .nm 12) (b := b_left_behind_1) (g := Way.d) (r := fun _ => PyData.tuple [.int B, .int (m.to : Int)]) (p := fun w => match m_is_ride_once [w.d], m_steps [w.d, .int (p.side : Int)] with | some (.bool true), some (.list ds) => inD (.tuple [.int (((m.to : Int) % R.wide - (m.at_ : Int) % R.wide) / 2), .int (((m.to : Int) / R.wide - (m.at_ : Int) / R.wide) / 2)]) ds | _, _ => false)
                  (fun ρ => ∃ v, ρ = [.im R.d, .im p.d, .im (mvD m), .im (.int (m.at_ : Int)), .im (.int (m.to : Int)), .im (.str m.word), .im (.str m.letter), .im k.d, .im (.int (R.wide : Int)), .im (.int ((m.to : Int) % R.wide - (m.at_ : Int) % R.wide)), .im (.int ((m.to : Int) / R.wide - (m.at_ : Int) / R.wide)), .im (.int B), v]) (xs := k.ways)
                  (ρ := [.im R.d, .im p.d, .im (mvD m), .im (.int (m.at_ : Int)), .im (.int (m.to : Int)), .im (.str m.word), .im (.str m.letter), .im k.d, .im (.int (R.wide : Int)), .im (.int ((m.to : Int) % R.wide - (m.at_ : Int) % R.wide)), .im (.int ((m.to : Int) / R.wide - (m.at_ : Int) / R.wide)), .im (.int B), .no]) (fun w hww ρ ⟨v, e⟩ => by
                    subst e
                    have okw := (hR.ks k hk).ways w hww
                    obtain ⟨b, eo⟩ := m_ride_once_ex okw
                    obtain ⟨L, eS, _, _⟩ := m_steps_eq okw hp.side
                    have eI := dIn_tl (okD_pr (((m.to : Int) % R.wide - (m.at_ : Int) % R.wide) / 2) (((m.to : Int) / R.wide - (m.at_ : Int) / R.wide) / 2)) (okD_prs L)
                    refine ⟨[.im R.d, .im p.d, .im (mvD m), .im (.int (m.at_ : Int)), .im (.int (m.to : Int)), .im (.str m.word), .im (.str m.letter), .im k.d, .im (.int (R.wide : Int)), .im (.int ((m.to : Int) % R.wide - (m.at_ : Int) % R.wide)), .im (.int ((m.to : Int) / R.wide - (m.at_ : Int) / R.wide)), .im (.int B), .im w.d], rfl, ?_⟩
                    rw [eo, eS]
                    cases b with
                    | false =>
                      left
                      refine ⟨rfl, _, .inl ?_, .im w.d, rfl⟩
                      simp [b_left_behind_1, eo]
                    | true =>
                      cases hin : inD (.tuple [.int (((m.to : Int) % R.wide - (m.at_ : Int) % R.wide) / 2), .int (((m.to : Int) / R.wide - (m.at_ : Int) / R.wide) / 2)]) (L.map prD) with
                      | false =>
                        rw [hin] at eI
                        left
                        refine ⟨hin, _, .inl ?_, .im w.d, rfl⟩
                        simp [b_left_behind_1, eo, eS, eI]
                      | true =>
                        rw [hin] at eI
                        right
                        refine ⟨hin, ?_⟩
                        simp [b_left_behind_1, eo, eS, eI]) ⟨_, rfl⟩
                rw [eu] at key
                rcases key with ⟨w, _, eL⟩ | ⟨_, ρ', eL, v, eρ⟩
                · refine ⟨some (B.toNat, m.to), ?_, fun b a z => by cases z; exact ⟨s2, hto⟩⟩
                  rw [hgo, hl0] at eL
                  simp [m_left_behind, g_left_behind, ea, eK, hgo, hl0, hr, b1, w1, w2, hdx, hdy, hl, hB, eab, dot_ch, h46, eL, passD, Int.toNat_of_nonneg s1]
                · refine none_ ?_
                  rw [hgo, hl0] at eL
                  simp [m_left_behind, g_left_behind, ea, eK, hgo, hl0, hr, b1, w1, w2, hdx, hdy, hl, hB, eab, dot_ch, h46, eL]
              · exact none_ (by simp [m_left_behind, g_left_behind, ea, eK, hgo, hl0, hr, b1, w1, w2, hdx, hdy, hl, hB, eab, dot_ch, h46, hcb])
            · exact none_ (by simp [m_left_behind, g_left_behind, ea, eK, hgo, hl0, hr, b1, w1, w2, hdx, hdy])
          · exact none_ (by simp [m_left_behind, g_left_behind, ea, eK, hgo, hl0, hr, b1, w1, w2, hdx])
        · rw [if_neg t1] at b1
          exact none_ (by simp [m_left_behind, g_left_behind, ea, eK, hgo, hl0, hr, b1])
    · exact none_ (by simp [m_left_behind, g_left_behind, ea, eK, hgo, hl0, hls])
  · exact none_ (by simp [m_left_behind, g_left_behind, ea, eK, hgo, hw4])
end
end
end RB
set_option Elab.async false
set_option linter.all false
set_option maxRecDepth 100000
set_option maxHeartbeats 2000000
set_option autoImplicit false
/-! PU17: the place behind a move. -/
namespace RB
open PySem PySem.Spec L2
noncomputable section
@[simp] theorem ne_go_pass : ¬ (("go" : Str) = "pass") := by decide +kernel
@[simp] theorem ne_go_pair : ¬ (("go" : Str) = "pair") := by decide +kernel
@[simp] theorem ne_take_pass : ¬ (("take" : Str) = "pass") := by decide +kernel
@[simp] theorem ne_take_pair : ¬ (("take" : Str) = "pair") := by decide +kernel
@[simp] theorem ne_pass_go : ¬ (("pass" : Str) = "go") := by decide +kernel
@[simp] theorem ne_pass_take : ¬ (("pass" : Str) = "take") := by decide +kernel
@[simp] theorem ne_pass_pair : ¬ (("pass" : Str) = "pair") := by decide +kernel
@[simp] theorem ne_pair_go : ¬ (("pair" : Str) = "go") := by decide +kernel
@[simp] theorem ne_pair_take : ¬ (("pair" : Str) = "take") := by decide +kernel
@[simp] theorem ne_pair_pass : ¬ (("pair" : Str) = "pass") := by decide +kernel
section
variable {R : Rules} {p : Place}
theorem place_mk {cs : List Nat} {s f : Nat} {q : Option (Nat × Nat)} {cl : Int} : Place.d ⟨cs, s, f, q, cl⟩ = .tuple [.str (txt cs), .int (s : Int), .int (f : Int), passD q, .int cl] := rfl
theorem fresh_loop {x0 x1 x2 x3 x4 x5 x6 x7 x8 x9 x10 x11 s14 : SD} : ∀ (xs : List Nat) (f : Nat) (s13 : SD), (∀ x ∈ xs, x < 1000) → f < 2 ^ 20 →
    ∃ (f' : Nat) (s13' : SD), f' < 2 ^ 20 ∧ loopF (.nm 13) b_after_1 (natsD xs) [x0, x1, x2, x3, x4, x5, x6, x7, x8, x9, x10, x11, .im (.int (f : Int)), s13, s14] = some (.nx [x0, x1, x2, x3, x4, x5, x6, x7, x8, x9, x10, x11, .im (.int (f' : Int)), s13', s14])
  | [], f, s13, _, hf => ⟨f, s13, hf, rfl⟩
  | x :: xs, f, s13, h, hf => by
    have hx := h x List.mem_cons_self
    have b1 := bit_eq f x
    have hx2 : (x : Int) ≤ 1000000 := by omega
    have step : ∃ f1 : Nat, f1 < 2 ^ 20 ∧ b_after_1 [x0, x1, x2, x3, x4, x5, x6, x7, x8, x9, x10, x11, .im (.int (f : Int)), .im (.int (x : Int)), s14] = some (.nx [x0, x1, x2, x3, x4, x5, x6, x7, x8, x9, x10, x11, .im (.int (f1 : Int)), .im (.int (x : Int)), s14]) := by
      by_cases t : f.testBit x = true
      · rw [if_pos t] at b1
        have hle : 2 ^ x ≤ f := Nat.ge_two_pow_of_testBit t
        have e : (f : Int) - 2 ^ x = ((f - 2 ^ x : Nat) : Int) := by
          rw [Int.ofNat_sub hle]
          simp
        exact ⟨f - 2 ^ x, Nat.lt_of_le_of_lt (Nat.sub_le _ _) hf, by simp [b_after_1, b1, hx2, e]⟩
      · rw [if_neg t] at b1
        exact ⟨f, hf, by simp [b_after_1, b1]⟩
    obtain ⟨f1, hf1, eb⟩ := step
    obtain ⟨f', s13', hf', e⟩ := fresh_loop (x0 := x0) (x1 := x1) (x2 := x2) (x3 := x3) (x4 := x4) (x5 := x5) (x6 := x6) (x7 := x7) (x8 := x8) (x9 := x9) (x10 := x10) (x11 := x11) (s14 := s14) xs f1 (.im (.int (x : Int))) (fun y hy => h y (List.mem_cons_of_mem _ hy)) hf1
    refine ⟨f', s13', hf', ?_⟩
    show loopF (.nm 13) b_after_1 (PyData.int (x : Int) :: natsD xs) _ = _
    rw [loopF_nx rfl eb]
    exact e
theorem set_ok {cs : List Nat} (h : ∀ c ∈ cs, CellOk R c) {i c : Nat} (hc : CellOk R c) : ∀ d ∈ cs.set i c, CellOk R d := fun d hd => by
  rcases List.mem_or_eq_of_mem_set hd with z | z
  · exact h d z
  · rw [z]; exact hc
theorem dot_ok : CellOk R 46 := ⟨.inl rfl⟩
theorem let_ok {side c : Nat} (hc : isLow c = true) (hk : ∃ k ∈ R.kinds, k.letter = c) : CellOk R (if side = 0 then up c else c) := by
  obtain ⟨k, hk, e⟩ := hk
  refine ⟨.inr (.inr ?_)⟩
  split
  · exact ⟨by unfold isPc; rw [isUp_up hc]; rfl, k, hk, by rw [low_up hc]; exact e⟩
  · exact ⟨by unfold isPc; rw [hc]; simp, k, hk, by rw [low_low hc]; exact e⟩
theorem m_after_ex (hR : RulesOk R) (hp : PlaceOk R p) {m : Mv} (hm : MvOk R p m) : ∃ q : Place, m_after [R.d, p.d, mvD m] = some q.d ∧ PlaceOk R q ∧ q.side = 1 - p.side := by
  obtain ⟨c, k, ec, hc, hpc, ek, hk, el, er, hsp, ea, eK⟩ := kind_at hR hp hm.own
  have hat := own_lt hR hp hm.own
  have hto := hm.to
  obtain ⟨lb, eL, hlb⟩ := m_left_behind_ex hR hp hm
  have hw4 := hm.word.four
  have eu : mvD m = .tuple [.int (m.at_ : Int), .int (m.to : Int), .str m.word, .str m.letter] := rfl
  have hlen := hp.len
  have hle : p.cells.length ≤ 1000 := hp.le hR
  have h12 := hR.n12
  have okc : CellOk R c := hp.cells c (List.mem_of_getElem? ec)
  have at1 : m.at_ < p.cells.length := by rw [hlen]; exact hat
  have to1 : m.to < p.cells.length := by rw [hlen]; exact hto
  have hside : (1 : Int) - (p.side : Int) = ((1 - p.side : Nat) : Int) := by rcases hp.side with e | e <;> rw [e] <;> rfl
  have hs2 : 1 - p.side = 0 ∨ 1 - p.side = 1 := by rcases hp.side with e | e <;> rw [e] <;> simp
  have hcalm := hp.calm
  have calm2 : 0 ≤ (if p.calm + 1 < 999 then p.calm + 1 else 999) ∧ (if p.calm + 1 < 999 then p.calm + 1 else 999) ≤ 999 := by split <;> omega
  have fin : ∀ (cs : List Nat) (f : Nat) (cl : Int), cs.length = p.cells.length → (∀ d ∈ cs, CellOk R d) → f < 2 ^ 20 → 0 ≤ cl ∧ cl ≤ 999 → PlaceOk R ⟨cs, 1 - p.side, f, lb, cl⟩ := fun cs f cl h1 h2 h3 h4 => ⟨h1.trans hlen, h2, hs2, h3, hlb, h4⟩
  -- the last cell: the piece, or what it becomes
  have final : ∃ (d : Nat), CellOk R d ∧ ((m.letter = "" ∧ d = c) ∨ (∃ l, m.letter = ch l ∧ l < 128 ∧ m_signs_of [.int (p.side : Int), .str (ch l)] = some (.str (ch d)))) := by
    rcases hm.let_.is with e | ⟨l, e, hl, hkl⟩
    · exact ⟨c, okc, .inl ⟨e, rfl⟩⟩
    · have hl2 : l < 128 := by unfold isLow at hl; simp at hl; omega
      exact ⟨_, let_ok (side := p.side) hl hkl, .inr ⟨l, e, hl2, m_signs_of_eq hp.side hl2⟩⟩
  obtain ⟨d, okd, hd⟩ := final
  rw [eu] at eL ⊢
  cases hm.word with
  | go e1 e2 =>
    rcases hd with ⟨e3, rfl⟩ | ⟨l, e3, hl, eS⟩
    · obtain ⟨f', s13', hf', eF⟩ := fresh_loop (x0 := .im R.d) (x1 := .im p.d) (x2 := .im (mvD m)) (x3 := .im (.int (m.at_ : Int))) (x4 := .im (.int (m.to : Int))) (x5 := .im (.str "go")) (x6 := .im (.str "")) (x7 := .im (.str (ch d))) (x8 := .im (.list (natsD [m.at_, m.to]))) (x9 := .im (.str (txt ((p.cells.set m.at_ 46).set m.to d)))) (x10 := .no) (x11 := .no) (s14 := .no) [m.at_, m.to] p.fresh .no (fun x hx => by
        simp only [List.mem_cons, List.not_mem_nil, or_false] at hx
        rcases hx with rfl | rfl <;> omega) hp.fresh
      rw [eu] at eF
      rw [e1, e3] at eL eF
      refine ⟨⟨(p.cells.set m.at_ 46).set m.to d, 1 - p.side, f', lb, if p.calm + 1 < 999 then p.calm + 1 else 999⟩, ?_, fin _ _ _ (by simp) (set_ok (set_ok hp.cells dot_ok) okd) hf' calm2, rfl⟩
      simp at eF
      simp [m_after, g_after, ea, e1, e3, dot_ch, m_with_sign_eq, at1, to1, hle, eF, eL, place_mk, hside]
    · obtain ⟨f', s13', hf', eF⟩ := fresh_loop (x0 := .im R.d) (x1 := .im p.d) (x2 := .im (mvD m)) (x3 := .im (.int (m.at_ : Int))) (x4 := .im (.int (m.to : Int))) (x5 := .im (.str "go")) (x6 := .im (.str (ch l))) (x7 := .im (.str (ch c))) (x8 := .im (.list (natsD [m.at_, m.to]))) (x9 := .im (.str (txt ((p.cells.set m.at_ 46).set m.to d)))) (x10 := .no) (x11 := .no) (s14 := .no) [m.at_, m.to] p.fresh .no (fun x hx => by
        simp only [List.mem_cons, List.not_mem_nil, or_false] at hx
        rcases hx with rfl | rfl <;> omega) hp.fresh
      rw [eu] at eF
      rw [e1, e3] at eL eF
      have hl2 : l < 200 := by omega
      refine ⟨⟨(p.cells.set m.at_ 46).set m.to d, 1 - p.side, f', lb, 0⟩, ?_, fin _ _ _ (by simp) (set_ok (set_ok hp.cells dot_ok) okd) hf' (by omega), rfl⟩
      simp at eF
      simp [m_after, g_after, ea, e1, e3, dot_ch, m_with_sign_eq, at1, to1, hle, eF, eL, eS, hl2, place_mk, hside]
  | take c' e1 e2 e4 e5 =>
    rcases hd with ⟨e3, rfl⟩ | ⟨l, e3, hl, eS⟩
    · obtain ⟨f', s13', hf', eF⟩ := fresh_loop (x0 := .im R.d) (x1 := .im p.d) (x2 := .im (mvD m)) (x3 := .im (.int (m.at_ : Int))) (x4 := .im (.int (m.to : Int))) (x5 := .im (.str "take")) (x6 := .im (.str "")) (x7 := .im (.str (ch d))) (x8 := .im (.list (natsD [m.at_, m.to]))) (x9 := .im (.str (txt ((p.cells.set m.at_ 46).set m.to d)))) (x10 := .no) (x11 := .no) (s14 := .no) [m.at_, m.to] p.fresh .no (fun x hx => by
        simp only [List.mem_cons, List.not_mem_nil, or_false] at hx
        rcases hx with rfl | rfl <;> omega) hp.fresh
      rw [eu] at eF
      rw [e1, e3] at eL eF
      refine ⟨⟨(p.cells.set m.at_ 46).set m.to d, 1 - p.side, f', lb, 0⟩, ?_, fin _ _ _ (by simp) (set_ok (set_ok hp.cells dot_ok) okd) hf' (by omega), rfl⟩
      simp at eF
      simp [m_after, g_after, ea, e1, e3, dot_ch, m_with_sign_eq, at1, to1, hle, eF, eL, place_mk, hside]
    · obtain ⟨f', s13', hf', eF⟩ := fresh_loop (x0 := .im R.d) (x1 := .im p.d) (x2 := .im (mvD m)) (x3 := .im (.int (m.at_ : Int))) (x4 := .im (.int (m.to : Int))) (x5 := .im (.str "take")) (x6 := .im (.str (ch l))) (x7 := .im (.str (ch c))) (x8 := .im (.list (natsD [m.at_, m.to]))) (x9 := .im (.str (txt ((p.cells.set m.at_ 46).set m.to d)))) (x10 := .no) (x11 := .no) (s14 := .no) [m.at_, m.to] p.fresh .no (fun x hx => by
        simp only [List.mem_cons, List.not_mem_nil, or_false] at hx
        rcases hx with rfl | rfl <;> omega) hp.fresh
      rw [eu] at eF
      rw [e1, e3] at eL eF
      have hl2 : l < 200 := by omega
      refine ⟨⟨(p.cells.set m.at_ 46).set m.to d, 1 - p.side, f', lb, 0⟩, ?_, fin _ _ _ (by simp) (set_ok (set_ok hp.cells dot_ok) okd) hf' (by omega), rfl⟩
      simp at eF
      simp [m_after, g_after, ea, e1, e3, dot_ch, m_with_sign_eq, at1, to1, hle, eF, eL, eS, hl2, place_mk, hside]
  | pass b e1 e2 e4 =>
    have hb := (hp.passed _ _ e4).2
    have b1 : b < p.cells.length := by rw [hlen]; exact hb
    rcases hd with ⟨e3, rfl⟩ | ⟨l, e3, hl, eS⟩
    · obtain ⟨f', s13', hf', eF⟩ := fresh_loop (x0 := .im R.d) (x1 := .im p.d) (x2 := .im (mvD m)) (x3 := .im (.int (m.at_ : Int))) (x4 := .im (.int (m.to : Int))) (x5 := .im (.str "pass")) (x6 := .im (.str "")) (x7 := .im (.str (ch d))) (x8 := .im (.list (natsD [m.at_, m.to, b]))) (x9 := .im (.str (txt (((p.cells.set m.at_ 46).set b 46).set m.to d)))) (x10 := .no) (x11 := .no) (s14 := .no) [m.at_, m.to, b] p.fresh .no (fun x hx => by
        simp only [List.mem_cons, List.not_mem_nil, or_false] at hx
        rcases hx with rfl | rfl | rfl <;> omega) hp.fresh
      rw [eu] at eF
      rw [e1, e3] at eL eF
      refine ⟨⟨((p.cells.set m.at_ 46).set b 46).set m.to d, 1 - p.side, f', lb, 0⟩, ?_, fin _ _ _ (by simp) (set_ok (set_ok (set_ok hp.cells dot_ok) dot_ok) okd) hf' (by omega), rfl⟩
      simp at eF
      simp [m_after, g_after, ea, e1, e3, e4, passD, dot_ch, m_with_sign_eq, at1, to1, b1, hle, eF, eL, place_mk, hside]
    · obtain ⟨f', s13', hf', eF⟩ := fresh_loop (x0 := .im R.d) (x1 := .im p.d) (x2 := .im (mvD m)) (x3 := .im (.int (m.at_ : Int))) (x4 := .im (.int (m.to : Int))) (x5 := .im (.str "pass")) (x6 := .im (.str (ch l))) (x7 := .im (.str (ch c))) (x8 := .im (.list (natsD [m.at_, m.to, b]))) (x9 := .im (.str (txt (((p.cells.set m.at_ 46).set b 46).set m.to d)))) (x10 := .no) (x11 := .no) (s14 := .no) [m.at_, m.to, b] p.fresh .no (fun x hx => by
        simp only [List.mem_cons, List.not_mem_nil, or_false] at hx
        rcases hx with rfl | rfl | rfl <;> omega) hp.fresh
      rw [eu] at eF
      rw [e1, e3] at eL eF
      have hl2 : l < 200 := by omega
      refine ⟨⟨((p.cells.set m.at_ 46).set b 46).set m.to d, 1 - p.side, f', lb, 0⟩, ?_, fin _ _ _ (by simp) (set_ok (set_ok (set_ok hp.cells dot_ok) dot_ok) okd) hf' (by omega), rfl⟩
      simp at eF
      simp [m_after, g_after, ea, e1, e3, e4, passD, dot_ch, m_with_sign_eq, at1, to1, b1, hle, eF, eL, eS, hl2, place_mk, hside]
  | pair way s e1 e2 e3 e4 e5 =>
    have hs := (partner_at hR hp hat e3 e5).1
    have s1 : s < p.cells.length := by rw [hlen]; exact hs
    obtain ⟨cs, ecs, oks⟩ := hp.cell hs
    have eas := atS ecs hle
    have eP := m_partner_eq hR hp hat e3
    rw [e5] at eP
    have eP' : m_partner [R.d, p.d, .int (m.at_ : Int), .int way] = some (.int (s : Int)) := eP
    have ew : ((m.to : Int) - m.at_) / 2 = way := by rcases e3 with rfl | rfl <;> omega
    obtain ⟨t, et⟩ : ∃ t : Nat, (m.at_ : Int) + way = (t : Int) := by
      refine ⟨((m.at_ : Int) + way).toNat, ?_⟩
      rcases e3 with rfl | rfl <;> omega
    have t1 : t < p.cells.length := by rcases e3 with rfl | rfl <;> omega
    have ed : d = c := by
      rcases hd with ⟨_, e⟩ | ⟨l, e, _⟩
      · exact e
      · rw [e2] at e; exact absurd e empty_ne_ch
    subst ed
    obtain ⟨f', s13', hf', eF⟩ := fresh_loop (x0 := .im R.d) (x1 := .im p.d) (x2 := .im (mvD m)) (x3 := .im (.int (m.at_ : Int))) (x4 := .im (.int (m.to : Int))) (x5 := .im (.str "pair")) (x6 := .im (.str "")) (x7 := .im (.str (ch d))) (x8 := .im (.list (natsD [m.at_, m.to, s]))) (x9 := .im (.str (txt ((((p.cells.set m.at_ 46).set s 46).set t cs).set m.to d)))) (x10 := .im (.int way)) (x11 := .im (.int (s : Int))) (s14 := .no) [m.at_, m.to, s] p.fresh .no (fun x hx => by
      simp only [List.mem_cons, List.not_mem_nil, or_false] at hx
      rcases hx with rfl | rfl | rfl <;> omega) hp.fresh
    rw [eu] at eF
    rw [e1, e2] at eL eF
    refine ⟨⟨(((p.cells.set m.at_ 46).set s 46).set t cs).set m.to d, 1 - p.side, f', lb, if p.calm + 1 < 999 then p.calm + 1 else 999⟩, ?_, fin _ _ _ (by simp) (set_ok (set_ok (set_ok (set_ok hp.cells dot_ok) dot_ok) oks) okd) hf' calm2, rfl⟩
    simp at eF
    simp [m_after, g_after, ea, e1, e2, ew, et, eP', eas, dot_ch, m_with_sign_eq, at1, to1, s1, t1, hle, eF, eL, place_mk, hside]
end
end
end RB
set_option Elab.async false
set_option linter.all false
set_option maxRecDepth 100000
set_option maxHeartbeats 2000000
set_option autoImplicit false
/-! PU18: attacks on royal pieces, moves, verdicts. -/
namespace RB
open PySem PySem.Spec L2
noncomputable section
section
variable {R : Rules} {p : Place}
theorem m_royals_eq (hR : RulesOk R) (hp : PlaceOk R p) {side : Nat} (hs : side = 0 ∨ side = 1) : m_royals [R.d, p.d, .int (side : Int)] = some (.list (natsD ((own p side).filter (royalAt R p)))) := by
  have e1 := m_pieces_eq hR hp hs
  have e2 := m_own_eq hR hp side
  have hl : (own p side).length ≤ sizeLine := len_sig _ (by have := own_len p side; omega)
  have e3 := loopC_eq (t := .nm 3) (c := c_royals_1) (f := e_royals_2) (g := fun x : Nat => PyData.int (x : Int)) (r := fun x : Nat => PyData.int (x : Int)) (p := royalAt R p) (ρ := [.im R.d, .im p.d, .im (.int (side : Int)), .no]) (xs := own p side) (fun x hx => by
    obtain ⟨c, k, ec, hc, hpc, ek, hk, el, er, hsp, ea, eK⟩ := kind_at hR hp hx
    refine ⟨[.im R.d, .im p.d, .im (.int (side : Int)), .im (.int (x : Int))], rfl, ?_, fun _ => rfl⟩
    rw [er]
    simp [c_royals_1, ea, eK])
  simp [m_royals, g_royals, e1, e2, e3, hl]
theorem atton_loop (hR : RulesOk R) (hp : PlaceOk R p) {side : Nat} (hs : side = 0 ∨ side = 1) : ∀ (xs : List Nat) (ls : List (List Nat)) (s4 : SD), ls.length + 700 * xs.length < 100000 →
    ∃ (ls' : List (List Nat)) (s4' : SD), loopF (.nm 4) b_attacks_on_1 (natsD xs) [.im R.d, .im p.d, .im (.int (side : Int)), .ow (ls.map insD), s4] = some (.nx [.im R.d, .im p.d, .im (.int (side : Int)), .ow (ls'.map insD), s4']) ∧ ls.length ≤ ls'.length ∧ ((∃ x ∈ xs, 0 < attN R p (1 - side) (x : Int)) → 0 < ls'.length)
  | [], ls, s4, _ => ⟨ls, s4, rfl, Nat.le_refl _, fun ⟨x, h, _⟩ => nomatch h⟩
  | x :: xs, ls, s4, hn => by
    have hs1 : (1 : Int) - (side : Int) = ((1 - side : Nat) : Int) := by rcases hs with e | e <;> subst e <;> rfl
    have hs2 : 1 - side = 0 ∨ 1 - side = 1 := by rcases hs with e | e <;> subst e <;> simp
    obtain ⟨ls1, eA, hl1⟩ := m_attacks_ex hR hp hs2 (x : Int)
    have eN := attN_eq eA
    rw [← hs1] at eA
    have hn' : ls.length + 700 * xs.length + 700 < 100000 := by simp at hn; omega
    obtain ⟨ls', s4', e, h1, h2⟩ := atton_loop hR hp hs xs (ls ++ ls1) (.im (.int (x : Int))) (by simp; omega)
    have hl : ls.length + ls1.length ≤ sizeLine := len_sig _ (by omega)
    have eb : b_attacks_on_1 [.im R.d, .im p.d, .im (.int (side : Int)), .ow (ls.map insD), .im (.int (x : Int))] = some (.nx [.im R.d, .im p.d, .im (.int (side : Int)), .ow ((ls ++ ls1).map insD), .im (.int (x : Int))]) := by
      simp [b_attacks_on_1, eA, hl]
    rw [List.length_append] at h1
    refine ⟨ls', s4', ?_, by omega, fun ⟨y, hy, h⟩ => ?_⟩
    · show loopF (.nm 4) b_attacks_on_1 (PyData.int (x : Int) :: natsD xs) _ = _
      rw [loopF_nx rfl eb]
      exact e
    · rcases List.mem_cons.mp hy with z | z
      · rw [z, eN] at h; omega
      · exact h2 ⟨y, z, h⟩
theorem m_attacks_on_ex (hR : RulesOk R) (hp : PlaceOk R p) {side : Nat} (hs : side = 0 ∨ side = 1) : ∃ ls : List (List Nat), m_attacks_on [R.d, p.d, .int (side : Int)] = some (.list (ls.map insD)) ∧ ((own p side).any (unsafeAt R p side) = true → 0 < ls.length) := by
  have e1 := m_royals_eq hR hp hs
  have hl := own_len p side
  have hf : ((own p side).filter (royalAt R p)).length ≤ 12 := Nat.le_trans (List.length_filter_le _ _) hl
  obtain ⟨ls, s4, e2, _, h2⟩ := atton_loop hR hp hs ((own p side).filter (royalAt R p)) [] .no (by simp; omega)
  obtain ⟨ls', e3, pm⟩ := gSorted_lines ls
  refine ⟨ls', ?_, fun h => ?_⟩
  · simp at e2
    simp [m_attacks_on, g_attacks_on, e1, e2, e3]
  · rw [pm.length_eq]
    obtain ⟨x, hx, hu⟩ := List.any_eq_true.mp h
    unfold unsafeAt at hu
    rw [Bool.and_eq_true, decide_eq_true_eq] at hu
    exact h2 ⟨x, List.mem_filter.mpr ⟨hx, hu.1⟩, hu.2⟩
/-- whether a move is safe, by its data -/
def safeB (R : Rules) (p : Place) (m : Mv) : Bool := match m_after [R.d, p.d, mvD m] with
  | some q => match m_is_safe [R.d, q, .int (p.side : Int)] with
    | some (.bool b) => b
    | _ => false
  | none => false
/-- ms are the place's moves -/
structure Moves (R : Rules) (p : Place) (ms : List Mv) : Prop where
  eq : m_moves [R.d, p.d] = some (.list (ms.map mvD))
  ok : ∀ m ∈ ms, MvOk R p m
  nd : ms.Nodup
  few : ms.length < 64
theorem m_moves_ex (hR : RulesOk R) (hp : PlaceOk R p) : ∃ bs : List Mv, m_bare [R.d, p.d] = some (.list (bs.map mvD)) ∧ (∀ m ∈ bs, MvOk R p m) ∧ bs.length < 64 ∧ Moves R p (bs.filter (safeB R p)) := by
  obtain ⟨bs, e1, h1, nd, hl⟩ := m_bare_ex hR hp
  have hl2 : bs.length ≤ sizeLine := len_sig _ (by omega)
  have e3 := loopC_eq (t := .nm 2) (c := c_moves_1) (f := e_moves_2) (g := mvD) (r := mvD) (p := safeB R p) (ρ := [.im R.d, .im p.d, .no]) (xs := bs) (fun m hm => by
    obtain ⟨q, eA, okq, _⟩ := m_after_ex hR hp (h1 m hm)
    have eS := m_is_safe_eq hR okq hp.side
    refine ⟨[.im R.d, .im p.d, .im (mvD m)], rfl, ?_, fun _ => rfl⟩
    unfold safeB
    rw [eA]
    simp only []
    rw [eS]
    simp [c_moves_1, eA, eS])
  refine ⟨bs, e1, h1, hl, ?_, fun m hm => h1 m (List.mem_filter.mp hm).1, nd.filter _, Nat.lt_of_le_of_lt (List.length_filter_le _ _) hl⟩
  simp [m_moves, g_moves, e1, e3, hl2]
theorem verdict_loop (hR : RulesOk R) (hp : PlaceOk R p) {s2 s5 : SD} : ∀ (bs : List Mv) (rows : List D) (s4 : SD), (∀ m ∈ bs, MvOk R p m ∧ safeB R p m = false) → rows.length + bs.length < 1000 →
    ∃ (rows' : List D) (s4' : SD), loopF (.nm 4) b_verdict_1 (bs.map mvD) [.im R.d, .im p.d, s2, .ow rows, s4, s5] = some (.nx [.im R.d, .im p.d, s2, .ow rows', s4', s5])
  | [], rows, s4, _, _ => ⟨rows, s4, rfl⟩
  | m :: bs, rows, s4, h, hn => by
    obtain ⟨ok, hsafe⟩ := h m List.mem_cons_self
    obtain ⟨q, eA, okq, _⟩ := m_after_ex hR hp ok
    have eS := m_is_safe_eq hR okq hp.side
    have hu : (own q p.side).any (unsafeAt R q p.side) = true := by
      unfold safeB at hsafe
      rw [eA] at hsafe
      simp only [] at hsafe
      rw [eS] at hsafe
      simpa using hsafe
    obtain ⟨ls, eO, hO⟩ := m_attacks_on_ex hR okq hp.side
    have hO := hO hu
    obtain ⟨l, ls', rfl⟩ : ∃ l ls', ls = l :: ls' := by
      cases ls with
      | nil => simp at hO
      | cons l ls' => exact ⟨l, ls', rfl⟩
    have hl : rows.length < sizeLine := lt_sig _ (by omega)
    have h0 : dAt (.list (insD l :: ls'.map insD)) (.int 0) = some (insD l) := by simp [dAt, atI, ixN]
    obtain ⟨rows', s4', e⟩ := verdict_loop hR hp (s2 := s2) (s5 := s5) bs (rows ++ [.tuple [mvD m, insD l]]) (.im (mvD m)) (fun n hn => h n (List.mem_cons_of_mem _ hn)) (by simp at hn ⊢; omega)
    refine ⟨rows', s4', ?_⟩
    have eb : b_verdict_1 [.im R.d, .im p.d, s2, .ow rows, .im (mvD m), s5] = some (.nx [.im R.d, .im p.d, s2, .ow (rows ++ [.tuple [mvD m, insD l]]), .im (mvD m), s5]) := by
      simp [b_verdict_1, eA, eO, hl, h0]
    rw [List.map_cons, loopF_nx rfl eb]
    exact e
/-- what the verdict's first word says -/
theorem m_verdict_ex (hR : RulesOk R) (hp : PlaceOk R p) : ∃ ms : List Mv, Moves R p ms ∧ ∃ (w : Str) (rest : List D), m_verdict [R.d, p.d] = some (.tuple (.str w :: rest)) ∧ ((w = "on" ∧ ms ≠ []) ∨ ((w = "mated" ∨ w = "stuck") ∧ ms = [])) := by
  obtain ⟨bs, e1, h1, hl, M⟩ := m_moves_ex hR hp
  refine ⟨_, M, ?_⟩
  have e2 := M.eq
  generalize hms : bs.filter (safeB R p) = ms at e2
  cases ms with
  | cons m ms =>
    have h0 : dAt (.list (mvD m :: ms.map mvD)) (.int 0) = some (mvD m) := by simp [dAt, atI, ixN]
    exact ⟨"on", [mvD m], by simp [m_verdict, g_verdict, e2, h0], .inl ⟨rfl, by simp⟩⟩
  | nil =>
    have hall : ∀ m ∈ bs, MvOk R p m ∧ safeB R p m = false := fun m hm => ⟨h1 m hm, by
      cases hs : safeB R p m with
      | false => rfl
      | true =>
        have : m ∈ bs.filter (safeB R p) := List.mem_filter.mpr ⟨hm, hs⟩
        rw [hms] at this
        cases this⟩
    obtain ⟨rows, s4, e3⟩ := verdict_loop hR hp (s2 := .im (.list [])) (s5 := .no) bs [] .no hall (by simp; omega)
    obtain ⟨ls, eO, _⟩ := m_attacks_on_ex hR hp hp.side
    simp only [List.map_nil] at e2
    by_cases hn : 0 < ls.length
    · exact ⟨"mated", [.list (ls.map insD), .list rows], by simp [m_verdict, g_verdict, e1, e2, e3, eO, hn], .inr ⟨.inl rfl, rfl⟩⟩
    · exact ⟨"stuck", [.list rows], by simp [m_verdict, g_verdict, e1, e2, e3, eO, hn], .inr ⟨.inr rfl, rfl⟩⟩
end
end
end RB
set_option Elab.async false
set_option linter.all false
set_option maxRecDepth 100000
set_option maxHeartbeats 2000000
set_option autoImplicit false
/-! PU19: forms of moves. -/
namespace RB
open PySem PySem.Spec L2
noncomputable section
@[simp] theorem marksE_eq {f : FE} {ρ : Sl} : marksE f ρ = (f ρ).bind (strL fun z => (marks z).map .str) := by
  unfold marksE
  cases f ρ with
  | none => rfl
  | some d => cases d <;> rfl
@[simp] theorem str_len_app (x y : Str) : (x ++ y).length = x.length + y.length := by
  show (x.cps ++ y.cps).size = x.cps.size + y.cps.size
  simp
theorem empty_txt : ("" : Str) = txt [] := by decide +kernel
theorem x_txt : ("x" : Str) = txt [120] := by decide +kernel
theorem amp_txt : ("&" : Str) = txt [38] := by decide +kernel
theorem eq_txt : ("=" : Str) = txt [61] := by decide +kernel
theorem cols_txt : ("abcdefgh" : Str) = txt [97, 98, 99, 100, 101, 102, 103, 104] := by decide +kernel
theorem rows_txt : ("12345678" : Str) = txt [49, 50, 51, 52, 53, 54, 55, 56] := by decide +kernel
@[simp] theorem empty_len : ("" : Str).length = 0 := by decide +kernel
@[simp] theorem x_len : ("x" : Str).length = 1 := by decide +kernel
@[simp] theorem amp_len : ("&" : Str).length = 1 := by decide +kernel
@[simp] theorem eq_len : ("=" : Str).length = 1 := by decide +kernel
theorem col_tab : ∀ i < 8, [97, 98, 99, 100, 101, 102, 103, 104][i]? = some (97 + i) := by decide
theorem row_tab : ∀ i < 8, [49, 50, 51, 52, 53, 54, 55, 56][i]? = some (49 + i) := by decide
section
variable {R : Rules} {p : Place}
def colOf (R : Rules) (a : Nat) : Nat := 97 + a % R.wide
def rowOf (R : Rules) (a : Nat) : Nat := 49 + a / R.wide
theorem dAt_col (hR : RulesOk R) (a : Nat) : dAt (.str "abcdefgh") (.int ((a : Int) % R.wide)) = some (.str (ch (colOf R a))) := by
  have hw := hR.w
  have h : a % R.wide < R.wide := Nat.mod_lt _ (by omega)
  rw [cols_txt, show ((a : Int) % R.wide) = ((a % R.wide : Nat) : Int) by simp]
  exact atS (col_tab _ (by omega)) (by decide)
theorem div_lt (hR : RulesOk R) {a : Nat} (h : a < R.n) : a / R.wide < 3 := by
  have hw := hR.w
  have hh := hR.h
  have : a / R.wide < R.high := Nat.div_lt_of_lt_mul h
  omega
theorem dAt_row (hR : RulesOk R) {a : Nat} (h : a < R.n) : dAt (.str "12345678") (.int ((a : Int) / R.wide)) = some (.str (ch (rowOf R a))) := by
  have := div_lt hR h
  rw [rows_txt, show ((a : Int) / R.wide) = ((a / R.wide : Nat) : Int) by simp]
  exact atS (row_tab _ (by omega)) (by decide)
theorem m_name_of_eq (hR : RulesOk R) {a : Nat} (h : a < R.n) : m_name_of [R.b, .int (a : Int)] = some (.str (txt [colOf R a, rowOf R a])) := by
  have hw := hR.w
  have w1 : 0 < R.wide := hw.1
  have w2 : (R.wide : Int) < 1073741824 := by omega
  simp [m_name_of, g_name_of, w1, w2, dAt_col hR, dAt_row hR h]
  rfl
def markL (w : Str) : List Nat := if w = "go" then [] else if w = "pair" then [38] else [120]
def letL (l : Str) : List Nat := if l = "" then [] else 61 :: l.cps.toList
def headC (p : Place) (m : Mv) : Nat := low ((p.cells[m.at_]?).getD 0)
def tailL (R : Rules) (m : Mv) : List Nat := markL m.word ++ ([colOf R m.to, rowOf R m.to] ++ letL m.letter)
def fL (R : Rules) (p : Place) (m : Mv) : List (List Nat) := [headC p m :: tailL R m, headC p m :: colOf R m.at_ :: tailL R m, headC p m :: rowOf R m.at_ :: tailL R m, headC p m :: colOf R m.at_ :: rowOf R m.at_ :: tailL R m]
abbrev strD (l : List Nat) : D := .str (txt l)
theorem at0_txt {a b : Nat} : dAt (.str (txt [a, b])) (.int 0) = some (.str (ch a)) := atS (cs := [a, b]) (i := 0) rfl (by simp)
theorem at1_txt {a b : Nat} : dAt (.str (txt [a, b])) (.int 1) = some (.str (ch b)) := atS (cs := [a, b]) (i := 1) rfl (by simp)
@[simp] theorem txt_ne_ch {c : Nat} : ¬ (txt [] = ch c) := fun h => ch_ne_empty (by rw [← h, ← empty_txt])
theorem m_forms_eq (hR : RulesOk R) (hp : PlaceOk R p) {m : Mv} (hm : MvOk R p m) : m_forms [R.d, p.d, mvD m] = some (.list ((fL R p m).map strD)) := by
  obtain ⟨c, k, ec, hc, hpc, ek, hk, el, er, hsp, ea, eK⟩ := kind_at hR hp hm.own
  have e1 := m_name_of_eq hR (own_lt hR hp hm.own)
  have e2 := m_name_of_eq hR hm.to
  have eu : mvD m = .tuple [.int (m.at_ : Int), .int (m.to : Int), .str m.word, .str m.letter] := rfl
  have hh : headC p m = low c := by unfold headC; rw [ec]; rfl
  have hls := hm.let_.str
  unfold fL
  rw [hh, eu]
  have fin : ∀ (a b : List Nat), txt a ++ txt b = txt (a ++ b) := txt_app
  cases hm.word.four with
  | go e =>
    rcases hm.let_.is with e3 | ⟨l, e3, hl, _⟩
    · simp [m_forms, g_forms, ea, hc, e1, e2, e, e3, marks, loopC, e_forms_1, at0_txt, at1_txt, tailL, markL, letL, strD]
      simp [empty_txt, ch_txt, txt_app]
    · have hl2 : l < 200 := low200 hl
      simp [m_forms, g_forms, ea, hc, e1, e2, e, e3, hl2, marks, loopC, e_forms_1, at0_txt, at1_txt, tailL, markL, letL, strD]
      simp [empty_txt, eq_txt, ch_txt, txt_app]
  | take e =>
    rcases hm.let_.is with e3 | ⟨l, e3, hl, _⟩
    · simp [m_forms, g_forms, ea, hc, e1, e2, e, e3, marks, loopC, e_forms_1, at0_txt, at1_txt, tailL, markL, letL, strD]
      simp [empty_txt, x_txt, ch_txt, txt_app]
    · have hl2 : l < 200 := low200 hl
      simp [m_forms, g_forms, ea, hc, e1, e2, e, e3, hl2, marks, loopC, e_forms_1, at0_txt, at1_txt, tailL, markL, letL, strD]
      simp [empty_txt, eq_txt, x_txt, ch_txt, txt_app]
  | pass e =>
    rcases hm.let_.is with e3 | ⟨l, e3, hl, _⟩
    · simp [m_forms, g_forms, ea, hc, e1, e2, e, e3, marks, loopC, e_forms_1, at0_txt, at1_txt, tailL, markL, letL, strD]
      simp [empty_txt, x_txt, ch_txt, txt_app]
    · have hl2 : l < 200 := low200 hl
      simp [m_forms, g_forms, ea, hc, e1, e2, e, e3, hl2, marks, loopC, e_forms_1, at0_txt, at1_txt, tailL, markL, letL, strD]
      simp [empty_txt, eq_txt, x_txt, ch_txt, txt_app]
  | pair e =>
    rcases hm.let_.is with e3 | ⟨l, e3, hl, _⟩
    · simp [m_forms, g_forms, ea, hc, e1, e2, e, e3, marks, loopC, e_forms_1, at0_txt, at1_txt, tailL, markL, letL, strD]
      simp [empty_txt, amp_txt, ch_txt, txt_app]
    · have hl2 : l < 200 := low200 hl
      simp [m_forms, g_forms, ea, hc, e1, e2, e, e3, hl2, marks, loopC, e_forms_1, at0_txt, at1_txt, tailL, markL, letL, strD]
      simp [empty_txt, eq_txt, amp_txt, ch_txt, txt_app]
theorem m_lforms_eq (hR : RulesOk R) (hp : PlaceOk R p) {m : Mv} (hm : MvOk R p m) : m__law_forms [R.d, p.d, mvD m] = some (.list ((fL R p m).map strD)) := by
  obtain ⟨c, k, ec, hc, hpc, ek, hk, el, er, hsp, ea, eK⟩ := kind_at hR hp hm.own
  have hat := own_lt hR hp hm.own
  have eu : mvD m = .tuple [.int (m.at_ : Int), .int (m.to : Int), .str m.word, .str m.letter] := rfl
  have hh : headC p m = low c := by unfold headC; rw [ec]; rfl
  have hls := hm.let_.str
  have hw := hR.w
  have w1 : 0 < R.wide := hw.1
  have w2 : (R.wide : Int) < 1073741824 := by omega
  unfold fL
  rw [hh, eu]
  cases hm.word.four with
  | go e =>
    rcases hm.let_.is with e3 | ⟨l, e3, hl, _⟩
    · simp [m__law_forms, g__law_forms, ea, hc, e, e3, w1, w2, dAt_col hR, dAt_row hR hat, dAt_row hR hm.to, tailL, markL, letL, strD]
      simp [ch_txt, txt_app]
    · have hl2 : l < 200 := low200 hl
      simp [m__law_forms, g__law_forms, ea, hc, e, e3, hl2, w1, w2, dAt_col hR, dAt_row hR hat, dAt_row hR hm.to, tailL, markL, letL, strD]
      simp [eq_txt, ch_txt, txt_app]
  | take e =>
    rcases hm.let_.is with e3 | ⟨l, e3, hl, _⟩
    · simp [m__law_forms, g__law_forms, ea, hc, e, e3, w1, w2, dAt_col hR, dAt_row hR hat, dAt_row hR hm.to, tailL, markL, letL, strD]
      simp [x_txt, ch_txt, txt_app]
    · have hl2 : l < 200 := low200 hl
      simp [m__law_forms, g__law_forms, ea, hc, e, e3, hl2, w1, w2, dAt_col hR, dAt_row hR hat, dAt_row hR hm.to, tailL, markL, letL, strD]
      simp [eq_txt, x_txt, ch_txt, txt_app]
  | pass e =>
    rcases hm.let_.is with e3 | ⟨l, e3, hl, _⟩
    · simp [m__law_forms, g__law_forms, ea, hc, e, e3, w1, w2, dAt_col hR, dAt_row hR hat, dAt_row hR hm.to, tailL, markL, letL, strD]
      simp [x_txt, ch_txt, txt_app]
    · have hl2 : l < 200 := low200 hl
      simp [m__law_forms, g__law_forms, ea, hc, e, e3, hl2, w1, w2, dAt_col hR, dAt_row hR hat, dAt_row hR hm.to, tailL, markL, letL, strD]
      simp [eq_txt, x_txt, ch_txt, txt_app]
  | pair e =>
    rcases hm.let_.is with e3 | ⟨l, e3, hl, _⟩
    · simp [m__law_forms, g__law_forms, ea, hc, e, e3, w1, w2, dAt_col hR, dAt_row hR hat, dAt_row hR hm.to, tailL, markL, letL, strD]
      simp [amp_txt, ch_txt, txt_app]
    · have hl2 : l < 200 := low200 hl
      simp [m__law_forms, g__law_forms, ea, hc, e, e3, hl2, w1, w2, dAt_col hR, dAt_row hR hat, dAt_row hR hm.to, tailL, markL, letL, strD]
      simp [eq_txt, amp_txt, ch_txt, txt_app]
end
end
end RB
set_option Elab.async false
set_option linter.all false
set_option maxRecDepth 100000
set_option maxHeartbeats 2000000
set_option autoImplicit false
/-! PU20: a full form tells one move alone; short forms and how they are read. -/
namespace RB
open PySem PySem.Spec L2
noncomputable section
@[simp] theorem txt_inj {a b : List Nat} : txt a = txt b ↔ a = b := by
  constructor
  · intro h
    have := congrArg (fun z : Str => z.cps.toList) h
    simpa using this
  · intro h; rw [h]
section
variable {R : Rules} {p : Place}
theorem col_range (hR : RulesOk R) (a : Nat) : 97 ≤ colOf R a ∧ colOf R a ≤ 100 := by
  have hw := hR.w
  have h : a % R.wide < R.wide := Nat.mod_lt _ (by omega)
  unfold colOf
  omega
theorem row_range (hR : RulesOk R) {a : Nat} (h : a < R.n) : 49 ≤ rowOf R a ∧ rowOf R a ≤ 51 := by
  have h1 := div_lt hR h
  unfold rowOf
  generalize a / R.wide = q at h1 ⊢
  omega
theorem at_inj (hR : RulesOk R) {a b : Nat} (h1 : colOf R a = colOf R b) (h2 : rowOf R a = rowOf R b) : a = b := by
  unfold colOf at h1
  unfold rowOf at h2
  have e1 := Nat.div_add_mod a R.wide
  have e2 := Nat.div_add_mod b R.wide
  have h3 : a / R.wide = b / R.wide := by omega
  rw [h3] at e1
  omega
def Mk3 (k : List Nat) : Prop := k = [] ∨ k = [38] ∨ k = [120]
theorem markL_ok {w : Str} (h : Word4 w) : Mk3 (markL w) := by
  unfold markL Mk3
  cases h with
  | go e => rw [e]; simp
  | take e => rw [e]; simp
  | pass e => rw [e]; simp
  | pair e => rw [e]; simp
def Lt2 (k : List Nat) : Prop := k = [] ∨ ∃ l, k = [61, l]
theorem letL_ok {l : Str} (h : LetOk R l) : Lt2 (letL l) := by
  unfold letL Lt2
  rcases h.is with e | ⟨c, e, _⟩
  · rw [e]; simp
  · rw [e]; simp
theorem letL_inj {l l' : Str} (h : LetOk R l) (h' : LetOk R l') (e : letL l = letL l') : l = l' := by
  unfold letL at e
  rcases h.is with e1 | ⟨c, e1, _⟩ <;> rcases h'.is with e2 | ⟨c', e2, _⟩
  · rw [e1, e2]
  · rw [e1, e2] at e; simp at e
  · rw [e1, e2] at e; simp at e
  · rw [e1, e2] at e
    simp at e
    rw [e1, e2, e]
theorem tail_inj {mk mk' lt lt' : List Nat} {C R C' R' : Nat} (h : Mk3 mk) (h' : Mk3 mk') (hC : 97 ≤ C ∧ C ≤ 100) (hC' : 97 ≤ C' ∧ C' ≤ 100) (e : mk ++ ([C, R] ++ lt) = mk' ++ ([C', R'] ++ lt')) : mk = mk' ∧ C = C' ∧ R = R' ∧ lt = lt' := by
  rcases h with rfl | rfl | rfl <;> rcases h' with rfl | rfl | rfl <;> simp at e ⊢ <;> first | exact e | omega
theorem tail_head {mk lt : List Nat} {C R x : Nat} {r : List Nat} (h : Mk3 mk) (hC : 97 ≤ C ∧ C ≤ 100) (e : mk ++ ([C, R] ++ lt) = x :: r) : x = 38 ∨ x = 120 ∨ (97 ≤ x ∧ x ≤ 100 ∧ mk = [] ∧ r = R :: lt) := by
  rcases h with rfl | rfl | rfl <;> simp at e
  · right; right; exact ⟨by omega, by omega, rfl, e.2.symm⟩
  · left; omega
  · right; left; omega
def fullL (R : Rules) (p : Place) (m : Mv) : List Nat := headC p m :: colOf R m.at_ :: rowOf R m.at_ :: tailL R m
theorem full_unique (hR : RulesOk R) (hp : PlaceOk R p) {m m' : Mv} (hm : MvOk R p m) (hm' : MvOk R p m') (h : fullL R p m ∈ fL R p m') : m = m' := by
  have c1 := col_range hR m.at_
  have c2 := col_range hR m'.at_
  have c3 := col_range hR m.to
  have c4 := col_range hR m'.to
  have r1 := row_range hR (own_lt hR hp hm.own)
  have r2 := row_range hR (own_lt hR hp hm'.own)
  have k1 := markL_ok hm.word.four
  have k2 := markL_ok hm'.word.four
  have l1 := letL_ok hm.let_
  have l2 := letL_ok hm'.let_
  unfold fL at h
  simp only [List.mem_cons, List.not_mem_nil, or_false] at h
  unfold fullL at h
  rcases h with h | h | h | h
  · exfalso
    simp only [List.cons.injEq] at h
    have e := h.2.symm
    unfold tailL at e
    rcases tail_head k2 c4 e with z | z | ⟨_, _, _, z⟩
    · omega
    · omega
    · simp only [List.cons.injEq] at z
      have z2 := z.2
      rcases l2 with y | ⟨l, y⟩
      · rw [y] at z2
        have := congrArg List.length z2
        simp at this
      · rw [y] at z2
        rcases tail_head k1 c3 z2 with y | y | y <;> omega
  · exfalso
    simp only [List.cons.injEq] at h
    have e := h.2.2.symm
    unfold tailL at e
    rcases tail_head k2 c4 e with z | z | z <;> omega
  · exfalso
    simp only [List.cons.injEq] at h
    omega
  · simp only [List.cons.injEq] at h
    obtain ⟨_, h1, h2, h3⟩ := h
    have ea := at_inj hR h1 h2
    unfold tailL at h3
    obtain ⟨e1, e2, e3, e4⟩ := tail_inj k1 k2 c3 c4 h3
    have et := at_inj hR e2 e3
    have el := letL_inj hm.let_ hm'.let_ e4
    have ew : m.word = m'.word := by
      cases hm.word with
      | go w1 _ => cases hm'.word with
        | go w2 _ => rw [w1, w2]
        | take _ w2 _ _ _ => rw [w1, w2] at e1; simp [markL] at e1
        | pass _ w2 _ _ => rw [w1, w2] at e1; simp [markL] at e1
        | pair _ _ w2 _ _ _ _ => rw [w1, w2] at e1; simp [markL] at e1
      | take _ w1 a1 a2 _ => cases hm'.word with
        | go w2 _ => rw [w1, w2] at e1; simp [markL] at e1
        | take _ w2 _ _ _ => rw [w1, w2]
        | pass _ w2 b1 _ => rw [et, b1] at a1; cases a1; exact absurd rfl a2
        | pair _ _ w2 _ _ _ _ => rw [w1, w2] at e1; simp [markL] at e1
      | pass _ w1 a1 _ => cases hm'.word with
        | go w2 _ => rw [w1, w2] at e1; simp [markL] at e1
        | take _ w2 b1 b2 _ => rw [← et, a1] at b1; cases b1; exact absurd rfl b2
        | pass _ w2 _ _ => rw [w1, w2]
        | pair _ _ w2 _ _ _ _ => rw [w1, w2] at e1; simp [markL] at e1
      | pair _ _ w1 _ _ _ _ => cases hm'.word with
        | go w2 _ => rw [w1, w2] at e1; simp [markL] at e1
        | take _ w2 _ _ _ => rw [w1, w2] at e1; simp [markL] at e1
        | pass _ w2 _ _ => rw [w1, w2] at e1; simp [markL] at e1
        | pair _ _ w2 _ _ _ _ => rw [w1, w2]
    cases m
    cases m'
    simp only [Mv.mk.injEq]
    exact ⟨ea, et, ew, el⟩
/-! ### listed moves -/
def listD (R : Rules) (p : Place) (m : Mv) : D := .tuple [mvD m, .list ((fL R p m).map strD)]
def tellsB (R : Rules) (p : Place) (t : List Nat) (m : Mv) : Bool := decide (t ∈ fL R p m)
theorem form_chars (hR : RulesOk R) (hp : PlaceOk R p) {m : Mv} (hm : MvOk R p m) {t : List Nat} (ht : t ∈ fL R p m) : ∀ c ∈ t, c < 200 ∧ c ≠ 32 := by
  obtain ⟨c, k, ec, hc, hpc, ek, hk, el, er, hsp, ea, eK⟩ := kind_at hR hp hm.own
  have hh : headC p m = low c := by unfold headC; rw [ec]; rfl
  have hlow := low_lt hc
  have hlow2 : isLow (low c) = true := isLow_low hpc
  have hl3 : 97 ≤ low c := by unfold isLow at hlow2; simp at hlow2; omega
  have c1 := col_range hR m.at_
  have c3 := col_range hR m.to
  have r1 := row_range hR (own_lt hR hp hm.own)
  have r3 := row_range hR hm.to
  have tl : ∀ x ∈ tailL R m, x < 200 ∧ x ≠ 32 := fun x hx => by
    unfold tailL at hx
    simp only [List.mem_append, List.mem_cons, List.not_mem_nil, or_false] at hx
    rcases hx with hx | (hx | hx) | hx
    · rcases markL_ok hm.word.four with e | e | e <;> rw [e] at hx <;> simp at hx <;> omega
    · omega
    · omega
    · unfold letL at hx
      rcases hm.let_.is with e | ⟨l, e, hl, _⟩
      · rw [e] at hx; simp at hx
      · rw [e] at hx
        simp at hx
        have : l < 200 ∧ 97 ≤ l := by unfold isLow at hl; simp at hl; omega
        omega
  unfold fL at ht
  simp only [List.mem_cons, List.not_mem_nil, or_false] at ht
  intro x hx
  rcases ht with e | e | e | e <;> subst e <;> simp only [List.mem_cons] at hx
  · rcases hx with hx | hx
    · omega
    · exact tl x hx
  · rcases hx with hx | hx | hx
    · omega
    · omega
    · exact tl x hx
  · rcases hx with hx | hx | hx
    · omega
    · omega
    · exact tl x hx
  · rcases hx with hx | hx | hx | hx
    · omega
    · omega
    · omega
    · exact tl x hx
theorem forms_ok (hR : RulesOk R) (hp : PlaceOk R p) {m : Mv} (hm : MvOk R p m) : okD (.list ((fL R p m).map strD)) = true := (GoodD.list (n := 0) fun d hd => by
  obtain ⟨t, ht, rfl⟩ := List.mem_map.mp hd
  exact good_str (ok_txt fun c hc => (form_chars hR hp hm ht c hc).1)).ok (by decide)
theorem inD_forms (t : List Nat) : ∀ ls : List (List Nat), inD (strD t) (ls.map strD) = decide (t ∈ ls)
  | [] => rfl
  | l :: ls => by
    have ih := inD_forms t ls
    unfold inD at ih ⊢
    rw [List.map_cons, List.any_cons, ih]
    have e : PyData.eqv (strD l) (strD t) = decide (t = l) := by
      show (txt l == txt t) = decide (t = l)
      by_cases h : t = l
      · subst h; simp
      · have : ¬ txt l = txt t := fun z => h (txt_inj.mp z).symm
        simp [h, this]
    rw [e]
    by_cases h : t = l <;> simp [h]
theorem dIn_sl {x : Str} {ds : List D} (h1 : okD (.str x) = true) (h2 : okD (.list ds) = true) : dIn (.str x) (.list ds) = some (.bool (inD (.str x) ds)) := by
  show (if okD (.str x) = true ∧ okD (.list ds) = true then some (PyData.bool (id (inD (.str x) ds))) else none) = _
  rw [if_pos ⟨h1, h2⟩]
  rfl
theorem m_told_by_eq (hR : RulesOk R) (hp : PlaceOk R p) {ms : List Mv} (M : Moves R p ms) {t : List Nat} (ht : ∀ c ∈ t, c < 200) : m_told_by [.list (ms.map (listD R p)), strD t] = some (.list ((ms.filter (tellsB R p t)).map mvD)) := by
  have hl : ms.length ≤ sizeLine := len_sig _ (by have := M.few; omega)
  have e := loopC_eq (t := .tp [2, 3]) (c := c_told_by_1) (f := e_told_by_2) (g := listD R p) (r := mvD) (p := tellsB R p t) (ρ := [.im (.list (ms.map (listD R p))), .im (strD t), .no, .no]) (xs := ms) (fun m hm => by
    have eI := dIn_sl (x := txt t) (okD_str (ok_txt ht)) (forms_ok hR hp (M.ok m hm))
    rw [show (PyData.str (txt t)) = strD t from rfl, inD_forms] at eI
    refine ⟨[.im (.list (ms.map (listD R p))), .im (strD t), .im (mvD m), .im (.list ((fL R p m).map strD))], rfl, ?_, fun _ => rfl⟩
    simp [c_told_by_1, eI, tellsB])
  simp [m_told_by, g_told_by, e, hl]
theorem m_all_forms_eq (hR : RulesOk R) (hp : PlaceOk R p) {ms : List Mv} (M : Moves R p ms) : m_all_forms [R.d, p.d] = some (.list (ms.map (listD R p))) := by
  have hl : ms.length ≤ sizeLine := len_sig _ (by have := M.few; omega)
  have e := loopC_eq (t := .nm 2) (c := yesT) (f := e_all_forms_1) (g := mvD) (r := listD R p) (p := fun _ => true) (ρ := [.im R.d, .im p.d, .no]) (xs := ms) (fun m hm => by
    have eF := m_forms_eq hR hp (M.ok m hm)
    refine ⟨[.im R.d, .im p.d, .im (mvD m)], rfl, rfl, fun _ => ?_⟩
    simp [e_all_forms_1, eF, listD])
  rw [List.filter_eq_self.mpr fun _ _ => rfl] at e
  simp [m_all_forms, g_all_forms, M.eq, e, hl]
theorem m_listed_eq (hR : RulesOk R) (hp : PlaceOk R p) {ms : List Mv} (M : Moves R p ms) : m__law_listed [R.d, p.d] = some (.list (ms.map (listD R p))) := by
  have hl : ms.length ≤ sizeLine := len_sig _ (by have := M.few; omega)
  have e := loopC_eq (t := .nm 2) (c := yesT) (f := e__law_listed_1) (g := mvD) (r := listD R p) (p := fun _ => true) (ρ := [.im R.d, .im p.d, .no]) (xs := ms) (fun m hm => by
    have eF := m_lforms_eq hR hp (M.ok m hm)
    refine ⟨[.im R.d, .im p.d, .im (mvD m)], rfl, rfl, fun _ => ?_⟩
    simp [e__law_listed_1, eF, listD])
  rw [List.filter_eq_self.mpr fun _ _ => rfl] at e
  simp [m__law_listed, g__law_listed, M.eq, e, hl]
theorem filter_one {α : Type} {q : α → Bool} {a : α} : ∀ {l : List α}, l.Nodup → a ∈ l → q a = true → (∀ b ∈ l, q b = true → b = a) → l.filter q = [a]
  | [], _, h, _, _ => nomatch h
  | x :: l, nd, h, hq, hu => by
    have nd' := List.nodup_cons.mp nd
    by_cases hx : x = a
    · subst hx
      rw [List.filter_cons_of_pos hq]
      congr 1
      rw [List.filter_eq_nil_iff]
      intro b hb hqb
      have := hu b (List.mem_cons_of_mem _ hb) hqb
      subst this
      exact nd'.1 hb
    · have hqx : ¬ q x = true := fun z => hx (hu x List.mem_cons_self z)
      rw [List.filter_cons_of_neg hqx]
      exact filter_one nd'.2 ((List.mem_cons.mp h).resolve_left fun z => hx z.symm) hq fun b hb => hu b (List.mem_cons_of_mem _ hb)
theorem full_tells (hR : RulesOk R) (hp : PlaceOk R p) {ms : List Mv} (M : Moves R p ms) {m : Mv} (hm : m ∈ ms) : ms.filter (tellsB R p (fullL R p m)) = [m] := by
  refine filter_one M.nd hm (by unfold tellsB; rw [decide_eq_true_eq]; unfold fL fullL; simp) fun b hb h => ?_
  unfold tellsB at h
  rw [decide_eq_true_eq] at h
  exact (full_unique hR hp (M.ok m hm) (M.ok b hb) h).symm
/-- the short form -/
def aloneB (R : Rules) (p : Place) (ms : List Mv) (t : List Nat) : Bool := decide ((ms.filter (tellsB R p t)).length = 1)
def shortL (R : Rules) (p : Place) (ms : List Mv) (m : Mv) : List Nat := ((fL R p m).find? (aloneB R p ms)).getD []
theorem short_find (hR : RulesOk R) (hp : PlaceOk R p) {ms : List Mv} (M : Moves R p ms) {m : Mv} (hm : m ∈ ms) : (fL R p m).find? (aloneB R p ms) = some (shortL R p ms m) ∧ shortL R p ms m ∈ fL R p m ∧ ms.filter (tellsB R p (shortL R p ms m)) = [m] := by
  have hf : fullL R p m ∈ fL R p m := by unfold fL fullL; simp
  have ha : aloneB R p ms (fullL R p m) = true := by unfold aloneB; rw [full_tells hR hp M hm]; rfl
  unfold shortL
  cases e : (fL R p m).find? (aloneB R p ms) with
  | none => exact absurd ha (by simpa using List.find?_eq_none.mp e _ hf)
  | some t =>
    have h1 := List.mem_of_find?_eq_some e
    have h2 := List.find?_some e
    refine ⟨rfl, h1, ?_⟩
    simp only [Option.getD_some]
    unfold aloneB at h2
    rw [decide_eq_true_eq] at h2
    have h3 : m ∈ ms.filter (tellsB R p t) := List.mem_filter.mpr ⟨hm, by unfold tellsB; rw [decide_eq_true_eq]; exact h1⟩
    match hL : ms.filter (tellsB R p t), h2, h3 with
    | [x], _, h3 => rw [List.mem_singleton.mp h3]
end
end
end RB
set_option Elab.async false
set_option linter.all false
set_option maxRecDepth 100000
set_option maxHeartbeats 2000000
set_option autoImplicit false
/-! PU21: short, read_short and the law's own. -/
namespace RB
open PySem PySem.Spec L2
noncomputable section
section
variable {R : Rules} {p : Place}
theorem good_mv {m : Mv} (hm : MvOk R p m) : GoodD 1 (mvD m) := .tuple fun d hd => by
  simp only [List.mem_cons, List.not_mem_nil, or_false] at hd
  rcases hd with rfl | rfl | rfl | rfl
  · exact good_int
  · exact good_int
  · exact good_str hm.word.four.str
  · exact good_str hm.let_.str
theorem dNotIn_tl {xs ds : List D} (h1 : okD (.tuple xs) = true) (h2 : okD (.list ds) = true) : dNotIn (.tuple xs) (.list ds) = some (.bool (!inD (.tuple xs) ds)) := by
  show (if okD (.tuple xs) = true ∧ okD (.list ds) = true then some (PyData.bool (not (inD (.tuple xs) ds))) else none) = _
  rw [if_pos ⟨h1, h2⟩]
theorem eqv_mv (m : Mv) : PyData.eqv (mvD m) (mvD m) = true := by simp [mvD, PyData.eqv, PyData.eqvAll]
theorem notIn_moves {ms : List Mv} (M : Moves R p ms) {m : Mv} (hm : m ∈ ms) : dNotIn (mvD m) (.list (ms.map mvD)) = some (.bool false) := by
  have h1 : okD (mvD m) = true := (good_mv (M.ok m hm)).ok (by decide)
  have h2 : okD (.list (ms.map mvD)) = true := (GoodD.list (n := 1) fun d hd => by
    obtain ⟨q, hq, rfl⟩ := List.mem_map.mp hd
    exact good_mv (M.ok q hq)).ok (by decide)
  have e := dNotIn_tl (xs := [.int (m.at_ : Int), .int (m.to : Int), .str m.word, .str m.letter]) h1 h2
  have hin : inD (mvD m) (ms.map mvD) = true := by
    unfold inD
    rw [List.any_eq_true]
    exact ⟨mvD m, List.mem_map.mpr ⟨m, hm, rfl⟩, eqv_mv m⟩
  show dNotIn (.tuple _) _ = _
  rw [e]
  show some (PyData.bool (!inD (mvD m) (ms.map mvD))) = _
  rw [hin]
  rfl
theorem m_short_eq (hR : RulesOk R) (hp : PlaceOk R p) {ms : List Mv} (M : Moves R p ms) {m : Mv} (hm : m ∈ ms) : m_short [R.d, p.d, mvD m] = some (strD (shortL R p ms m)) := by
  have e1 := m_all_forms_eq hR hp M
  have e2 := m_forms_eq hR hp (M.ok m hm)
  have e3 := notIn_moves M hm
  have hl : ms.length ≤ sizeLine := len_sig _ (by have := M.few; omega)
  have e4 := loopC_eq (t := .tp [6, 4]) (c := yesT) (f := e_short_1) (g := listD R p) (r := mvD) (p := fun _ => true) (ρ := [.im R.d, .im p.d, .im (mvD m), .im (.list (ms.map (listD R p))), .no, .no, .no]) (xs := ms) (fun q hq => ⟨[.im R.d, .im p.d, .im (mvD m), .im (.list (ms.map (listD R p))), .im (.list ((fL R p q).map strD)), .no, .im (mvD q)], rfl, rfl, fun _ => rfl⟩)
  rw [List.filter_eq_self.mpr fun _ _ => rfl] at e4
  obtain ⟨s1, s2, s3⟩ := short_find hR hp M hm
  have key := loopF_find (t := .nm 5) (b := b_short_2) (g := strD) (r := strD) (p := aloneB R p ms) (fun ρ => ∃ v, ρ = [.im R.d, .im p.d, .im (mvD m), .im (.list (ms.map (listD R p))), .im (.list ((fL R p m).map strD)), v, .no]) (xs := fL R p m) (ρ := [.im R.d, .im p.d, .im (mvD m), .im (.list (ms.map (listD R p))), .im (.list ((fL R p m).map strD)), .no, .no]) (fun t ht ρ ⟨v, e⟩ => by
    subst e
    have eT := m_told_by_eq hR hp M (t := t) fun c hc => (form_chars hR hp (M.ok m hm) ht c hc).1
    have eT' : m_told_by [.list (ms.map (listD R p)), .str (txt t)] = some (.list ((ms.filter (tellsB R p t)).map mvD)) := eT
    refine ⟨[.im R.d, .im p.d, .im (mvD m), .im (.list (ms.map (listD R p))), .im (.list ((fL R p m).map strD)), .im (strD t), .no], rfl, ?_⟩
    unfold aloneB
    by_cases h1 : (ms.filter (tellsB R p t)).length = 1
    · right
      refine ⟨by simp [h1], ?_⟩
      simp [b_short_2, strD, eT', h1]
    · left
      refine ⟨by simp [h1], [.im R.d, .im p.d, .im (mvD m), .im (.list (ms.map (listD R p))), .im (.list ((fL R p m).map strD)), .im (strD t), .no], .inl ?_, _, rfl⟩
      have h2 : ¬ ((ms.filter (tellsB R p t)).length : Int) = 1 := by omega
      simp [b_short_2, strD, eT', h2]) ⟨_, rfl⟩
  rcases key with ⟨t, ef, eL⟩ | ⟨ef, _⟩
  · rw [s1] at ef
    cases ef
    simp only [strD] at eL e2
    simp [m_short, g_short, e1, e2, e3, e4, hl, eL, strD]
  · rw [s1] at ef
    cases ef
theorem m_read_short_eq (hR : RulesOk R) (hp : PlaceOk R p) {ms : List Mv} (M : Moves R p ms) {m : Mv} {t : List Nat} (ht : ∀ c ∈ t, c < 200) (h : ms.filter (tellsB R p t) = [m]) : m_read_short [R.d, p.d, strD t] = some (mvD m) := by
  have e1 := m_all_forms_eq hR hp M
  have e2 := m_told_by_eq hR hp M ht
  rw [h] at e2
  have e2' : m_told_by [.list (ms.map (listD R p)), .str (txt t)] = some (.list [mvD m]) := e2
  have h0 : dAt (.list [mvD m]) (.int 0) = some (mvD m) := by simp [dAt, atI, ixN]
  simp [m_read_short, g_read_short, e1, e2', strD, h0]
theorem m_alone_eq (hR : RulesOk R) (hp : PlaceOk R p) {ms : List Mv} (M : Moves R p ms) {t : List Nat} (ht : ∀ c ∈ t, c < 200) : m__law_alone [.list (ms.map (listD R p)), strD t] = some (.bool (aloneB R p ms t)) := by
  have hl : ms.length ≤ sizeLine := len_sig _ (by have := M.few; omega)
  have e := loopC_eq (t := .tp [2, 3]) (c := c__law_alone_1) (f := e__law_alone_2) (g := listD R p) (r := mvD) (p := tellsB R p t) (ρ := [.im (.list (ms.map (listD R p))), .im (strD t), .no, .no]) (xs := ms) (fun m hm => by
    have eI := dIn_sl (x := txt t) (okD_str (ok_txt ht)) (forms_ok hR hp (M.ok m hm))
    rw [show (PyData.str (txt t)) = strD t from rfl, inD_forms] at eI
    refine ⟨[.im (.list (ms.map (listD R p))), .im (strD t), .im (mvD m), .im (.list ((fL R p m).map strD))], rfl, ?_, fun _ => rfl⟩
    simp [c__law_alone_1, eI, tellsB])
  have e' : decide (((ms.filter (tellsB R p t)).length : Int) = 1) = aloneB R p ms t := by
    unfold aloneB
    rw [decide_eq_decide]
    omega
  simp [m__law_alone, g__law_alone, e, hl]
  exact e'
theorem at_list {ds : List D} {i : Nat} {d : D} (h : ds[i]? = some d) : dAt (.list ds) (.int (i : Int)) = some d := by
  have hi := (List.getElem?_eq_some_iff.mp h).1
  show (ixN ds.length (i : Int)).bind _ = _
  unfold ixN
  rw [if_pos (by omega), if_pos (by omega)]
  show ds[(i : Int).toNat]? = some d
  rw [Int.toNat_natCast]
  exact h
theorem m_lshort_eq (hR : RulesOk R) (hp : PlaceOk R p) {ms : List Mv} (M : Moves R p ms) {m : Mv} {i : Nat} (hi : ms[i]? = some m) : m__law_short [.list (ms.map (listD R p)), .int (i : Int)] = some (strD (shortL R p ms m)) := by
  have hm := List.mem_of_getElem? hi
  have e1 : dAt (.list (ms.map (listD R p))) (.int (i : Int)) = some (listD R p m) := at_list (by rw [List.getElem?_map, hi]; rfl)
  have e2 : dAt (listD R p m) (.int 1) = some (.list ((fL R p m).map strD)) := by unfold listD; simp
  obtain ⟨s1, s2, s3⟩ := short_find hR hp M hm
  have key := loopF_find (t := .nm 2) (b := b__law_short_1) (g := strD) (r := strD) (p := aloneB R p ms) (fun ρ => ∃ v, ρ = [.im (.list (ms.map (listD R p))), .im (.int (i : Int)), v]) (xs := fL R p m) (ρ := [.im (.list (ms.map (listD R p))), .im (.int (i : Int)), .no]) (fun t ht ρ ⟨v, e⟩ => by
    subst e
    have eT := m_alone_eq hR hp M (t := t) fun c hc => (form_chars hR hp (M.ok m hm) ht c hc).1
    refine ⟨[.im (.list (ms.map (listD R p))), .im (.int (i : Int)), .im (strD t)], rfl, ?_⟩
    simp only [strD] at eT ⊢
    cases ha : aloneB R p ms t with
    | true =>
      rw [ha] at eT
      right
      refine ⟨rfl, ?_⟩
      simp [b__law_short_1, eT]
    | false =>
      rw [ha] at eT
      left
      refine ⟨rfl, [.im (.list (ms.map (listD R p))), .im (.int (i : Int)), .im (.str (txt t))], .inl ?_, _, rfl⟩
      simp [b__law_short_1, eT]) ⟨_, rfl⟩
  rcases key with ⟨t, ef, eL⟩ | ⟨ef, _⟩
  · rw [s1] at ef
    cases ef
    simp only [strD] at eL e2
    simp [m__law_short, g__law_short, e1, e2, eL, strD]
  · rw [s1] at ef
    cases ef
end
end
end RB
set_option Elab.async false
set_option linter.all false
set_option maxRecDepth 100000
set_option maxHeartbeats 2000000
set_option autoImplicit false
/-! PU22: the law's own squares, and the move it chooses. -/
namespace RB
open PySem PySem.Spec L2
noncomputable section
theorem smallI_nat {n : Nat} (h : n < 1000000) : smallI (n : Int) = true := by
  unfold smallI
  rw [decide_eq_true_eq]
  omega
theorem rngD0 (n : Nat) : rngD 0 n = (List.range n).map fun (k : Nat) => PyData.int (k : Int) := by
  unfold rngD
  refine List.map_congr_left fun k _ => ?_
  rw [Int.zero_add]
theorem rng1_len {f : FE} {ρ : Sl} {n : Nat} (h : f ρ = some (.int (n : Int))) (hn : n < 1000000) : rng1I f ρ = some (natsD (List.range n)) := by
  unfold rng1I
  rw [h]
  simp only [Option.bind_some, asI_int]
  rw [if_pos (smallI_nat hn), Int.toNat_natCast, rngD0]
def ownP (side : Nat) (c : Nat) : Bool := decide (¬ c = 46) && (decide (¬ c = 35) && (isLow c == decide (side = 1)))
section
variable {R : Rules} {p : Place}
theorem lawown_loop {cs : List Nat} (h : ∀ c ∈ cs, c < 128) (hl : cs.length ≤ 1000) {side : Nat} : ∀ (xs : List Nat) (ys : List Nat) (s3 : SD), (∀ x ∈ xs, x < cs.length) → ys.length + xs.length < 10000 →
    ∃ s3' : SD, loopF (.nm 3) b__law_own_1 (natsD xs) [.im (.str (txt cs)), .im (.int (side : Int)), .ow (natsD ys), s3] = some (.nx [.im (.str (txt cs)), .im (.int (side : Int)), .ow (natsD (ys ++ xs.filter fun i => ownP side (cs.getD i 0))), s3'])
  | [], ys, s3, _, _ => ⟨s3, by simp [loopF]⟩
  | x :: xs, ys, s3, hx, hn => by
    have hx0 := hx x List.mem_cons_self
    have ec : cs[x]? = some cs[x] := List.getElem?_eq_getElem hx0
    have hc := h cs[x] (List.getElem_mem hx0)
    have ea := atS ec hl
    have hc2 : cs[x] < 200 := by omega
    have eg : cs.getD x 0 = cs[x] := by simp [List.getD, ec]
    generalize cs[x] = c at ec hc ea hc2 eg
    have e1 : decide ((side : Int) = 1) = decide (side = 1) := by rw [decide_eq_decide]; omega
    have hlen : ys.length < sizeLine := lt_sig _ (by simp at hn; omega)
    have eb : b__law_own_1 [.im (.str (txt cs)), .im (.int (side : Int)), .ow (natsD ys), .im (.int (x : Int))] = some (.nx [.im (.str (txt cs)), .im (.int (side : Int)), .ow (natsD (ys ++ if ownP side c = true then [x] else [])), .im (.int (x : Int))]) := by
      by_cases h46 : c = 46
      · simp [b__law_own_1, ea, dot_ch, hc2, h46, ownP]
      · by_cases h35 : c = 35
        · simp [b__law_own_1, ea, dot_ch, hash_ch, hc2, h35, ownP]
        · by_cases hlw : isLow c = decide (side = 1)
          · simp [b__law_own_1, ea, dot_ch, hash_ch, hc, hc2, h46, h35, ownP, hlw, e1, hlen]
          · simp [b__law_own_1, ea, dot_ch, hash_ch, hc, hc2, h46, h35, ownP, hlw, e1]
    obtain ⟨s3', e⟩ := lawown_loop h hl (side := side) xs (ys ++ if ownP side c = true then [x] else []) (.im (.int (x : Int))) (fun y hy => hx y (List.mem_cons_of_mem _ hy)) (by
      have : (if ownP side c = true then [x] else []).length ≤ 1 := by split <;> simp
      simp only [List.length_append, List.length_cons] at hn ⊢
      omega)
    refine ⟨s3', ?_⟩
    show loopF (.nm 3) b__law_own_1 (PyData.int (x : Int) :: natsD xs) _ = _
    rw [loopF_nx rfl eb, e]
    rw [List.filter_cons, eg]
    by_cases ho : ownP side c = true
    · simp [ho]
    · simp [ho]
theorem m_lown_eq {cs : List Nat} (h : ∀ c ∈ cs, c < 128) (hl : cs.length ≤ 1000) (side : Nat) : m__law_own [.str (txt cs), .int (side : Int)] = some (.list (natsD (sqWhere (ownP side) cs))) := by
  obtain ⟨s3, e⟩ := lawown_loop h hl (side := side) (List.range cs.length) [] .no (fun x hx => List.mem_range.mp hx) (by simp; omega)
  have h1 : cs.length ≤ sizeLine := len_sig _ (by omega)
  have e0 := rng1_len (f := callE gLen (consA (varE 0) nilA)) (ρ := [.im (.str (txt cs)), .im (.int (side : Int)), .ow [], .no]) (n := cs.length) (by simp [h1]) (by omega)
  simp only [List.map_nil, List.nil_append] at e
  simp only [m__law_own, g__law_own, semD_eq, start0_eq, seqS_eq, ownS_eq, lineA_eq, nilA_eq, frz_nil, List.map_cons, List.map_nil, List.length_cons, List.length_nil, List.replicate, List.cons_append, List.nil_append, Option.bind_some, sl0, if_true, Option.map_some, List.set_cons_succ, List.set_cons_zero, forS_eq, e0, e, retS_eq, frz_cons, frz1_succ, frz1_ow, varE_succ, varE_im]
  rfl
def mineD (cs : List Nat) (i : Nat) : D := .tuple [.int (i : Int), .str (ch (cs.getD i 0))]
theorem m_mine_eq {cs : List Nat} (h : ∀ c ∈ cs, c < 128) (hl : cs.length ≤ 1000) (side : Nat) : m__law_mine [.str (txt cs), .int (side : Int)] = some (.list ((sqWhere (ownP side) cs).map (mineD cs))) := by
  have e1 := m_lown_eq h hl side
  have h2 : (sqWhere (ownP side) cs).length ≤ 1000 := by
    unfold sqWhere
    exact Nat.le_trans (List.length_filter_le _ _) (by rw [List.length_range]; exact hl)
  have h1 : (sqWhere (ownP side) cs).length ≤ sizeLine := len_sig _ (by omega)
  have e2 := loopC_eq (t := .nm 2) (c := yesT) (f := e__law_mine_1) (g := fun i : Nat => PyData.int (i : Int)) (r := mineD cs) (p := fun _ => true) (ρ := [.im (.str (txt cs)), .im (.int (side : Int)), .no]) (xs := sqWhere (ownP side) cs) (fun i hi => by
    obtain ⟨c, ec, _⟩ := mem_sqWhere.mp hi
    have ea := atS ec hl
    refine ⟨[.im (.str (txt cs)), .im (.int (side : Int)), .im (.int (i : Int))], rfl, rfl, fun _ => ?_⟩
    have eg : cs.getD i 0 = c := by simp [List.getD, ec]
    simp only [mineD, eg]
    simp [e__law_mine_1, ea])
  rw [List.filter_eq_self.mpr fun _ _ => rfl] at e2
  simp [m__law_mine, g__law_mine, e1, e2, h1]
theorem okD_mine {cs : List Nat} (h : ∀ c ∈ cs, c < 128) (xs : List Nat) (hx : ∀ x ∈ xs, x < cs.length) : okD (.list (xs.map (mineD cs))) = true := (GoodD.list (n := 1) fun d hd => by
  obtain ⟨i, hi, rfl⟩ := List.mem_map.mp hd
  have h0 := hx i hi
  have : cs.getD i 0 < 128 := by
    have e : cs.getD i 0 = cs[i] := by simp [List.getD, List.getElem?_eq_getElem h0]
    rw [e]
    exact h _ (List.getElem_mem h0)
  exact .tuple fun d hd => by
    simp only [List.mem_cons, List.not_mem_nil, or_false] at hd
    rcases hd with rfl | rfl
    · exact good_int
    · exact good_str (ok_ch (by omega))).ok (by decide)
theorem dEq_ok {x y : D} (h1 : okD x = true) (h2 : okD y = true) : dEq x y = some (.bool (PyData.eqv x y)) := by
  unfold dEq
  rw [if_pos ⟨h1, h2⟩]
theorem at_back {ds : List D} {j : Nat} {d : D} (hj : 1 ≤ j) (hl : j ≤ ds.length) (h : ds[ds.length - j]? = some d) : dAt (.list ds) (.int (-(j : Int))) = some d := by
  show (ixN ds.length (-(j : Int))).bind _ = _
  unfold ixN
  rw [if_neg (by omega), if_pos (by omega)]
  show ds[(-(j : Int) + (ds.length : Int)).toNat]? = some d
  rw [show (-(j : Int) + (ds.length : Int)).toNat = ds.length - j by omega]
  exact h
theorem PlaceOk.lt (hp : PlaceOk R p) : ∀ c ∈ p.cells, c < 128 := fun c hc => (hp.cells c hc).lt
theorem sqWhere_lt {P : Nat → Bool} {cs : List Nat} : ∀ x ∈ sqWhere P cs, x < cs.length := fun x hx => by
  obtain ⟨c, e, _⟩ := mem_sqWhere.mp hx
  exact (List.getElem?_eq_some_iff.mp e).1
/-- the index that the law chooses -/
theorem m_chosen_ex (hR : RulesOk R) {kept : List Place} (hk : ∀ q ∈ kept, PlaceOk R q) {p : Place} (hlast : kept.getLast? = some p) {ms : List Mv} (M : Moves R p ms) (hne : ms ≠ []) (cell : Int) :
    ∃ (i : Nat) (m : Mv), m__law_chosen [R.d, .list (kept.map Place.d), .list (ms.map (listD R p)), .int cell] = some (.int (i : Int)) ∧ ms[i]? = some m := by
  have hp : PlaceOk R p := hk p (List.mem_of_getLast? hlast)
  have hlen : 0 < ms.length := List.length_pos_iff.mpr hne
  have hfew := M.few
  have hl : 0 < ms.length := hlen
  have em : ∃ i : Nat, (cell / 3 % (ms.length : Int)) = (i : Int) ∧ i < ms.length := by
    have h1 := Int.emod_nonneg (cell / 3) (show (ms.length : Int) ≠ 0 by omega)
    have h2 := Int.emod_lt_of_pos (cell / 3) (show (0 : Int) < ms.length by omega)
    exact ⟨(cell / 3 % (ms.length : Int)).toNat, by omega, by omega⟩
  obtain ⟨i0, ei0, hi0⟩ := em
  have rest : ∃ m, ms[i0]? = some m := ⟨_, List.getElem?_eq_getElem hi0⟩
  obtain ⟨m0, em0⟩ := rest
  have kl : 1 ≤ kept.length := by
    cases kept with
    | nil => cases hlast
    | cons => simp
  have el1 : dAt (.list (kept.map Place.d)) (.int (-1)) = some p.d := at_back (j := 1) (by omega) (by rw [List.length_map]; exact kl) (by
    rw [List.length_map, List.getElem?_map]
    rw [List.getLast?_eq_getElem?] at hlast
    rw [hlast]
    rfl)
  by_cases hc : 0 < cell % 3 ∧ 2 < kept.length
  · have h3 : kept.length - 3 < kept.length := by omega
    obtain ⟨q3, eq3⟩ : ∃ q3, kept[kept.length - 3]? = some q3 := ⟨_, List.getElem?_eq_getElem h3⟩
    have ok3 := hk q3 (List.mem_of_getElem? eq3)
    have el3 : dAt (.list (kept.map Place.d)) (.int (-3)) = some q3.d := at_back (j := 3) (by omega) (by rw [List.length_map]; omega) (by
      rw [List.length_map, List.getElem?_map, eq3]; rfl)
    have key := loopF_find (t := .nm 5) (b := b__law_chosen_1) (g := fun k : Nat => PyData.int (k : Int)) (r := fun k : Nat => PyData.int (k : Int)) (p := fun k => match b__law_chosen_1 [.im R.d, .im (.list (kept.map Place.d)), .im (.list (ms.map (listD R p))), .im (.int cell), .im (.int (p.side : Int)), .im (.int (k : Int)), .no] with | some (.rt _) => true | _ => false)
      (fun ρ => ∃ v v', ρ = [.im R.d, .im (.list (kept.map Place.d)), .im (.list (ms.map (listD R p))), .im (.int cell), .im (.int (p.side : Int)), v, v']) (xs := List.range ms.length) (ρ := [.im R.d, .im (.list (kept.map Place.d)), .im (.list (ms.map (listD R p))), .im (.int cell), .im (.int (p.side : Int)), .no, .no]) (fun k hk' ρ ⟨v, v', e⟩ => by
        subst e
        have hk2 := List.mem_range.mp hk'
        have eM : ms[k]? = some ms[k] := List.getElem?_eq_getElem hk2
        generalize ms[k] = mk at eM
        obtain ⟨q, eA, okq, _⟩ := m_after_ex hR hp (M.ok mk (List.mem_of_getElem? eM))
        have e1 : dAt (.list (ms.map (listD R p))) (.int (k : Int)) = some (listD R p mk) := at_list (by rw [List.getElem?_map, eM]; rfl)
        have e2 : dAt (listD R p mk) (.int 0) = some (mvD mk) := by unfold listD; simp
        have f1 := m_mine_eq okq.lt (okq.le hR) p.side
        have f2 := m_mine_eq ok3.lt (ok3.le hR) p.side
        have f3 := dEq_ok (okD_mine okq.lt _ (sqWhere_lt (P := ownP p.side))) (okD_mine ok3.lt _ (sqWhere_lt (P := ownP p.side)))
        have eb : ∀ v', b__law_chosen_1 [.im R.d, .im (.list (kept.map Place.d)), .im (.list (ms.map (listD R p))), .im (.int cell), .im (.int (p.side : Int)), .im (.int (k : Int)), v'] = if PyData.eqv (.list ((sqWhere (ownP p.side) q.cells).map (mineD q.cells))) (.list ((sqWhere (ownP p.side) q3.cells).map (mineD q3.cells))) = true then some (.rt (.int (k : Int))) else some (.nx [.im R.d, .im (.list (kept.map Place.d)), .im (.list (ms.map (listD R p))), .im (.int cell), .im (.int (p.side : Int)), .im (.int (k : Int)), .im q.d]) := fun v' => by
          simp [b__law_chosen_1, el1, el3, e1, e2, eA, f1, f2, f3]
        refine ⟨[.im R.d, .im (.list (kept.map Place.d)), .im (.list (ms.map (listD R p))), .im (.int cell), .im (.int (p.side : Int)), .im (.int (k : Int)), v'], rfl, ?_⟩
        rw [eb, eb]
        by_cases hE : PyData.eqv (.list ((sqWhere (ownP p.side) q.cells).map (mineD q.cells))) (.list ((sqWhere (ownP p.side) q3.cells).map (mineD q3.cells))) = true
        · right
          rw [if_pos hE]
          exact ⟨rfl, rfl⟩
        · left
          rw [if_neg hE]
          exact ⟨rfl, _, .inl rfl, _, _, rfl⟩) ⟨_, _, rfl⟩
    have e0 := rng1_len (f := callE gLen (consA (varE 2) nilA)) (ρ := [.im R.d, .im (.list (kept.map Place.d)), .im (.list (ms.map (listD R p))), .im (.int cell), .im (.int (p.side : Int)), .no, .no]) (n := ms.length) (by simp) (by omega)
    have hkl : (2 : Int) < kept.length := by omega
    have h0 : 0 < ms.length := hl
    rcases key with ⟨k, ef, eL⟩ | ⟨_, ρ', eL, v, v', eρ⟩
    · have hk2 := List.mem_range.mp (List.mem_of_find?_eq_some ef)
      refine ⟨k, ms[k], ?_, List.getElem?_eq_getElem hk2⟩
      simp [m__law_chosen, g__law_chosen, hc.1, hc.2, hkl, el1, -rng1I_eq, e0, eL]
    · refine ⟨i0, m0, ?_, em0⟩
      subst eρ
      have h9 : (ms.length : Int) < 1073741824 := by omega
      simp [m__law_chosen, g__law_chosen, hc.1, hc.2, hkl, el1, -rng1I_eq, e0, eL, h0, ei0]
  · refine ⟨i0, m0, ?_, em0⟩
    have h0 : 0 < ms.length := hl
    by_cases h1 : 0 < cell % 3
    · have h2 : ¬ 2 < kept.length := fun z => hc ⟨h1, z⟩
      have h2' : ¬ (2 : Int) < kept.length := by omega
      simp [m__law_chosen, g__law_chosen, h1, h2, h2', h0, ei0]
    · simp [m__law_chosen, g__law_chosen, h1, h0, ei0]
end
end
end RB
set_option Elab.async false
set_option linter.all false
set_option maxRecDepth 100000
set_option maxHeartbeats 2000000
set_option autoImplicit false
/-! PU23: the law's numbers, boards, ways. -/
namespace RB
open PySem PySem.Spec L2
noncomputable section
theorem log_le {x : Int} {k : Nat} (h : x.natAbs < 2 ^ k) : x.natAbs.log2 ≤ k := by
  by_cases h0 : x.natAbs = 0
  · rw [h0]; simp
  · exact Nat.le_of_lt ((Nat.log2_lt h0).mpr h)
def scrD (ns : List Int) : D := .dict [(.list (ns.map .int), .none)]
structure ScrOk (ns : List Int) : Prop where
  len : ns.length ≤ 63
  bits : ∀ n ∈ ns, n.natAbs.log2 ≤ 1048577
@[simp] theorem gLen_scr (ns : List Int) : gLen [scrD ns] = some (.int (ns.length : Int)) := by
  show some (PyData.int ((ns.map PyData.int).length : Int)) = _
  rw [List.length_map]
theorem dAt_scr {ns : List Int} {i : Nat} {n : Int} (h : ns[i]? = some n) : dAt (scrD ns) (.int (i : Int)) = some (.int n) := by
  show atI (ns.map PyData.int) (i : Int) = _
  have hi := (List.getElem?_eq_some_iff.mp h).1
  unfold atI ixN
  rw [if_pos (by omega), if_pos (by rw [List.length_map]; omega)]
  show (ns.map PyData.int)[(i : Int).toNat]? = _
  rw [Int.toNat_natCast, List.getElem?_map, h]
  rfl
theorem log2_mul_le (a b : Nat) : (a * b).log2 ≤ a.log2 + b.log2 + 1 := by
  by_cases h : a * b = 0
  · rw [h]; simp
  · have ha : a ≠ 0 := fun z => h (by rw [z, Nat.zero_mul])
    have hb : b ≠ 0 := fun z => h (by rw [z, Nat.mul_zero])
    have h1 : a < 2 ^ (a.log2 + 1) := (Nat.log2_lt ha).mp (Nat.lt_succ_self _)
    have h2 : b < 2 ^ (b.log2 + 1) := (Nat.log2_lt hb).mp (Nat.lt_succ_self _)
    have h3 : a * b < 2 ^ (a.log2 + b.log2 + 2) := by
      have : 2 ^ (a.log2 + b.log2 + 2) = 2 ^ (a.log2 + 1) * 2 ^ (b.log2 + 1) := by rw [← Nat.pow_add]; congr 1; omega
      rw [this]
      exact Nat.mul_lt_mul'' h1 h2
    have := (Nat.log2_lt h).mpr h3
    omega
theorem log2_add_le (a b : Int) (k : Nat) (ha : a.natAbs.log2 ≤ k) (hb : b.natAbs.log2 ≤ k) : (a + b).natAbs.log2 ≤ k + 2 := by
  have bound : ∀ x : Int, x.natAbs.log2 ≤ k → x.natAbs < 2 ^ (k + 1) := fun x h => by
    by_cases h0 : x.natAbs = 0
    · rw [h0]; exact Nat.two_pow_pos _
    · exact (Nat.log2_lt h0).mp (by omega)
  have h1 := bound a ha
  have h2 := bound b hb
  refine log_le ?_
  have : 2 ^ (k + 2) = 2 ^ (k + 1) + 2 ^ (k + 1) := by rw [Nat.pow_succ 2 (k + 1)]; omega
  have h3 := Int.natAbs_add_le a b
  omega
theorem log_lit {k : Nat} (h : k < 1000000) : ((k : Int)).natAbs.log2 ≤ 20 := log_le (by
  have : (2 : Nat) ^ 20 = 1048576 := by decide
  rw [this]; omega)
theorem m_cell_ex {ns : List Int} (h : ScrOk ns) {k : Nat} (hk : k ≤ 60) : ∃ c : Int, m__law_cell [scrD ns, .int (k : Int)] = some (.int c) := by
  by_cases hl : k < ns.length
  · refine ⟨ns[k], ?_⟩
    have e := dAt_scr (List.getElem?_eq_getElem hl)
    simp [m__law_cell, g__law_cell, hl, e]
  · have l1 : k.log2 + k.log2 < 100000000 := by have := Nat.log2_le_self k; omega
    have hkk : ((k : Int) * k).natAbs ≤ 3600 := by
      rw [Int.natAbs_mul, Int.natAbs_natCast]
      exact Nat.mul_le_mul hk hk
    have l2 : ((k : Int) * k).natAbs.log2 + Nat.log2 7919 < 100000000 := by
      have := Nat.log2_le_self ((k : Int) * k).natAbs
      have := Nat.log2_le_self 7919
      omega
    have l3 : Nat.log2 11 + k.log2 < 100000000 := by
      have := Nat.log2_le_self k
      have := Nat.log2_le_self 11
      omega
    have hb : ((k : Int) * k * 7919 + 11 * k + 5).natAbs.log2 ≤ 40 := log_le (by
      have : (2 : Nat) ^ 40 = 1099511627776 := by decide
      rw [this]
      generalize (k : Int) * k = q at hkk
      omega)
    by_cases h0 : 0 < ns.length
    · have l4 : k.log2 + Nat.log2 7 < 100000000 := by
        have := Nat.log2_le_self k
        have := Nat.log2_le_self 7
        omega
      have hm : ∃ i : Nat, ((k : Int) * 7) % (ns.length : Int) = (i : Int) ∧ i < ns.length := by
        have h1 := Int.emod_nonneg ((k : Int) * 7) (show (ns.length : Int) ≠ 0 by omega)
        have h2 := Int.emod_lt_of_pos ((k : Int) * 7) (show (0 : Int) < ns.length by omega)
        exact ⟨(((k : Int) * 7) % (ns.length : Int)).toNat, by omega, by omega⟩
      obtain ⟨i, ei, hi⟩ := hm
      have e := dAt_scr (List.getElem?_eq_getElem hi)
      have hn := h.bits ns[i] (List.getElem_mem hi)
      generalize ns[i] = n at e hn
      have l5 : n.natAbs.log2 + Nat.log2 48271 < 100000000 := by
        have := Nat.log2_le_self 48271
        omega
      have hx : (n * 48271).natAbs.log2 ≤ 1048600 := by
        rw [Int.natAbs_mul]
        have h1 := log2_mul_le n.natAbs (48271 : Int).natAbs
        have h2 : ((48271 : Int)).natAbs.log2 ≤ 20 := log_lit (k := 48271) (by decide)
        omega
      have hy := log2_add_le ((k : Int) * k * 7919 + 11 * k + 5) (n * 48271) 1048600 (by omega) hx
      have l6 : ((k : Int) * k * 7919 + 11 * k + 5 + n * 48271).natAbs.log2 + ((k : Int) * k * 7919 + 11 * k + 5 + n * 48271).natAbs.log2 < 100000000 := by omega
      exact ⟨_, by simp [m__law_cell, g__law_cell, hl, h0, l1, l2, l3, l4, ei, e, l5, l6]; rfl⟩
    · have l6 : ((k : Int) * k * 7919 + 11 * k + 5).natAbs.log2 + ((k : Int) * k * 7919 + 11 * k + 5).natAbs.log2 < 100000000 := by omega
      exact ⟨_, by simp [m__law_cell, g__law_cell, hl, h0, l1, l2, l3, l6]; rfl⟩
theorem m_mixed_ex (c : Int) {k : Nat} (hk : k ≤ 1000) : ∃ v : Int, m__law_mixed [.int c, .int (k : Int)] = some (.int v) ∧ 0 ≤ v := by
  have l1 : k.log2 + Nat.log2 40503 < 100000000 := by
    have := Nat.log2_le_self k
    have := Nat.log2_le_self 40503
    omega
  have l2 : k.log2 + k.log2 < 100000000 := by have := Nat.log2_le_self k; omega
  have hkk : ((k : Int) * k).natAbs ≤ 1000000 := by
    rw [Int.natAbs_mul, Int.natAbs_natCast]
    exact Nat.mul_le_mul hk hk
  have l3 : ((k : Int) * k).natAbs.log2 + Nat.log2 7 < 100000000 := by
    have := Nat.log2_le_self ((k : Int) * k).natAbs
    have := Nat.log2_le_self 7
    omega
  generalize hx : (c + (k : Int) * 40503 + (k : Int) * k * 7) % 2147483647 = x
  have hx0 : 0 ≤ x ∧ x < 2147483647 := by rw [← hx]; exact ⟨Int.emod_nonneg _ (by decide), Int.emod_lt_of_pos _ (by decide)⟩
  have l4 : x.natAbs.log2 + Nat.log2 48271 < 100000000 := by
    have h1 : x.natAbs.log2 ≤ 31 := log_le (by
      have : (2 : Nat) ^ 31 = 2147483648 := by decide
      rw [this]; omega)
    have := Nat.log2_le_self 48271
    omega
  have h5 : 0 < k % 50 + 1 := by omega
  have h6 : (0 : Int) < (k : Int) % 50 + 1 ∧ (k : Int) % 50 + 1 < 1073741824 := by omega
  refine ⟨x * 48271 % 2147483629 / ((k : Int) % 50 + 1), ?_, Int.ediv_nonneg (Int.emod_nonneg _ (by decide)) (by omega)⟩
  simp [m__law_mixed, g__law_mixed, l1, l2, l3, hx, l4, h6.1, h6.2]
theorem pick_mem {ds : List D} {L : Nat} (hl : ds.length = L) (h0 : 0 < L) (n : Int) : ∃ d ∈ ds, dAt (.list ds) (.int (n % (L : Int))) = some d := by
  have h1 := Int.emod_nonneg n (show (L : Int) ≠ 0 by omega)
  have h2 := Int.emod_lt_of_pos n (show (0 : Int) < L by omega)
  have hi : (n % (L : Int)).toNat < ds.length := by omega
  refine ⟨ds[(n % (L : Int)).toNat], List.getElem_mem hi, ?_⟩
  have e := at_list (List.getElem?_eq_getElem hi)
  rw [Int.toNat_of_nonneg h1] at e
  exact e
theorem board_loop (c : Int) {w h : SD} : ∀ (xs : List Nat) (b : Nat) (v : SD), (∀ s ∈ xs, s < 1000) → ∃ (b' : Nat) (v' : SD), loopF (.nm 4) b__law_board_1 (natsD xs) [.im (.int c), w, h, .im (.int (b : Int)), v] = some (.nx [.im (.int c), w, h, .im (.int (b' : Int)), v'])
  | [], b, v, _ => ⟨b, v, rfl⟩
  | s :: xs, b, v, hs => by
    have h1 := hs s List.mem_cons_self
    obtain ⟨x, ex, _⟩ := m_mixed_ex (c / 200) (k := s) (by omega)
    have e1 : Builtin.bitOr ((b : Nat) : Int) (2 ^ s) = ((b ||| 2 ^ s : Nat) : Int) := by
      have e2 : ((2 : Int) ^ s) = ((2 ^ s : Nat) : Int) := by simp
      rw [e2, bitOr_nn (Int.natCast_nonneg _) (Int.natCast_nonneg _)]
      rfl
    have h2 : ((s : Nat) : Int) ≤ 1000000 := by omega
    have step : ∃ b1 : Nat, b__law_board_1 [.im (.int c), w, h, .im (.int (b : Int)), .im (.int (s : Int))] = some (.nx [.im (.int c), w, h, .im (.int (b1 : Int)), .im (.int (s : Int))]) := by
      by_cases h9 : x % 9 = 0
      · exact ⟨b ||| 2 ^ s, by simp [b__law_board_1, ex, h9, h2, e1]⟩
      · exact ⟨b, by simp [b__law_board_1, ex, h9]⟩
    obtain ⟨b1, eb⟩ := step
    obtain ⟨b', v', e⟩ := board_loop c (w := w) (h := h) xs b1 (.im (.int (s : Int))) fun y hy => hs y (List.mem_cons_of_mem _ hy)
    refine ⟨b', v', ?_⟩
    show loopF (.nm 4) b__law_board_1 (PyData.int (s : Int) :: natsD xs) _ = _
    rw [loopF_nx rfl eb]
    exact e
theorem m_board_ex (c : Int) : ∃ w h b : Nat, m__law_board [.int c] = some (.tuple [.int (w : Int), .int (h : Int), .int (b : Int)]) ∧ 1 ≤ w ∧ w ≤ 4 ∧ 1 ≤ h ∧ h ≤ 3 := by
  obtain ⟨w, ew⟩ : ∃ w : Nat, 1 + c % 4 = (w : Int) := ⟨(1 + c % 4).toNat, by omega⟩
  obtain ⟨h, eh⟩ : ∃ h : Nat, 1 + c / 5 % 3 = (h : Int) := ⟨(1 + c / 5 % 3).toNat, by omega⟩
  have hw : 1 ≤ w ∧ w ≤ 4 := by omega
  have hh : 1 ≤ h ∧ h ≤ 3 := by omega
  have hwh : w * h ≤ 12 := Nat.mul_le_mul hw.2 hh.2
  obtain ⟨b, v, e⟩ := board_loop c (w := .im (.int (w : Int))) (h := .im (.int (h : Int))) (List.range (w * h)) 0 .no (fun s hs => by have := List.mem_range.mp hs; omega)
  have l1 : w.log2 + h.log2 < 100000000 := by
    have := Nat.log2_le_self w
    have := Nat.log2_le_self h
    omega
  have e0 := rng1_len (f := binE dMul (varE 1) (varE 2)) (ρ := [.im (.int c), .im (.int (w : Int)), .im (.int (h : Int)), .im (.int 0), .no]) (n := w * h) (by simp [l1]) (by omega)
  refine ⟨w, h, b, ?_, hw.1, hw.2, hh.1, hh.2⟩
  have e' : loopF (.nm 4) b__law_board_1 (natsD (List.range (w * h))) [.im (.int c), .im (.int (w : Int)), .im (.int (h : Int)), .im (.int 0), .no] = _ := e
  simp [m__law_board, g__law_board, ew, eh, -rng1I_eq, e0, e']
end
end RB
set_option Elab.async false
set_option linter.all false
set_option maxRecDepth 100000
set_option maxHeartbeats 2000000
set_option autoImplicit false
/-! PU24: the law's ways and kinds. -/
namespace RB
open PySem PySem.Spec L2
noncomputable section
theorem loopC_ex {α β : Type} {t : Tg} {c : FT} {f : FE} {g : α → D} {r : β → D} {P : β → Prop} {ρ : Sl} : ∀ {xs : List α}, (∀ x ∈ xs, ∃ y : β, P y ∧ ∃ ρ1, t.s (g x) ρ = some ρ1 ∧ c ρ1 = some true ∧ f ρ1 = some (r y)) →
    ∃ ys : List β, loopC t c f ρ (xs.map g) = some (ys.map r) ∧ ys.length = xs.length ∧ ∀ y ∈ ys, P y
  | [], _ => ⟨[], rfl, rfl, fun y h => nomatch h⟩
  | x :: xs, h => by
    obtain ⟨y, hy, ρ1, e1, e2, e3⟩ := h x List.mem_cons_self
    obtain ⟨ys, e, hl, hP⟩ := loopC_ex (xs := xs) fun z hz => h z (List.mem_cons_of_mem _ hz)
    refine ⟨y :: ys, ?_, by simp [hl], fun z hz => ?_⟩
    · rw [List.map_cons, loopC, e1]
      simp only [Option.bind_some]
      rw [e2]
      simp only [Option.bind_some, if_true]
      rw [e3]
      simp only [Option.bind_some]
      rw [e]
      rfl
    · rcases List.mem_cons.mp hz with z1 | z1
      · rw [z1]; exact hy
      · exact hP z z1
theorem m_way_ex (n : Int) : ∃ w : Way, m__law_way [.int n] = some w.d ∧ WayOk w := by
  obtain ⟨d1, h1, e1⟩ := pick_mem (ds := [.str "leap", .str "ride", .str "ride", .str "hop"]) (L := 4) rfl (by decide) n
  obtain ⟨d2, h2, e2⟩ := pick_mem (ds := [.int 0, .int 0, .int 0, .int 1, .int 2, .int 3]) (L := 6) rfl (by decide) (n / 100)
  obtain ⟨d3, h3, e3⟩ := pick_mem (ds := [.str "one", .str "wide", .str "all", .str "wide"]) (L := 4) rfl (by decide) (n / 600)
  obtain ⟨d4, h4, e4⟩ := pick_mem (ds := [.str "both", .str "both", .str "both", .str "go", .str "take"]) (L := 5) rfl (by decide) (n / 2400)
  obtain ⟨wd, rfl, hwd⟩ : ∃ wd : Str, d1 = .str wd ∧ (wd = "leap" ∨ wd = "ride" ∨ wd = "hop") := by
    simp only [List.mem_cons, List.not_mem_nil, or_false] at h1
    rcases h1 with rfl | rfl | rfl | rfl
    · exact ⟨_, rfl, .inl rfl⟩
    · exact ⟨_, rfl, .inr (.inl rfl)⟩
    · exact ⟨_, rfl, .inr (.inl rfl)⟩
    · exact ⟨_, rfl, .inr (.inr rfl)⟩
  obtain ⟨mo, rfl, hmo⟩ : ∃ mo : Int, d2 = .int mo ∧ (0 ≤ mo ∧ mo ≤ 3) := by
    simp only [List.mem_cons, List.not_mem_nil, or_false] at h2
    rcases h2 with rfl | rfl | rfl | rfl | rfl | rfl <;> exact ⟨_, rfl, by decide⟩
  obtain ⟨tn, rfl, htn⟩ : ∃ tn : Str, d3 = .str tn ∧ (tn = "one" ∨ tn = "wide" ∨ tn = "all") := by
    simp only [List.mem_cons, List.not_mem_nil, or_false] at h3
    rcases h3 with rfl | rfl | rfl | rfl
    · exact ⟨_, rfl, .inl rfl⟩
    · exact ⟨_, rfl, .inr (.inl rfl)⟩
    · exact ⟨_, rfl, .inr (.inr rfl)⟩
    · exact ⟨_, rfl, .inr (.inl rfl)⟩
  obtain ⟨us, rfl, hus⟩ : ∃ us : Str, d4 = .str us ∧ UseOk us := by
    simp only [List.mem_cons, List.not_mem_nil, or_false] at h4
    rcases h4 with rfl | rfl | rfl | rfl | rfl
    · exact ⟨_, rfl, .inl rfl⟩
    · exact ⟨_, rfl, .inl rfl⟩
    · exact ⟨_, rfl, .inl rfl⟩
    · exact ⟨_, rfl, .inr (.inl rfl)⟩
    · exact ⟨_, rfl, .inr (.inr rfl)⟩
  have okw : PyData.strOk wd = true := by rcases hwd with e | e | e <;> rw [e] <;> simp
  have hx : -2 ≤ n / 4 % 5 - 2 ∧ n / 4 % 5 - 2 ≤ 2 := by omega
  have hy : -2 ≤ n / 20 % 5 - 2 ∧ n / 20 % 5 - 2 ≤ 2 := by omega
  simp at e1 e2 e3 e4
  by_cases h0 : n / 4 % 5 - 2 = 0 ∧ n / 20 % 5 - 2 = 0
  · by_cases hl : wd = "leap"
    · exact ⟨⟨wd, 0, 1, tn, us, decide (n / 12000 % 5 = 0), 0⟩, by simp [m__law_way, g__law_way, e1, e3, e4, h0.1, h0.2, hl, Way.d_eq], hwd, htn, hus, by dsimp only; omega, by dsimp only; omega, by simp, by dsimp only; omega⟩
    · exact ⟨⟨wd, 0, 1, tn, us, decide (n / 12000 % 5 = 0), mo⟩, by simp [m__law_way, g__law_way, e1, e2, e3, e4, h0.1, h0.2, hl, okw, Way.d_eq], hwd, htn, hus, by dsimp only; omega, by dsimp only; omega, by simp, hmo⟩
  · by_cases hl : wd = "leap"
    · by_cases hx0 : n / 4 % 5 - 2 = 0
      · have hy0 : ¬ n / 20 % 5 - 2 = 0 := fun z => h0 ⟨hx0, z⟩
        exact ⟨⟨wd, 0, n / 20 % 5 - 2, tn, us, decide (n / 12000 % 5 = 0), 0⟩, by simp [m__law_way, g__law_way, e1, e3, e4, hx0, hy0, hl, Way.d_eq], hwd, htn, hus, by dsimp only; omega, hy, fun z => hy0 z.2, by dsimp only; omega⟩
      · exact ⟨⟨wd, n / 4 % 5 - 2, n / 20 % 5 - 2, tn, us, decide (n / 12000 % 5 = 0), 0⟩, by simp [m__law_way, g__law_way, e1, e3, e4, hx0, hl, Way.d_eq], hwd, htn, hus, hx, hy, h0, by dsimp only; omega⟩
    · by_cases hx0 : n / 4 % 5 - 2 = 0
      · have hy0 : ¬ n / 20 % 5 - 2 = 0 := fun z => h0 ⟨hx0, z⟩
        exact ⟨⟨wd, 0, n / 20 % 5 - 2, tn, us, decide (n / 12000 % 5 = 0), mo⟩, by simp [m__law_way, g__law_way, e1, e2, e3, e4, hx0, hy0, hl, okw, Way.d_eq], hwd, htn, hus, by dsimp only; omega, hy, fun z => hy0 z.2, hmo⟩
      · exact ⟨⟨wd, n / 4 % 5 - 2, n / 20 % 5 - 2, tn, us, decide (n / 12000 % 5 = 0), mo⟩, by simp [m__law_way, g__law_way, e1, e2, e3, e4, hx0, hl, okw, Way.d_eq], hwd, htn, hus, hx, hy, h0, hmo⟩
theorem m_strong_ex (k n : Int) : ∃ w : Way, m__law_strong [.int k, .int n] = some w.d ∧ WayOk w := by
  by_cases hk : k = 0
  · exact ⟨⟨"leap", 1, n % 2, "all", "both", false, 0⟩, by simp [m__law_strong, g__law_strong, hk, Way.d_eq], .inl rfl, .inr (.inr rfl), .inl rfl, by dsimp only; omega, by dsimp only; omega, by simp, by dsimp only; omega⟩
  · obtain ⟨d1, h1, e1⟩ := pick_mem (ds := [.str "ride", .str "ride", .str "hop"]) (L := 3) rfl (by decide) n
    obtain ⟨wd, rfl, hwd⟩ : ∃ wd : Str, d1 = .str wd ∧ (wd = "leap" ∨ wd = "ride" ∨ wd = "hop") := by
      simp only [List.mem_cons, List.not_mem_nil, or_false] at h1
      rcases h1 with rfl | rfl | rfl
      · exact ⟨_, rfl, .inr (.inl rfl)⟩
      · exact ⟨_, rfl, .inr (.inl rfl)⟩
      · exact ⟨_, rfl, .inr (.inr rfl)⟩
    simp at e1
    exact ⟨⟨wd, 1, n / 3 % 2, "all", "both", false, 0⟩, by simp [m__law_strong, g__law_strong, hk, e1, Way.d_eq], hwd, .inr (.inr rfl), .inl rfl, by dsimp only; omega, by dsimp only; omega, by simp, by dsimp only; omega⟩
@[simp] theorem dCut_list1 {ds : List D} : dCut (.list ds) none (some 1) = some (.list (ds.take 1)) := by
  show some (PyData.list (cutG ds none (some 1))) = _
  unfold cutG
  rw [HT.sIx_none, show (some (1 : Int)) = some ((1 : Nat) : Int) from rfl, HT.sIx_nat]
  simp only [List.drop_zero, Nat.sub_zero]
  congr 2
  cases ds with
  | nil => rfl
  | cons d r => simp
abbrev lettD (ls : List Nat) : D := .list (ls.map fun l => .str (ch l))
theorem m_kind_ex {ls : List Nat} (hls : ∀ l ∈ ls, isLow l = true) {k : Nat} {l0 : Nat} (hk : ls[k]? = some l0) (hl4 : ls.length ≤ 4) (cell : Int) {h : Nat} (hh : 1 ≤ h ∧ h ≤ 3) (strong : Bool) :
    ∃ kd : Kind, m__law_kind [.int (k : Int), .int cell, lettD ls, .int (h : Int), .bool strong] = some kd.d ∧ kd.letter = l0 ∧ kd.ways.length ≤ 2 ∧ (∀ w ∈ kd.ways, WayOk w) ∧ ∀ c, kd.becomes = some c → c ∈ ls := by
  obtain ⟨n3, e3⟩ : ∃ n3 : Nat, cell % 3 = (n3 : Int) := ⟨(cell % 3).toNat, by omega⟩
  have hn3 : n3 < 3 := by omega
  have e0 := rng1_len (f := binE dMod (varE 1) (litE (.int 3))) (ρ := [.im (.int (k : Int)), .im (.int cell), .im (lettD ls), .im (.int (h : Int)), .im (.bool strong), .no, .no, .no, .no, .no]) (n := n3) (by
    simp only [binE_eq, varE_succ, varE_im, litE_eq, Option.bind_some, dMod_eq]
    rw [if_pos (by decide), e3]) (by omega)
  obtain ⟨ws, eC, hwl, hws⟩ := loopC_ex (t := .nm 9) (c := yesT) (f := e__law_kind_1) (g := fun i : Nat => PyData.int (i : Int)) (r := Way.d) (P := WayOk) (ρ := [.im (.int (k : Int)), .im (.int cell), .im (lettD ls), .im (.int (h : Int)), .im (.bool strong), .no, .no, .no, .no, .no]) (xs := List.range n3) (fun j hj => by
    have hj := List.mem_range.mp hj
    obtain ⟨v, ev, _⟩ := m_mixed_ex cell (k := 3 + j) (by omega)
    obtain ⟨w, ew, ok⟩ := m_way_ex v
    refine ⟨w, ok, _, rfl, rfl, ?_⟩
    have ej : (3 : Int) + (j : Int) = ((3 + j : Nat) : Int) := by simp
    rw [← ej] at ev
    simp [e__law_kind_1, ev, ew])
  rw [List.length_range] at hwl
  have hsz : n3 ≤ sizeLine := len_sig _ (by omega)
  obtain ⟨sw, eS, okS⟩ := m_strong_ex (k : Int) (cell / 3)
  have hl0 : 0 < ls.length := by have := (List.getElem?_eq_some_iff.mp hk).1; omega
  obtain ⟨d1, hd1, e1⟩ := pick_mem (ds := ls.map fun l => PyData.str (ch l)) (L := ls.length) (by simp) hl0 (cell / 18)
  obtain ⟨b, hb, rfl⟩ := List.mem_map.mp hd1
  have hh1 : 0 < h := hh.1
  have hat : dAt (lettD ls) (.int (k : Int)) = some (.str (ch l0)) := at_list (by rw [List.getElem?_map, hk]; rfl)
  have okl : ∀ x ∈ ls, x < 200 := fun x hx => low200 (hls x hx)
  -- the ways
  let ways : List Way := if strong = true then sw :: ws.take 1 else ws
  have ways2 : ways.length ≤ 2 := by
    show (if strong = true then sw :: ws.take 1 else ws).length ≤ 2
    split
    · rw [List.length_cons, List.length_take]; omega
    · omega
  have waysok : ∀ w ∈ ways, WayOk w := fun w hw => by
    have hw' : w ∈ (if strong = true then sw :: ws.take 1 else ws) := hw
    split at hw'
    · rcases List.mem_cons.mp hw' with z | z
      · rw [z]; exact okS
      · exact hws w (List.mem_of_mem_take z)
    · exact hws w hw'
  have tk : 1 + min 1 ws.length ≤ sizeLine := len_sig _ (by omega)
  have royal : ∃ r : Bool, r = ((decide ((k : Int) = 0) && decide (0 < cell / 450 % 8)) || decide (cell / 450 % 11 = 0)) := ⟨_, rfl⟩
  obtain ⟨r, hr⟩ := royal
  have eR : ∀ ρ : Sl, varE 0 ρ = some (.int (k : Int)) → varE 1 ρ = some (.int cell) → orE (andE (binE dEq (varE 0) (litE (.int 0))) (binE dGt (binE dMod (binE dFdiv (varE 1) (litE (.int 450))) (litE (.int 8))) (litE (.int 0)))) (binE dEq (binE dMod (binE dFdiv (varE 1) (litE (.int 450))) (litE (.int 11))) (litE (.int 0))) ρ = some (.bool r) := fun ρ a b => by
    rw [hr]
    by_cases hk0 : k = 0
    · by_cases h8 : 0 < cell / 450 % 8 <;> simp [a, b, hk0, h8]
    · simp [a, b, hk0]
  by_cases h6 : cell / 6 % 3 = 0
  · refine ⟨⟨l0, r, decide (cell / 5 % 2 = 0), some b, 1 + cell / 90 % (h : Int), ways⟩, ?_, rfl, ways2, waysok, fun c hc => by cases hc; exact hb⟩
    have hL0 : ¬ ls = [] := fun z => by rw [z] at hl0; simp at hl0
    cases strong with
    | true =>
      simp [m__law_kind, g__law_kind, -rng1I_eq, e0, eC, hsz, eS, tk, h6, hl0, e1, hh1, -orE_eq]
      rw [eR _ rfl rfl]
      simp [hat, Kind.d_eq, optS, ways]
    | false =>
      simp [m__law_kind, g__law_kind, -rng1I_eq, e0, eC, hsz, h6, hl0, e1, hh1, -orE_eq]
      rw [eR _ rfl rfl]
      simp [hat, Kind.d_eq, optS, ways]
  · refine ⟨⟨l0, r, decide (cell / 5 % 2 = 0), none, 0, ways⟩, ?_, rfl, ways2, waysok, fun c hc => nomatch hc⟩
    cases strong with
    | true =>
      simp [m__law_kind, g__law_kind, -rng1I_eq, e0, eC, hsz, eS, tk, h6, -orE_eq]
      rw [eR _ rfl rfl]
      simp [hat, Kind.d_eq, optS, ways]
    | false =>
      simp [m__law_kind, g__law_kind, -rng1I_eq, e0, eC, hsz, h6, -orE_eq]
      rw [eR _ rfl rfl]
      simp [hat, Kind.d_eq, optS, ways]
end
end RB
set_option Elab.async false
set_option linter.all false
set_option maxRecDepth 100000
set_option maxHeartbeats 2000000
set_option autoImplicit false
/-! PU25: the law's rules are rules. -/
namespace RB
open PySem PySem.Spec L2
noncomputable section
theorem alpha_txt : ("abcdefghijklmnopqrstuvwxyz" : Str) = txt [97, 98, 99, 100, 101, 102, 103, 104, 105, 106, 107, 108, 109, 110, 111, 112, 113, 114, 115, 116, 117, 118, 119, 120, 121, 122] := by decide +kernel
theorem alpha_tab : ∀ i < 26, [97, 98, 99, 100, 101, 102, 103, 104, 105, 106, 107, 108, 109, 110, 111, 112, 113, 114, 115, 116, 117, 118, 119, 120, 121, 122][i]? = some (97 + i) := by decide
theorem dAt_alpha (x : Int) : ∃ l : Nat, dAt (.str "abcdefghijklmnopqrstuvwxyz") (.int (x % 26)) = some (.str (ch l)) ∧ isLow l = true := by
  obtain ⟨i, ei⟩ : ∃ i : Nat, x % 26 = (i : Int) := ⟨(x % 26).toNat, by omega⟩
  have hi : i < 26 := by omega
  refine ⟨97 + i, ?_, by unfold isLow; simp; omega⟩
  rw [ei, alpha_txt]
  exact atS (alpha_tab i hi) (by decide)
theorem kinds_loop {ns : List Int} (hs : ScrOk ns) {ls : List Nat} (hls : ∀ l ∈ ls, isLow l = true) (hl4 : ls.length ≤ 4) {w h b : Nat} (hh : 1 ≤ h ∧ h ≤ 3) {strong : Bool} {s2 s3 : SD} : ∀ (n i : Nat) (kds : List Kind) (s7 : SD), i + n = ls.length → kds.map (·.letter) = ls.take i → (∀ k ∈ kds, k.ways.length ≤ 2 ∧ (∀ w ∈ k.ways, WayOk w) ∧ ∀ c, k.becomes = some c → c ∈ ls) →
    ∃ (kds' : List Kind) (s7' : SD), loopF (.nm 7) b__law_rules_2 (natsD (List.range' i n)) [.im (scrD ns), .im (.tuple [.int (w : Int), .int (h : Int), .int (b : Int)]), s2, s3, .im (lettD ls), .im (.bool strong), .ow (kds.map Kind.d), s7, .no, .no, .no, .no] =
      some (.nx [.im (scrD ns), .im (.tuple [.int (w : Int), .int (h : Int), .int (b : Int)]), s2, s3, .im (lettD ls), .im (.bool strong), .ow (kds'.map Kind.d), s7', .no, .no, .no, .no]) ∧ kds'.map (·.letter) = ls ∧ ∀ k ∈ kds', k.ways.length ≤ 2 ∧ (∀ w ∈ k.ways, WayOk w) ∧ ∀ c, k.becomes = some c → c ∈ ls
  | 0, i, kds, s7, hi, hm, hk => ⟨kds, s7, rfl, by rw [hm, List.take_of_length_le (by omega)], hk⟩
  | n + 1, i, kds, s7, hi, hm, hk => by
    obtain ⟨c, ec⟩ := m_cell_ex hs (k := 2 + i) (by omega)
    obtain ⟨v, ev, _⟩ := m_mixed_ex c (k := 1) (by decide)
    have hil : i < ls.length := by omega
    have e0 : ls[i]? = some ls[i] := List.getElem?_eq_getElem hil
    obtain ⟨kd, ek, hl, hw2, hw, hb⟩ := m_kind_ex hls e0 hl4 v hh strong
    have hlen : kds.length < sizeLine := lt_sig _ (by
      have := congrArg List.length hm
      rw [List.length_map, List.length_take] at this
      omega)
    have ec' : m__law_cell [scrD ns, .int (2 + (i : Int))] = some (.int c) := by
      rw [← ec]; simp
    have ev' : m__law_mixed [.int c, .int 1] = some (.int v) := ev
    have eb : b__law_rules_2 [.im (scrD ns), .im (.tuple [.int (w : Int), .int (h : Int), .int (b : Int)]), s2, s3, .im (lettD ls), .im (.bool strong), .ow (kds.map Kind.d), .im (.int (i : Int)), .no, .no, .no, .no] = some (.nx [.im (scrD ns), .im (.tuple [.int (w : Int), .int (h : Int), .int (b : Int)]), s2, s3, .im (lettD ls), .im (.bool strong), .ow ((kds ++ [kd]).map Kind.d), .im (.int (i : Int)), .no, .no, .no, .no]) := by
      simp [b__law_rules_2, ec', ev', ek, hlen]
    obtain ⟨kds', s7', e, h1, h2⟩ := kinds_loop hs hls hl4 (w := w) (b := b) hh (strong := strong) (s2 := s2) (s3 := s3) n (i + 1) (kds ++ [kd]) (.im (.int (i : Int))) (by omega) (by
      rw [List.map_append, hm, List.take_succ, e0, List.map_cons, List.map_nil, hl]
      rfl) (fun k hk' => by
        rcases List.mem_append.mp hk' with z | z
        · exact hk k z
        · rw [List.mem_singleton.mp z]; exact ⟨hw2, hw, hb⟩)
    refine ⟨kds', s7', ?_, h1, h2⟩
    rw [List.range'_succ]
    show loopF (.nm 7) b__law_rules_2 (PyData.int (i : Int) :: natsD (List.range' (i + 1) n)) _ = _
    rw [loopF_nx rfl eb]
    exact e
theorem good_pairD' {q : Nat × Nat} (h : isLow q.1 = true ∧ isLow q.2 = true) : GoodD 1 (pairD q) := good_pairD (low200 h.1) (low200 h.2)
theorem pairs_loop {ls : List Nat} (hls : ∀ l ∈ ls, isLow l = true) (h0 : 0 < ls.length) {cell : Int} {s0 s1 s3 s5 s6 : SD} : ∀ (xs : List Nat) (ps : List (Nat × Nat)) (s7 s9 : SD), (∀ x ∈ xs, x < 100) → (∀ q ∈ ps, q.1 ∈ ls ∧ q.2 ∈ ls) → ps.length + xs.length < 1000 →
    ∃ (ps' : List (Nat × Nat)) (s7' s9' : SD), loopF (.nm 7) b__law_rules_3 (natsD xs) [s0, s1, .im (.int cell), s3, .im (lettD ls), s5, s6, s7, .ow (ps.map pairD), s9, .no, .no] =
      some (.nx [s0, s1, .im (.int cell), s3, .im (lettD ls), s5, s6, s7', .ow (ps'.map pairD), s9', .no, .no]) ∧ (∀ q ∈ ps', q.1 ∈ ls ∧ q.2 ∈ ls) ∧ ps'.length ≤ ps.length + xs.length
  | [], ps, s7, s9, _, hp, _ => ⟨ps, s7, s9, rfl, hp, by simp⟩
  | x :: xs, ps, s7, s9, hx, hp, hn => by
    obtain ⟨v, ev, _⟩ := m_mixed_ex cell (k := x) (by have := hx x List.mem_cons_self; omega)
    obtain ⟨d1, hd1, e1⟩ := pick_mem (ds := ls.map fun l => PyData.str (ch l)) (L := ls.length) (by simp) h0 v
    obtain ⟨b, hb, rfl⟩ := List.mem_map.mp hd1
    have ea : ls[0]? = some ls[0] := List.getElem?_eq_getElem h0
    have ha : ls[0] ∈ ls := List.getElem_mem h0
    have eat : dAt (lettD ls) (.int 0) = some (.str (ch ls[0])) := at_list (i := 0) (by rw [List.getElem?_map, ea]; rfl)
    generalize ls[0] = a at ha eat
    have okab : (a, b).1 ∈ ls ∧ (a, b).2 ∈ ls := ⟨ha, hb⟩
    have okl : okD (.list (ps.map pairD)) = true := (GoodD.list (n := 1) fun d hd => by
      obtain ⟨q, hq, rfl⟩ := List.mem_map.mp hd
      exact good_pairD' ⟨hls _ (hp q hq).1, hls _ (hp q hq).2⟩).ok (by decide)
    have hlen : ps.length < sizeLine := lt_sig _ (by simp at hn; omega)
    have eown : ∀ s7, inOwnT not (varE 9) 8 [s0, s1, .im (.int cell), s3, .im (lettD ls), s5, s6, s7, .ow (ps.map pairD), .im (pairD (a, b)), .no, .no] = some (!inD (pairD (a, b)) (ps.map pairD)) := fun s7 => inOwnT_eq rfl rfl ((good_pairD' (q := (a, b)) ⟨hls _ okab.1, hls _ okab.2⟩).ok (by decide)) okl
    have step : ∃ ps1 : List (Nat × Nat), b__law_rules_3 [s0, s1, .im (.int cell), s3, .im (lettD ls), s5, s6, .im (.int (x : Int)), .ow (ps.map pairD), s9, .no, .no] = some (.nx [s0, s1, .im (.int cell), s3, .im (lettD ls), s5, s6, .im (.int (x : Int)), .ow (ps1.map pairD), .im (pairD (a, b)), .no, .no]) ∧ (∀ q ∈ ps1, q.1 ∈ ls ∧ q.2 ∈ ls) ∧ ps1.length ≤ ps.length + 1 := by
      have h0' : 0 < ls.length := h0
      have eo : inOwnT not (varE 9) 8 [s0, s1, .im (.int cell), s3, .im (lettD ls), s5, s6, .im (.int (x : Int)), .ow (ps.map pairD), .im (.tuple [.str (ch a), .str (ch b)]), .no, .no] = some (!inD (pairD (a, b)) (ps.map pairD)) := eown (.im (.int (x : Int)))
      have ep : pairD (a, b) = .tuple [.str (ch a), .str (ch b)] := rfl
      cases hin : inD (pairD (a, b)) (ps.map pairD) with
      | true =>
        rw [hin] at eo
        exact ⟨ps, by simp [b__law_rules_3, eat, ev, e1, h0', eo, ep], hp, by omega⟩
      | false =>
        rw [hin] at eo
        refine ⟨ps ++ [(a, b)], by simp [b__law_rules_3, eat, ev, e1, h0', eo, hlen, ep], fun q hq => ?_, by simp⟩
        rcases List.mem_append.mp hq with z | z
        · exact hp q z
        · rw [List.mem_singleton.mp z]; exact okab
    obtain ⟨ps1, eb, h1, h2⟩ := step
    obtain ⟨ps', s7', s9', e, h3, h4⟩ := pairs_loop hls h0 (cell := cell) (s0 := s0) (s1 := s1) (s3 := s3) (s5 := s5) (s6 := s6) xs ps1 (.im (.int (x : Int))) (.im (pairD (a, b))) (fun y hy => hx y (List.mem_cons_of_mem _ hy)) h1 (by simp at hn; omega)
    refine ⟨ps', s7', s9', ?_, h3, by simp; omega⟩
    show loopF (.nm 7) b__law_rules_3 (PyData.int (x : Int) :: natsD xs) _ = _
    rw [loopF_nx rfl eb]
    exact e
theorem m_rules_ex {ns : List Int} (hs : ScrOk ns) : ∃ R : Rules, m__law_rules [scrD ns] = some R.d ∧ RulesOk R := by
  obtain ⟨c0, ec0⟩ := m_cell_ex hs (k := 0) (by decide)
  obtain ⟨cell, ec1⟩ := m_cell_ex hs (k := 1) (by decide)
  obtain ⟨w, h, b, eB, hw1, hw4, hh1, hh3⟩ := m_board_ex c0
  have ec0' : m__law_cell [scrD ns, .int 0] = some (.int c0) := ec0
  have ec1' : m__law_cell [scrD ns, .int 1] = some (.int cell) := ec1
  obtain ⟨n4, e4⟩ : ∃ n4 : Nat, 1 + cell % 4 = (n4 : Int) := ⟨(1 + cell % 4).toNat, by omega⟩
  have hn4 : 1 ≤ n4 ∧ n4 ≤ 4 := by omega
  let B : D := .tuple [.int (w : Int), .int (h : Int), .int (b : Int)]
  let A : D := .str "abcdefghijklmnopqrstuvwxyz"
  have e0 := rng1_len (f := binE dAdd (litE (.int 1)) (binE dMod (varE 2) (litE (.int 4)))) (ρ := [.im (scrD ns), .im B, .im (.int cell), .im A, .no, .no, .no, .no, .no, .no, .no, .no]) (n := n4) (by
    simp only [binE_eq, varE_succ, varE_im, litE_eq, Option.bind_some, dMod_eq]
    rw [if_pos (by decide)]
    simp only [Option.bind_some, dAdd_int, e4]) (by omega)
  obtain ⟨ls, eC, hll, hls⟩ := loopC_ex (t := .nm 7) (c := yesT) (f := e__law_rules_1) (g := fun i : Nat => PyData.int (i : Int)) (r := fun l => PyData.str (ch l)) (P := fun l => isLow l = true) (ρ := [.im (scrD ns), .im B, .im (.int cell), .im A, .no, .no, .no, .no, .no, .no, .no, .no]) (xs := List.range n4) (fun j hj => by
    have hj := List.mem_range.mp hj
    obtain ⟨l, el, hl⟩ := dAt_alpha (cell / 4 + 7 * (j : Int))
    have l1 : Nat.log2 7 + j.log2 < 100000000 := by
      have := Nat.log2_le_self 7
      have := Nat.log2_le_self j
      omega
    refine ⟨l, hl, _, rfl, rfl, ?_⟩
    simp [e__law_rules_1, l1, A, el])
  rw [List.length_range] at hll
  have hn4s : n4 ≤ sizeLine := len_sig _ (by omega)
  have eC' : loopC (.nm 7) yesT e__law_rules_1 [.im (scrD ns), .im B, .im (.int cell), .im A, .no, .no, .no, .no, .no, .no, .no, .no] (natsD (List.range n4)) = some (ls.map fun l => PyData.str (ch l)) := eC
  obtain ⟨strong, hstrong⟩ : ∃ s : Bool, s = decide (cell / 104 % 2 = 0) := ⟨_, rfl⟩
  obtain ⟨kds, s7, eK, hkl, hk⟩ := kinds_loop hs hls (by omega) (w := w) (b := b) ⟨hh1, hh3⟩ (strong := strong) (s2 := .im (.int cell)) (s3 := .im A) ls.length 0 [] .no (by omega) rfl (fun k hk => nomatch hk)
  have er : List.range' 0 ls.length = List.range ls.length := List.range_eq_range'.symm
  rw [er] at eK
  have e1 := rng1_len (f := callE gLen (consA (varE 4) nilA)) (ρ := [.im (scrD ns), .im B, .im (.int cell), .im A, .im (lettD ls), .im (.bool strong), .ow [], .no, .no, .no, .no, .no]) (n := ls.length) (by simp) (by omega)
  obtain ⟨n3, e3⟩ : ∃ n3 : Nat, cell / 208 % 3 = (n3 : Int) := ⟨(cell / 208 % 3).toNat, by omega⟩
  have hn3 : n3 < 3 := by omega
  obtain ⟨ps, s7', s9, eP, hps, hpl⟩ := pairs_loop hls (by omega) (cell := cell) (s0 := .im (scrD ns)) (s1 := .im B) (s3 := .im A) (s5 := .im (.bool strong)) (s6 := .ow (kds.map Kind.d)) (List.range n3) [] s7 .no (fun x hx => by have := List.mem_range.mp hx; omega) (fun q hq => nomatch hq) (by simp; omega)
  have e2 := rng1_len (f := binE dMod (binE dFdiv (varE 2) (litE (.int 208))) (litE (.int 3))) (ρ := [.im (scrD ns), .im B, .im (.int cell), .im A, .im (lettD ls), .im (.bool strong), .ow (kds.map Kind.d), s7, .ow [], .no, .no, .no]) (n := n3) (by
    simp only [binE_eq, varE_succ, varE_im, litE_eq, Option.bind_some, dFdiv_eq]
    rw [if_pos (by decide)]
    simp only [Option.bind_some, dMod_eq]
    rw [if_pos (by decide), e3]) (by omega)
  obtain ⟨d1, h1, f1⟩ := pick_mem (ds := [.str "even", .str "lost", .str "won"]) (L := 3) rfl (by decide) (cell / 624)
  obtain ⟨d2, h2, f2⟩ := pick_mem (ds := [.int 0, .int 0, .int 3, .int 6, .int 200]) (L := 5) rfl (by decide) (cell / 1872)
  obtain ⟨d3, h3, f3⟩ := pick_mem (ds := [.int 0, .int 2, .int 3, .int 2]) (L := 4) rfl (by decide) (cell / 9360)
  obtain ⟨st, rfl, hst⟩ : ∃ st : Str, d1 = .str st ∧ (st = "even" ∨ st = "lost" ∨ st = "won") := by
    simp only [List.mem_cons, List.not_mem_nil, or_false] at h1
    rcases h1 with rfl | rfl | rfl
    · exact ⟨_, rfl, .inl rfl⟩
    · exact ⟨_, rfl, .inr (.inl rfl)⟩
    · exact ⟨_, rfl, .inr (.inr rfl)⟩
  obtain ⟨ca, rfl⟩ : ∃ ca : Int, d2 = .int ca := by
    simp only [List.mem_cons, List.not_mem_nil, or_false] at h2
    rcases h2 with rfl | rfl | rfl | rfl | rfl <;> exact ⟨_, rfl⟩
  obtain ⟨rp, rfl⟩ : ∃ rp : Int, d3 = .int rp := by
    simp only [List.mem_cons, List.not_mem_nil, or_false] at h3
    rcases h3 with rfl | rfl | rfl | rfl <;> exact ⟨_, rfl⟩
  simp at f1 f2 f3
  refine ⟨⟨w, h, b, kds, ps, st, ca, rp⟩, ?_, ⟨hw1, hw4⟩, ⟨hh1, hh3⟩, ?_, fun k hk' => ?_, by simp at hpl ⊢; omega, fun q hq => ⟨hls _ (hps q hq).1, hls _ (hps q hq).2⟩, hst, ?_, fun q hq => ?_⟩
  · simp only [List.map_nil] at eK eP
    have estr : decide (cell / 104 % 2 = 0) = strong := hstrong.symm
    simp [m__law_rules, g__law_rules, ec0', ec1', eB, -rng1I_eq, A, B] at e0 eC' e1 eK eP e2 ⊢
    simp [e0, eC', hn4s, estr, e1, eK, e2, eP, f1, f2, f3, -rng1I_eq, Rules.d_eq, Rules.b_eq]
  · show kds.length ≤ 4
    have := congrArg List.length hkl
    rw [List.length_map] at this
    omega
  · have hk' : k ∈ kds := hk'
    obtain ⟨a1, a2, a3⟩ := hk k hk'
    have hmem : k.letter ∈ ls := by rw [← hkl]; exact List.mem_map.mpr ⟨k, hk', rfl⟩
    refine ⟨hls _ hmem, a1, a2, fun c hc => ?_⟩
    have hcl := a3 c hc
    refine ⟨hls c hcl, ?_⟩
    rw [← hkl] at hcl
    obtain ⟨k', hk2, e⟩ := List.mem_map.mp hcl
    exact ⟨k', hk2, e⟩
  · show 0 < kds.length
    have := congrArg List.length hkl
    rw [List.length_map] at this
    omega
  · obtain ⟨q1, q2⟩ := hps q hq
    rw [← hkl] at q1 q2
    obtain ⟨k1, a1, b1⟩ := List.mem_map.mp q1
    obtain ⟨k2, a2, b2⟩ := List.mem_map.mp q2
    exact ⟨⟨k1, a1, b1⟩, k2, a2, b2⟩
end
end RB
set_option Elab.async false
set_option linter.all false
set_option maxRecDepth 100000
set_option maxHeartbeats 2000000
set_option autoImplicit false
/-! PU26: the law's cells are cells. -/
namespace RB
open PySem PySem.Spec L2
noncomputable section
theorem pick_memT {ds : List D} {L : Nat} (hl : ds.length = L) (h0 : 0 < L) (n : Int) : ∃ d ∈ ds, dAt (.tuple ds) (.int (n % (L : Int))) = some d := pick_mem hl h0 n
theorem dNotIn_ch {c : Nat} {l : List Nat} : dNotIn (.str (ch c)) (.str (txt l)) = some (.bool (!decide (c ∈ l))) := by
  show some (PyData.bool (not (decide (c ∈ (txt l).cps.toList)))) = _
  rw [txt_cps]
theorem up_ok {R : Rules} (hR : RulesOk R) {c : Nat} (hc : isLow c = true) (hk : ∃ k ∈ R.kinds, k.letter = c) : CellOk R (up c) := let_ok (side := 0) hc hk
theorem lo_ok {R : Rules} (hR : RulesOk R) {c : Nat} (hc : isLow c = true) (hk : ∃ k ∈ R.kinds, k.letter = c) : CellOk R c := let_ok (side := 1) hc hk
theorem hash_ok {R : Rules} : CellOk R 35 := ⟨.inr (.inl rfl)⟩
section
variable {R : Rules}
theorem cells_loop {ns : List Int} (hs : ScrOk ns) (hR : RulesOk R) {share : Int} (hsh : 0 < share ∧ share < 100) {s9 s10 s11 s12 : SD} : ∀ (xs : List Nat) (cs : List Nat) (s6 s7 s8 : SD), (∀ x ∈ xs, x < 20) → (∀ c ∈ cs, CellOk R c) → cs.length + xs.length < 1000 →
    ∃ (cs' : List Nat) (s6' s7' s8' : SD), loopF (.nm 6) b__law_cells_1 (natsD xs) [.im (scrD ns), .im (.int 6), .im R.d, .im R.b, .im (.int share), .im (.str (txt cs)), s6, s7, s8, s9, s10, s11, s12] =
      some (.nx [.im (scrD ns), .im (.int 6), .im R.d, .im R.b, .im (.int share), .im (.str (txt cs')), s6', s7', s8', s9, s10, s11, s12]) ∧ (∀ c ∈ cs', CellOk R c) ∧ cs'.length = cs.length + xs.length
  | [], cs, s6, s7, s8, _, hc, _ => ⟨cs, s6, s7, s8, rfl, hc, by simp⟩
  | x :: xs, cs, s6, s7, s8, hx, hc, hn => by
    have hx20 := hx x List.mem_cons_self
    obtain ⟨c, ec⟩ := m_cell_ex hs (k := 7 + x) (by omega)
    obtain ⟨v, ev, _⟩ := m_mixed_ex c (k := x) (by omega)
    have ec' : m__law_cell [scrD ns, .int (7 + (x : Int))] = some (.int c) := by rw [← ec]; simp
    have b1 := bit_eq R.holes x
    obtain ⟨d1, hd1, e1⟩ := pick_memT (ds := R.kinds.map Kind.d) (L := R.kinds.length) (by simp) hR.kne (v / share)
    obtain ⟨k, hk, rfl⟩ := List.mem_map.mp hd1
    have hlow := (hR.ks k hk).low
    have hk128 : k.letter < 128 := by unfold isLow at hlow; simp at hlow; omega
    have hkne := hR.kne
    have hsh2 : share < 1073741824 := by omega
    -- the sign
    have sign : ∃ d : Nat, CellOk R d ∧ ∀ s8, ∃ s7', b__law_cells_1 [.im (scrD ns), .im (.int 6), .im R.d, .im R.b, .im (.int share), .im (.str (txt cs)), .im (.int (x : Int)), s7, s8, s9, s10, s11, s12] = some (.nx [.im (scrD ns), .im (.int 6), .im R.d, .im R.b, .im (.int share), .im (.str (txt cs ++ ch d)), .im (.int (x : Int)), s7', .im (.str (ch d)), s9, s10, s11, s12]) := by
      have hl : cs.length + 1 ≤ sizeLine := len_sig _ (by simp at hn; omega)
      by_cases hh : R.holes.testBit x = true
      · rw [if_pos hh] at b1
        refine ⟨35, hash_ok, fun s8 => ⟨.im (.int v), ?_⟩⟩
        by_cases h0 : v % share = 0
        · by_cases h16 : v / 16 % 2 = 0
          · simp [b__law_cells_1, ec', ev, hsh.1, hsh2, h0, hkne, e1, h16, hk128, b1, hash_ch, hl]
          · simp [b__law_cells_1, ec', ev, hsh.1, hsh2, h0, hkne, e1, h16, b1, hash_ch, hl]
        · simp [b__law_cells_1, ec', ev, hsh.1, h0, b1, hash_ch, hl]
      · rw [if_neg hh] at b1
        by_cases h0 : v % share = 0
        · by_cases h16 : v / 16 % 2 = 0
          · refine ⟨up k.letter, up_ok hR hlow ⟨k, hk, rfl⟩, fun s8 => ⟨.im (.int v), ?_⟩⟩
            simp [b__law_cells_1, ec', ev, hsh.1, hsh2, h0, hkne, e1, h16, hk128, b1, hl]
          · refine ⟨k.letter, lo_ok hR hlow ⟨k, hk, rfl⟩, fun s8 => ⟨.im (.int v), ?_⟩⟩
            simp [b__law_cells_1, ec', ev, hsh.1, hsh2, h0, hkne, e1, h16, b1, hl]
        · refine ⟨46, dot_ok, fun s8 => ⟨.im (.int v), ?_⟩⟩
          simp [b__law_cells_1, ec', ev, hsh.1, h0, b1, dot_ch, hl]
    obtain ⟨d, okd, hb⟩ := sign
    obtain ⟨s7', eb⟩ := hb s8
    rw [ch_txt, txt_app] at eb
    obtain ⟨cs', t6, t7, t8, e, h1, h2⟩ := cells_loop hs hR hsh (s9 := s9) (s10 := s10) (s11 := s11) (s12 := s12) xs (cs ++ [d]) (.im (.int (x : Int))) s7' (.im (.str (txt [d]))) (fun y hy => hx y (List.mem_cons_of_mem _ hy)) (fun c hc' => by
      rcases List.mem_append.mp hc' with z | z
      · exact hc c z
      · rw [List.mem_singleton.mp z]; exact okd) (by simp at hn ⊢; omega)
    refine ⟨cs', t6, t7, t8, ?_, h1, by simp at h2 ⊢; omega⟩
    show loopF (.nm 6) b__law_cells_1 (PyData.int (x : Int) :: natsD xs) _ = _
    rw [loopF_nx rfl eb]
    exact e
theorem dMul_dots : dMul (.str ".") (.int 2) = some (.str (txt [46, 46])) := by
  have h : repS (Str.ofString ".") 2 = txt [46, 46] := by decide +kernel
  show (if (2 : Int) ≤ 2 ∧ (2 : Int) ≤ 1000 ∧ 0 < (Str.ofString ".").length ∧ (Str.ofString ".").length ≤ 1000 ∧ (repS (Str.ofString ".") (2 : Int).toNat).length ≤ sizeLine then some (PyData.str (repS (Str.ofString ".") (2 : Int).toNat)) else none) = _
  have h2 : (2 : Int).toNat = 2 := rfl
  rw [h2, h]
  have l1 : (Str.ofString ".").length = 1 := by decide +kernel
  rw [l1, txt_len, if_pos ⟨by decide, by decide, by decide, by decide, len_sig _ (by decide)⟩]
theorem m_cells_ex {ns : List Int} (hs : ScrOk ns) (hR : RulesOk R) : ∃ cs : List Nat, m__law_cells [scrD ns, .int 6, R.d] = some (.str (txt cs)) ∧ cs.length = R.n ∧ ∀ c ∈ cs, CellOk R c := by
  obtain ⟨c6, e6⟩ := m_cell_ex hs (k := 6) (by decide)
  have e6' : m__law_cell [scrD ns, .int 6] = some (.int c6) := e6
  have hn := hR.n12
  have hw := hR.w
  have hh := hR.h
  have lg : R.wide.log2 + R.high.log2 < 100000000 := by
    have := Nat.log2_le_self R.wide
    have := Nat.log2_le_self R.high
    omega
  have e0 := rng1_len (f := binE dMul (binE dAt (varE 3) (litE (.int 0))) (binE dAt (varE 3) (litE (.int 1)))) (ρ := [.im (scrD ns), .im (.int 6), .im R.d, .im R.b, .im (.int (4 + c6 % 3)), .im (.str (txt [])), .no, .no, .no, .no, .no, .no, .no]) (n := R.n) (by simp [lg, Rules.n]) (by omega)
  obtain ⟨cs, s6, s7, s8, eL, hok, hlen⟩ := cells_loop hs hR (share := 4 + c6 % 3) (by omega) (s9 := .no) (s10 := .no) (s11 := .no) (s12 := .no) (List.range R.n) [] .no .no .no (fun x hx => by have := List.mem_range.mp hx; omega) (fun c hc => nomatch hc) (by simp; omega)
  rw [List.length_range, List.length_nil, Nat.zero_add] at hlen
  have hle : cs.length ≤ 1000 := by omega
  have hwl : R.wide ≤ cs.length := by
    rw [hlen]
    unfold Rules.n
    calc R.wide = R.wide * 1 := (Nat.mul_one _).symm
      _ ≤ R.wide * R.high := Nat.mul_le_mul_left _ hh.1
  have cl := cut_lo cs R.wide hwl
  have chh := cut_hi cs R.wide hwl
  have stay : ∀ x, x = some (PyData.str (txt cs)) → ∃ cs' : List Nat, x = some (.str (txt cs')) ∧ cs'.length = R.n ∧ ∀ c ∈ cs', CellOk R c := fun x h => ⟨cs, h, hlen, hok⟩
  by_cases hp : 0 < R.pairs.length
  · by_cases hw3 : 3 < R.wide
    · have hw3' : (3 : Int) < R.wide := by omega
      by_cases h35 : 35 ∈ cs.take R.wide
      · exact stay _ (by simp [m__law_cells, g__law_cells, e6', -rng1I_eq, empty_txt, e0, eL, hp, hw3, hw3', hle, cl, hash_ch, dNotIn_ch, h35])
      · obtain ⟨q, eq⟩ : ∃ q, R.pairs[0]? = some q := ⟨_, List.getElem?_eq_getElem hp⟩
        obtain ⟨⟨k1, hk1, el1⟩, k2, hk2, el2⟩ := hR.pk q (List.mem_of_getElem? eq)
        obtain ⟨q1, q2⟩ := hR.ps q (List.mem_of_getElem? eq)
        have eat : dAt (.tuple (R.pairs.map pairD)) (.int 0) = some (.tuple [.str (ch q.1), .str (ch q.2)]) := by
          show atI (R.pairs.map pairD) 0 = _
          have := at_list (ds := R.pairs.map pairD) (i := 0) (d := pairD q) (by rw [List.getElem?_map, eq]; rfl)
          exact this
        have hw4 : R.wide = 4 := by omega
        have a1 : q.1 < 128 := by unfold isLow at q1; simp at q1; omega
        have a2 : q.2 < 128 := by unfold isLow at q2; simp at q2; omega
        have hdrop : cs.length = 4 + (cs.length - 4) := by omega
        have sz1 : 3 + (cs.length - 4) ≤ sizeLine := len_sig _ (by omega)
        have sz2 : 4 + (cs.length - 4) ≤ sizeLine := len_sig _ (by omega)
        rw [hw4] at cl chh h35
        have cl' : cutS (txt cs) none (some 4) = txt (cs.take 4) := cl
        have chh' : cutS (txt cs) (some 4) none = txt (cs.drop 4) := chh
        have build : ∀ a b : Nat, CellOk R a → CellOk R b → (a :: 46 :: 46 :: b :: cs.drop 4).length = R.n ∧ ∀ c ∈ (a :: 46 :: 46 :: b :: cs.drop 4), CellOk R c := fun a b oka okb => by
          refine ⟨by simp only [List.length_cons, List.length_drop]; omega, fun c hc => ?_⟩
          simp only [List.mem_cons] at hc
          rcases hc with rfl | rfl | rfl | rfl | hc
          · exact oka
          · exact dot_ok
          · exact dot_ok
          · exact okb
          · exact hok c (List.mem_of_mem_drop hc)
        have okA := lo_ok hR q1 ⟨k1, hk1, el1⟩
        have okB := lo_ok hR q2 ⟨k2, hk2, el2⟩
        have okA' := up_ok hR q1 ⟨k1, hk1, el1⟩
        have okB' := up_ok hR q2 ⟨k2, hk2, el2⟩
        have four : (4 : Int) - 2 = 2 := by decide
        by_cases h10 : c6 / 10 % 3 = 0
        · by_cases h5 : c6 / 5 % 2 = 0
          · obtain ⟨b1, b2⟩ := build _ _ okA' okB'
            refine ⟨_, ?_, b1, b2⟩
            simp [m__law_cells, g__law_cells, e6', -rng1I_eq, empty_txt, e0, eL, hp, hw4, hle, cl', chh', hash_ch, dNotIn_ch, h35, eat, h5, h10, a1, a2, dMul_dots, sz1, sz2]
            simp [ch_txt, txt_app]
          · obtain ⟨b1, b2⟩ := build _ _ okA okB
            refine ⟨_, ?_, b1, b2⟩
            simp [m__law_cells, g__law_cells, e6', -rng1I_eq, empty_txt, e0, eL, hp, hw4, hle, cl', chh', hash_ch, dNotIn_ch, h35, eat, h5, h10, a1, a2, dMul_dots, sz1, sz2]
            simp [ch_txt, txt_app]
        · by_cases h5 : c6 / 5 % 2 = 0
          · exact stay _ (by simp [m__law_cells, g__law_cells, e6', -rng1I_eq, empty_txt, e0, eL, hp, hw4, hle, cl', hash_ch, dNotIn_ch, h35, eat, h5, h10, a1, a2])
          · exact stay _ (by simp [m__law_cells, g__law_cells, e6', -rng1I_eq, empty_txt, e0, eL, hp, hw4, hle, cl', hash_ch, dNotIn_ch, h35, eat, h5, h10])
    · have hw3' : ¬ (3 : Int) < R.wide := by omega
      exact stay _ (by simp [m__law_cells, g__law_cells, e6', -rng1I_eq, empty_txt, e0, eL, hp, hw3, hw3', hle, cl])
  · exact stay _ (by simp [m__law_cells, g__law_cells, e6', -rng1I_eq, empty_txt, e0, eL, hp, hle, cl])
end
end
end RB
set_option Elab.async false
set_option linter.all false
set_option maxRecDepth 100000
set_option maxHeartbeats 2000000
set_option autoImplicit false
/-! PU27: parts of the law's place. -/
namespace RB
open PySem PySem.Spec L2
noncomputable section
theorem loopF_or {α : Type} {t : Tg} {b : FS} {g : α → D} (P : D → Prop) (J : Sl → Prop) : ∀ {xs : List α} {ρ : Sl}, (∀ x ∈ xs, ∀ ρ, J ρ → ∃ ρ1, t.s (g x) ρ = some ρ1 ∧ ((∃ d, b ρ1 = some (.rt d) ∧ P d) ∨ ∃ ρ2, b ρ1 = some (.nx ρ2) ∧ J ρ2)) → J ρ →
    (∃ d, loopF t b (xs.map g) ρ = some (.rt d) ∧ P d) ∨ ∃ ρ', loopF t b (xs.map g) ρ = some (.nx ρ') ∧ J ρ'
  | [], ρ, _, h => .inr ⟨ρ, rfl, h⟩
  | x :: xs, ρ, hs, h => by
    obtain ⟨ρ1, e1, q⟩ := hs x List.mem_cons_self ρ h
    rcases q with ⟨d, e2, hd⟩ | ⟨ρ2, e2, h2⟩
    · exact .inl ⟨d, by rw [List.map_cons, loopF_rt e1 e2], hd⟩
    · rw [List.map_cons, loopF_nx e1 e2]
      exact loopF_or P J (fun y hy => hs y (List.mem_cons_of_mem _ hy)) h2
def IsB (d : D) : Prop := ∃ b : Bool, d = .bool b
theorem dIn_st {x : Str} {ds : List D} (h1 : okD (.str x) = true) (h2 : okD (.tuple ds) = true) : dIn (.str x) (.tuple ds) = some (.bool (inD (.str x) ds)) := by
  show (if okD (.str x) = true ∧ okD (.tuple ds) = true then some (PyData.bool (id (inD (.str x) ds))) else none) = _
  rw [if_pos ⟨h1, h2⟩]
  rfl
section
variable {R : Rules}
theorem m_may_ex (hR : RulesOk R) {c : Nat} (hc : c < 128) : ∃ b : Bool, m__law_may [R.d, .str (ch c)] = some (.bool b) := by
  have hlc := low_lt hc
  have key := loopF_or (t := .nm 2) (b := b__law_may_5) (g := Kind.d) IsB (fun ρ => ∃ v, ρ = [.im R.d, .im (.str (ch c)), v, .no, .no, .no, .no]) (xs := R.kinds) (ρ := [.im R.d, .im (.str (ch c)), .no, .no, .no, .no, .no]) (fun k hk ρ ⟨v, e⟩ => by
    subst e
    have okk := hR.ks k hk
    have h1 := low200 okk.low
    have h2 : low c < 200 := by omega
    refine ⟨[.im R.d, .im (.str (ch c)), .im k.d, .no, .no, .no, .no], rfl, ?_⟩
    by_cases h : k.letter = low c
    · left
      have e1 := loopC_eq (t := .nm 5) (c := c__law_may_1) (f := e__law_may_2) (g := Way.d) (r := Way.d) (p := fun w => w.once) (ρ := [.im R.d, .im (.str (ch c)), .im k.d, .no, .no, .no, .no]) (xs := k.ways) (fun w _ => ⟨[.im R.d, .im (.str (ch c)), .im k.d, .no, .no, .im w.d, .no], rfl, by simp [c__law_may_1], fun _ => rfl⟩)
      have e2 := loopC_eq (t := .nm 6) (c := c__law_may_3) (f := e__law_may_4) (g := pairD) (r := pairD) (p := fun q => inD (.str (ch (low c))) [.str (ch q.1), .str (ch q.2)]) (ρ := [.im R.d, .im (.str (ch c)), .im k.d, .im (.list ((k.ways.filter fun w => w.once).map Way.d)), .no, .no, .no]) (xs := R.pairs) (fun q hq => by
        have ok := good_pairD' (hR.ps q hq)
        have eI := dIn_st (x := ch (low c)) (ds := [.str (ch q.1), .str (ch q.2)]) (okD_str (ok_ch h2)) (ok.ok (by decide))
        refine ⟨[.im R.d, .im (.str (ch c)), .im k.d, .im (.list ((k.ways.filter fun w => w.once).map Way.d)), .no, .no, .im (pairD q)], rfl, ?_, fun _ => rfl⟩
        simp [c__law_may_3, hc, pairD, eI])
      have l1 : k.ways.length ≤ sizeLine := len_sig _ (by have := okk.few; omega)
      have l2 : R.pairs.length ≤ sizeLine := len_sig _ (by have := hR.pfew; omega)
      refine ⟨_, ?_, ⟨decide (0 < ((k.ways.filter fun w => w.once).length : Int) + ((R.pairs.filter fun q => inD (.str (ch (low c))) [.str (ch q.1), .str (ch q.2)]).length : Int)), rfl⟩⟩
      simp [b__law_may_5, hc, h1, h2, h, e1, e2, l1, l2]
    · right
      refine ⟨[.im R.d, .im (.str (ch c)), .im k.d, .no, .no, .no, .no], ?_, _, rfl⟩
      simp [b__law_may_5, hc, h1, h2, h]) ⟨_, rfl⟩
  rcases key with ⟨d, e, b, rfl⟩ | ⟨ρ', e, v, rfl⟩
  · exact ⟨b, by simp [m__law_may, g__law_may, e]⟩
  · exact ⟨false, by simp [m__law_may, g__law_may, e]⟩
theorem m_royals_l_ex (hR : RulesOk R) {cs : List Nat} (h : ∀ c ∈ cs, c < 128) (hl : cs.length ≤ 1000) (side : Nat) : ∃ xs : List Nat, m__law_royals [R.d, .str (txt cs), .int (side : Int)] = some (.list (natsD xs)) := by
  have e1 := loopC_eq (t := .nm 4) (c := c__law_royals_1) (f := e__law_royals_2) (g := Kind.d) (r := fun k => PyData.str (ch k.letter)) (p := fun k => k.royal) (ρ := [.im R.d, .im (.str (txt cs)), .im (.int (side : Int)), .no, .no, .no]) (xs := R.kinds) (fun k _ => ⟨[.im R.d, .im (.str (txt cs)), .im (.int (side : Int)), .no, .im k.d, .no], rfl, by simp [c__law_royals_1], fun _ => by simp [e__law_royals_2]⟩)
  have e2 := m_lown_eq h hl side
  have okl : okD (.list ((R.kinds.filter fun k => k.royal).map fun k => PyData.str (ch k.letter))) = true := (GoodD.list (n := 0) fun d hd => by
    obtain ⟨k, hk, rfl⟩ := List.mem_map.mp hd
    exact good_str (ok_ch (low200 (hR.ks k (List.mem_filter.mp hk).1).low))).ok (by decide)
  have e3 := loopC_eq (t := .nm 5) (c := c__law_royals_3) (f := e__law_royals_4) (g := fun x : Nat => PyData.int (x : Int)) (r := fun x : Nat => PyData.int (x : Int)) (p := fun x => inD (.str (ch (low (cs.getD x 0)))) ((R.kinds.filter fun k => k.royal).map fun k => PyData.str (ch k.letter))) (ρ := [.im R.d, .im (.str (txt cs)), .im (.int (side : Int)), .im (.list ((R.kinds.filter fun k => k.royal).map fun k => PyData.str (ch k.letter))), .no, .no]) (xs := sqWhere (ownP side) cs) (fun x hx => by
    obtain ⟨c, ec, _⟩ := mem_sqWhere.mp hx
    have ea := atS ec hl
    have hc := h c (List.mem_of_getElem? ec)
    have hlc := low_lt hc
    have eg : cs.getD x 0 = c := by simp [List.getD, ec]
    have eI := dIn_sl (x := ch (low c)) (okD_str (ok_ch (by omega))) okl
    refine ⟨[.im R.d, .im (.str (txt cs)), .im (.int (side : Int)), .im (.list ((R.kinds.filter fun k => k.royal).map fun k => PyData.str (ch k.letter))), .no, .im (.int (x : Int))], rfl, ?_, fun _ => rfl⟩
    rw [eg]
    simp [c__law_royals_3, ea, hc, eI])
  have l1 : R.kinds.length ≤ sizeLine := len_sig _ (by have := hR.few; omega)
  have l2 : (sqWhere (ownP side) cs).length ≤ sizeLine := len_sig _ (by
    unfold sqWhere
    have := List.length_filter_le (fun i => ownP side (cs.getD i 0)) (List.range cs.length)
    rw [List.length_range] at this
    omega)
  exact ⟨_, by simp [m__law_royals, g__law_royals, e1, e2, e3, l1, l2]; rfl⟩
theorem m_lsteps_ex {w : Way} (h : WayOk w) {side : Nat} (hs : side = 0 ∨ side = 1) : ∃ L : List (Int × Int), m__law_steps [w.d, .int (side : Int)] = some (.list (L.map prD)) := by
  have e := fun x2 x3 => loopC_eq (t := .tp [5, 6]) (c := yesT) (f := e__law_steps_2) (g := prD) (r := fun a : Int × Int => prD (a.1, a.2 * (1 - 2 * (side : Int)))) (p := fun _ => true) (ρ := [.im w.d, .im (.int (side : Int)), x2, x3, .im (.list ((rawSteps w).map prD)), .no, .no]) (xs := rawSteps w) (fun a ha => by
    have ok := rawSteps_ok h a ha
    have l0 : Nat.log2 2 + side.log2 < 100000000 := by
      have := Nat.log2_le_self 2
      have := Nat.log2_le_self side
      omega
    have l1 : a.2.natAbs.log2 + (1 - 2 * (side : Int)).natAbs.log2 < 100000000 := log_small (by have := ok.y; omega) (by omega)
    refine ⟨[.im w.d, .im (.int (side : Int)), x2, x3, .im (.list ((rawSteps w).map prD)), .im (.int a.1), .im (.int a.2)], rfl, rfl, fun _ => ?_⟩
    simp [e__law_steps_2, l0, l1])
  have hlen : (rawSteps w).length ≤ sizeLine := len_sig _ (by
    have := sideSteps_len w 0
    unfold sideSteps at this
    simp at this
    omega)
  refine ⟨(rawSteps w).map fun a => (a.1, a.2 * (1 - 2 * (side : Int))), ?_⟩
  have e' := e (.im (.int w.dx)) (.im (.int w.dy))
  rw [List.filter_eq_self.mpr fun _ _ => rfl] at e'
  have ok1 : PyData.strOk w.turn = true := by rcases h.turn with e | e | e <;> rw [e] <;> simp
  rcases h.turn with et | et | et
  · simp [rawSteps, et] at e' hlen
    simp [m__law_steps, g__law_steps, et, e', rawSteps]
  · simp [rawSteps, et] at e' hlen
    simp [m__law_steps, g__law_steps, et, e', rawSteps]
  · simp [rawSteps, et] at e' hlen
    simp [m__law_steps, g__law_steps, et, loopF, b__law_steps_1, e', rawSteps]
theorem m_spot_ex (hR : RulesOk R) (c r : Int) : ∃ q : Option Nat, m__law_spot [R.d, .int c, .int r] = some (optI q) ∧ ∀ s, q = some s → s < R.n := by
  have hw := hR.w
  have hh := hR.h
  by_cases h1 : 0 ≤ c
  · by_cases h2 : c < (R.wide : Int)
    · by_cases h3 : 0 ≤ r
      · by_cases h4 : r < (R.high : Int)
        · obtain ⟨a, b⟩ := sq_lt h1 h2 h3 h4
          have hl : r.natAbs.log2 + R.wide.log2 < 100000000 := log_small (y := (R.wide : Int)) (by omega) (by omega)
          refine ⟨some (r * (R.wide : Int) + c).toNat, ?_, fun s hs => by cases hs; exact b⟩
          simp [m__law_spot, g__law_spot, Rules.b_eq, h1, h2, h3, h4, hl, optI, Int.not_le.mpr h2, Int.not_le.mpr h4]
          omega
        · exact ⟨none, by simp [m__law_spot, g__law_spot, Rules.b_eq, h1, h2, h3, h4, optI, Int.not_lt.mp h4], fun s hs => nomatch hs⟩
      · exact ⟨none, by simp [m__law_spot, g__law_spot, Rules.b_eq, h1, h2, h3, optI], fun s hs => nomatch hs⟩
    · exact ⟨none, by simp [m__law_spot, g__law_spot, Rules.b_eq, h1, h2, optI, Int.not_lt.mp h2], fun s hs => nomatch hs⟩
  · exact ⟨none, by simp [m__law_spot, g__law_spot, Rules.b_eq, h1, optI], fun s hs => nomatch hs⟩
end
end
end RB
set_option Elab.async false
set_option linter.all false
set_option maxRecDepth 100000
set_option maxHeartbeats 2000000
set_option autoImplicit false
/-! PU28: the law's place is a place. -/
namespace RB
open PySem PySem.Spec L2
noncomputable section
theorem okD_opt (q : Option Nat) : okD (optI q) = true := by cases q <;> simp [optI]
theorem optI_some {s : Nat} : optI (some s) = .int (s : Int) := rfl
theorem dIsNot_opt (q : Option Nat) : dIsNot (optI q) .none = some (.bool q.isSome) := by cases q <;> simp [optI]
section
variable {R : Rules}
theorem over_in (hR : RulesOk R) {cs : List Nat} (h : ∀ c ∈ cs, c < 128) (hlen : cs.length = R.n) {bt a : Nat} {s4 s6 s7 s8 : SD} (L : List (Int × Int)) (s9 s10 s11 s12 : SD) :
    (∃ d, loopF (.tp [9, 10]) b__law_over_by_1 (L.map prD) [.im R.d, .im (.str (txt cs)), .im (.int (bt : Int)), .im (.int (a : Int)), s4, .im (.int (R.wide : Int)), s6, s7, s8, s9, s10, s11, s12] = some (.rt d) ∧ IsB d) ∨
      ∃ ρ', loopF (.tp [9, 10]) b__law_over_by_1 (L.map prD) [.im R.d, .im (.str (txt cs)), .im (.int (bt : Int)), .im (.int (a : Int)), s4, .im (.int (R.wide : Int)), s6, s7, s8, s9, s10, s11, s12] = some (.nx ρ') ∧ ∃ t9 t10 t11 t12, ρ' = [.im R.d, .im (.str (txt cs)), .im (.int (bt : Int)), .im (.int (a : Int)), s4, .im (.int (R.wide : Int)), s6, s7, s8, t9, t10, t11, t12] := by
  have hw := hR.w
  have w1 : 0 < R.wide := hw.1
  have w2 : (R.wide : Int) < 1073741824 := by omega
  have hle : cs.length ≤ 1000 := by have := hR.n12; omega
  refine loopF_or IsB (fun ρ' => ∃ t9 t10 t11 t12, ρ' = [.im R.d, .im (.str (txt cs)), .im (.int (bt : Int)), .im (.int (a : Int)), s4, .im (.int (R.wide : Int)), s6, s7, s8, t9, t10, t11, t12]) (fun x _ ρ ⟨t9, t10, t11, t12, e⟩ => ?_) ⟨_, _, _, _, rfl⟩
  subst e
  obtain ⟨q1, e1, k1⟩ := m_spot_ex hR ((bt : Int) % R.wide - x.1) ((bt : Int) / R.wide - x.2)
  obtain ⟨q2, e2, k2⟩ := m_spot_ex hR ((bt : Int) % R.wide + x.1) ((bt : Int) / R.wide + x.2)
  have eE := dEq_ok (okD_opt q2) (okD_int (i := (a : Int)))
  refine ⟨[.im R.d, .im (.str (txt cs)), .im (.int (bt : Int)), .im (.int (a : Int)), s4, .im (.int (R.wide : Int)), s6, s7, s8, .im (.int x.1), .im (.int x.2), t11, t12], rfl, ?_⟩
  cases hq : PyData.eqv (optI q2) (.int (a : Int)) with
  | false =>
    rw [hq] at eE
    right
    refine ⟨[.im R.d, .im (.str (txt cs)), .im (.int (bt : Int)), .im (.int (a : Int)), s4, .im (.int (R.wide : Int)), s6, s7, s8, .im (.int x.1), .im (.int x.2), .im (optI q1), .im (optI q2)], ?_, _, _, _, _, rfl⟩
    simp [b__law_over_by_1, w1, w2, e1, e2, eE]
  | true =>
    rw [hq] at eE
    cases q1 with
    | none =>
      right
      refine ⟨[.im R.d, .im (.str (txt cs)), .im (.int (bt : Int)), .im (.int (a : Int)), s4, .im (.int (R.wide : Int)), s6, s7, s8, .im (.int x.1), .im (.int x.2), .im (optI none), .im (optI q2)], ?_, _, _, _, _, rfl⟩
      simp [b__law_over_by_1, w1, w2, e1, e2, eE, dIsNot_opt]
    | some s =>
      have hs : s < cs.length := by rw [hlen]; exact k1 s rfl
      have ec : cs[s]? = some cs[s] := List.getElem?_eq_getElem hs
      have hc := h _ (List.getElem_mem hs)
      generalize cs[s] = c at ec hc
      have ea := atS ec hle
      have hc2 : c < 200 := by omega
      by_cases h46 : c = 46
      · left
        refine ⟨.bool true, ?_, true, rfl⟩
        simp [b__law_over_by_1, w1, w2, e1, e2, eE, optI_some, ea, dot_ch, hc2, h46]
      · right
        refine ⟨[.im R.d, .im (.str (txt cs)), .im (.int (bt : Int)), .im (.int (a : Int)), s4, .im (.int (R.wide : Int)), s6, s7, s8, .im (.int x.1), .im (.int x.2), .im (optI (some s)), .im (optI q2)], ?_, _, _, _, _, rfl⟩
        simp [b__law_over_by_1, w1, w2, e1, e2, eE, optI_some, ea, dot_ch, hc2, h46]
abbrev Jo (R : Rules) (cs : List Nat) (bt a : Nat) (side : Nat) (ρ : Sl) : Prop := ∃ t6 t7 t8 t9 t10 t11 t12, ρ = [.im R.d, .im (.str (txt cs)), .im (.int (bt : Int)), .im (.int (a : Int)), .im (.int (side : Int)), .im (.int (R.wide : Int)), t6, t7, t8, t9, t10, t11, t12]
theorem m_over_by_ex (hR : RulesOk R) {cs : List Nat} (h : ∀ c ∈ cs, c < 128) (hlen : cs.length = R.n) {bt a : Nat} (ha : a < cs.length) {side : Nat} (hs : side = 0 ∨ side = 1) : ∃ b : Bool, m__law_over_by [R.d, .str (txt cs), .int (bt : Int), .int (a : Int), .int (side : Int)] = some (.bool b) := by
  have hle : cs.length ≤ 1000 := by have := hR.n12; omega
  have ec : cs[a]? = some cs[a] := List.getElem?_eq_getElem ha
  have hc := h _ (List.getElem_mem ha)
  generalize cs[a] = c at ec hc
  have ea := atS ec hle
  have hlc := low_lt hc
  have key := loopF_or (t := .nm 6) (b := b__law_over_by_3) (g := Kind.d) IsB (Jo R cs bt a side) (xs := R.kinds) (ρ := [.im R.d, .im (.str (txt cs)), .im (.int (bt : Int)), .im (.int (a : Int)), .im (.int (side : Int)), .im (.int (R.wide : Int)), .no, .no, .no, .no, .no, .no, .no]) (fun k hk ρ ⟨t6, t7, t8, t9, t10, t11, t12, e⟩ => by
    subst e
    have okk := hR.ks k hk
    have h1 := low200 okk.low
    refine ⟨[.im R.d, .im (.str (txt cs)), .im (.int (bt : Int)), .im (.int (a : Int)), .im (.int (side : Int)), .im (.int (R.wide : Int)), .im k.d, t7, t8, t9, t10, t11, t12], rfl, ?_⟩
    have key2 := loopF_or (t := .nm 7) (b := b__law_over_by_2) (g := Way.d) IsB (fun ρ => ∃ t7 t8 t9 t10 t11 t12, ρ = [.im R.d, .im (.str (txt cs)), .im (.int (bt : Int)), .im (.int (a : Int)), .im (.int (side : Int)), .im (.int (R.wide : Int)), .im k.d, t7, t8, t9, t10, t11, t12]) (xs := k.ways) (ρ := [.im R.d, .im (.str (txt cs)), .im (.int (bt : Int)), .im (.int (a : Int)), .im (.int (side : Int)), .im (.int (R.wide : Int)), .im k.d, t7, t8, t9, t10, t11, t12]) (fun w hw ρ ⟨t7, t8, t9, t10, t11, t12, e⟩ => by
      subst e
      have okw := okk.ways w hw
      have okwd : PyData.strOk w.word = true := by rcases okw.word with e | e | e <;> rw [e] <;> simp
      have oku := ok_use okw.use
      refine ⟨[.im R.d, .im (.str (txt cs)), .im (.int (bt : Int)), .im (.int (a : Int)), .im (.int (side : Int)), .im (.int (R.wide : Int)), .im k.d, .im w.d, t8, t9, t10, t11, t12], rfl, ?_⟩
      have h2 : low c < 200 := by omega
      -- what fits is
      have fits : ∃ f : Bool, (andE (binE dEq (binE dAt (varE 6) (litE (.int 0))) (mE gLower (binE dAt (varE 1) (varE 3)))) (andE (notE (binE dAt (varE 6) (litE (.int 1)))) (andE (binE dEq (binE dAt (varE 7) (litE (.int 0))) (litE (.str "ride"))) (binE dAt (varE 7) (litE (.int 5)))))) [.im R.d, .im (.str (txt cs)), .im (.int (bt : Int)), .im (.int (a : Int)), .im (.int (side : Int)), .im (.int (R.wide : Int)), .im k.d, .im w.d, t8, t9, t10, t11, t12] = some (.bool f) := by
        by_cases g1 : k.letter = low c
        · cases g2 : k.royal with
          | true => exact ⟨false, by simp [ea, hc, h1, h2, g1, g2]⟩
          | false =>
            by_cases g3 : w.word = "ride"
            · exact ⟨w.once, by simp [ea, hc, h1, h2, g1, g2, g3]⟩
            · exact ⟨false, by simp [ea, hc, h1, h2, g1, g2, g3, okwd]⟩
        · exact ⟨false, by simp [ea, hc, h1, h2, g1]⟩
      obtain ⟨f, ef⟩ := fits
      have stay : b__law_over_by_2 [.im R.d, .im (.str (txt cs)), .im (.int (bt : Int)), .im (.int (a : Int)), .im (.int (side : Int)), .im (.int (R.wide : Int)), .im k.d, .im w.d, t8, t9, t10, t11, t12] = some (.nx [.im R.d, .im (.str (txt cs)), .im (.int (bt : Int)), .im (.int (a : Int)), .im (.int (side : Int)), .im (.int (R.wide : Int)), .im k.d, .im w.d, .im (.bool f), t9, t10, t11, t12]) →
          (∃ d, b__law_over_by_2 [.im R.d, .im (.str (txt cs)), .im (.int (bt : Int)), .im (.int (a : Int)), .im (.int (side : Int)), .im (.int (R.wide : Int)), .im k.d, .im w.d, t8, t9, t10, t11, t12] = some (.rt d) ∧ IsB d) ∨ ∃ ρ2, b__law_over_by_2 [.im R.d, .im (.str (txt cs)), .im (.int (bt : Int)), .im (.int (a : Int)), .im (.int (side : Int)), .im (.int (R.wide : Int)), .im k.d, .im w.d, t8, t9, t10, t11, t12] = some (.nx ρ2) ∧ ∃ t7 t8 t9 t10 t11 t12, ρ2 = [.im R.d, .im (.str (txt cs)), .im (.int (bt : Int)), .im (.int (a : Int)), .im (.int (side : Int)), .im (.int (R.wide : Int)), .im k.d, t7, t8, t9, t10, t11, t12] := fun e => .inr ⟨_, e, _, _, _, _, _, _, rfl⟩
      have asg : ∀ k2 : FS, seqS (asgS 8 [] (andE (binE dEq (binE dAt (varE 6) (litE (.int 0))) (mE gLower (binE dAt (varE 1) (varE 3)))) (andE (notE (binE dAt (varE 6) (litE (.int 1)))) (andE (binE dEq (binE dAt (varE 7) (litE (.int 0))) (litE (.str "ride"))) (binE dAt (varE 7) (litE (.int 5))))))) k2 [.im R.d, .im (.str (txt cs)), .im (.int (bt : Int)), .im (.int (a : Int)), .im (.int (side : Int)), .im (.int (R.wide : Int)), .im k.d, .im w.d, t8, t9, t10, t11, t12] = k2 [.im R.d, .im (.str (txt cs)), .im (.int (bt : Int)), .im (.int (a : Int)), .im (.int (side : Int)), .im (.int (R.wide : Int)), .im k.d, .im w.d, .im (.bool f), t9, t10, t11, t12] := fun k2 => by
        refine seqS_nx ?_
        rw [asgS_eq, frz_nil, ef]
        rfl
      have eb : b__law_over_by_2 [.im R.d, .im (.str (txt cs)), .im (.int (bt : Int)), .im (.int (a : Int)), .im (.int (side : Int)), .im (.int (R.wide : Int)), .im k.d, .im w.d, t8, t9, t10, t11, t12] = (ifS [] (andT (tstT (varE 8)) (andT (binT dNe (binE dAt (varE 7) (litE (.int 4))) (litE (.str "take"))) (binT dNe (binE dAt (varE 7) (litE (.int 6))) (litE (.int 1))))) (forS (.tp [9, 10]) [] (seqI (callD 2 m__law_steps (consA (varE 7) (consA (varE 4) nilA)))) b__law_over_by_1) nilS) [.im R.d, .im (.str (txt cs)), .im (.int (bt : Int)), .im (.int (a : Int)), .im (.int (side : Int)), .im (.int (R.wide : Int)), .im k.d, .im w.d, .im (.bool f), t9, t10, t11, t12] := asg _
      rw [eb] at stay ⊢
      cases f with
      | false => exact stay (by simp)
      | true =>
        by_cases g4 : w.use = "take"
        · exact stay (by simp [g4])
        · by_cases g5 : w.most = 1
          · exact stay (by simp [g4, g5, oku])
          · obtain ⟨L, eS⟩ := m_lsteps_ex okw hs
            have inn := over_in hR h hlen (bt := bt) (a := a) (s4 := .im (.int (side : Int))) (s6 := .im k.d) (s7 := .im w.d) (s8 := .im (.bool true)) L t9 t10 t11 t12
            have ee : (ifS [] (andT (tstT (varE 8)) (andT (binT dNe (binE dAt (varE 7) (litE (.int 4))) (litE (.str "take"))) (binT dNe (binE dAt (varE 7) (litE (.int 6))) (litE (.int 1))))) (forS (.tp [9, 10]) [] (seqI (callD 2 m__law_steps (consA (varE 7) (consA (varE 4) nilA)))) b__law_over_by_1) nilS) [.im R.d, .im (.str (txt cs)), .im (.int (bt : Int)), .im (.int (a : Int)), .im (.int (side : Int)), .im (.int (R.wide : Int)), .im k.d, .im w.d, .im (.bool true), t9, t10, t11, t12] = loopF (.tp [9, 10]) b__law_over_by_1 (L.map prD) [.im R.d, .im (.str (txt cs)), .im (.int (bt : Int)), .im (.int (a : Int)), .im (.int (side : Int)), .im (.int (R.wide : Int)), .im k.d, .im w.d, .im (.bool true), t9, t10, t11, t12] := by
              simp [g4, g5, oku, eS]
            rw [ee]
            rcases inn with hd | ⟨ρ', e, r9, r10, r11, r12, rfl⟩
            · exact .inl hd
            · exact .inr ⟨_, e, _, _, _, _, _, _, rfl⟩) ⟨_, _, _, _, _, _, rfl⟩
    have ef : b__law_over_by_3 [.im R.d, .im (.str (txt cs)), .im (.int (bt : Int)), .im (.int (a : Int)), .im (.int (side : Int)), .im (.int (R.wide : Int)), .im k.d, t7, t8, t9, t10, t11, t12] = loopF (.nm 7) b__law_over_by_2 (k.ways.map Way.d) [.im R.d, .im (.str (txt cs)), .im (.int (bt : Int)), .im (.int (a : Int)), .im (.int (side : Int)), .im (.int (R.wide : Int)), .im k.d, t7, t8, t9, t10, t11, t12] := by simp [b__law_over_by_3]
    rw [ef]
    rcases key2 with hd | ⟨ρ', e, r7, r8, r9, r10, r11, r12, rfl⟩
    · exact .inl hd
    · exact .inr ⟨_, e, _, _, _, _, _, _, _, rfl⟩) ⟨_, _, _, _, _, _, _, rfl⟩
  rcases key with ⟨d, e, b, rfl⟩ | ⟨ρ', e, r6, r7, r8, r9, r10, r11, r12, rfl⟩
  · exact ⟨b, by simp [m__law_over_by, g__law_over_by, e]⟩
  · exact ⟨false, by simp [m__law_over_by, g__law_over_by, e]⟩
end
end
end RB
set_option Elab.async false
set_option linter.all false
set_option maxRecDepth 100000
set_option maxHeartbeats 2000000
set_option autoImplicit false
/-! PU29: the law's place is a place. -/
namespace RB
open PySem PySem.Spec L2
noncomputable section
abbrev prN (q : Nat × Nat) : D := .tuple [.int (q.1 : Int), .int (q.2 : Int)]
theorem dNotIn_il {x : Int} {ds : List D} (h2 : okD (.list ds) = true) : dNotIn (.int x) (.list ds) = some (.bool (!inD (.int x) ds)) := by
  show (if okD (.int x) = true ∧ okD (.list ds) = true then some (PyData.bool (not (inD (.int x) ds))) else none) = _
  rw [if_pos ⟨okD_int, h2⟩]
theorem okD_nats (xs : List Nat) : okD (.list (natsD xs)) = true := okD_ins xs
section
variable {R : Rules}
theorem lover_in (hR : RulesOk R) {cs : List Nat} (h : ∀ c ∈ cs, c < 128) (hlen : cs.length = R.n) {side fresh a : Nat} (hs : side = 0 ∨ side = 1) (ha : a < cs.length) : ∀ (xs : List Nat) (fs : List (Nat × Nat)) (s6 : SD), (∀ x ∈ xs, x < cs.length) → (∀ q ∈ fs, q.1 < R.n ∧ q.2 < R.n) → fs.length + xs.length < 10000 →
    ∃ (fs' : List (Nat × Nat)) (s6' : SD), loopF (.nm 6) b__law_over_1 (natsD xs) [.im R.d, .im (.str (txt cs)), .im (.int (side : Int)), .im (.int (fresh : Int)), .ow (fs.map prN), .im (.int (a : Int)), s6] = some (.nx [.im R.d, .im (.str (txt cs)), .im (.int (side : Int)), .im (.int (fresh : Int)), .ow (fs'.map prN), .im (.int (a : Int)), s6']) ∧ (∀ q ∈ fs', q.1 < R.n ∧ q.2 < R.n) ∧ fs'.length ≤ fs.length + xs.length
  | [], fs, s6, _, hf, _ => ⟨fs, s6, rfl, hf, by simp⟩
  | x :: xs, fs, s6, hx, hf, hn => by
    have hle : cs.length ≤ 1000 := by have := hR.n12; omega
    have hx0 := hx x List.mem_cons_self
    have ec : cs[x]? = some cs[x] := List.getElem?_eq_getElem hx0
    have hc := h _ (List.getElem_mem hx0)
    generalize cs[x] = c at ec hc
    have ea := atS ec hle
    have hc2 : c < 200 := by omega
    have b1 := bit_eq fresh a
    have hs2 : 1 - side = 0 ∨ 1 - side = 1 := by rcases hs with e | e <;> subst e <;> simp
    have hs1 : (1 : Int) - (side : Int) = ((1 - side : Nat) : Int) := by rcases hs with e | e <;> subst e <;> rfl
    obtain ⟨b, eo⟩ := m_over_by_ex hR h hlen (bt := x) ha hs2
    rw [← hs1] at eo
    have hl : fs.length < sizeLine := lt_sig _ (by simp at hn; omega)
    have step : ∃ fs1 : List (Nat × Nat), b__law_over_1 [.im R.d, .im (.str (txt cs)), .im (.int (side : Int)), .im (.int (fresh : Int)), .ow (fs.map prN), .im (.int (a : Int)), .im (.int (x : Int))] = some (.nx [.im R.d, .im (.str (txt cs)), .im (.int (side : Int)), .im (.int (fresh : Int)), .ow (fs1.map prN), .im (.int (a : Int)), .im (.int (x : Int))]) ∧ (∀ q ∈ fs1, q.1 < R.n ∧ q.2 < R.n) ∧ fs1.length ≤ fs.length + 1 := by
      by_cases t : fresh.testBit a = true
      · rw [if_pos t] at b1
        exact ⟨fs, by simp [b__law_over_1, b1], hf, by omega⟩
      · rw [if_neg t] at b1
        by_cases h46 : c = 46
        · cases b with
          | false => exact ⟨fs, by simp [b__law_over_1, b1, ea, dot_ch, hc2, h46, eo], hf, by omega⟩
          | true =>
            refine ⟨fs ++ [(x, a)], by simp [b__law_over_1, b1, ea, dot_ch, hc2, h46, eo, hl], fun q hq => ?_, by simp⟩
            rcases List.mem_append.mp hq with z | z
            · exact hf q z
            · rw [List.mem_singleton.mp z]; exact ⟨by rw [← hlen]; exact hx0, by rw [← hlen]; exact ha⟩
        · exact ⟨fs, by simp [b__law_over_1, b1, ea, dot_ch, hc2, h46], hf, by omega⟩
    obtain ⟨fs1, eb, h1, h2⟩ := step
    obtain ⟨fs', s6', e, h3, h4⟩ := lover_in hR h hlen (fresh := fresh) hs ha xs fs1 (.im (.int (x : Int))) (fun y hy => hx y (List.mem_cons_of_mem _ hy)) h1 (by simp at hn; omega)
    refine ⟨fs', s6', ?_, h3, by simp; omega⟩
    show loopF (.nm 6) b__law_over_1 (PyData.int (x : Int) :: natsD xs) _ = _
    rw [loopF_nx rfl eb]
    exact e
theorem lover_out (hR : RulesOk R) {cs : List Nat} (h : ∀ c ∈ cs, c < 128) (hlen : cs.length = R.n) {side fresh : Nat} (hs : side = 0 ∨ side = 1) : ∀ (xs : List Nat) (fs : List (Nat × Nat)) (s5 s6 : SD), (∀ x ∈ xs, x < cs.length) → (∀ q ∈ fs, q.1 < R.n ∧ q.2 < R.n) → fs.length + 12 * xs.length < 5000 →
    ∃ (fs' : List (Nat × Nat)) (s5' s6' : SD), loopF (.nm 5) b__law_over_2 (natsD xs) [.im R.d, .im (.str (txt cs)), .im (.int (side : Int)), .im (.int (fresh : Int)), .ow (fs.map prN), s5, s6] = some (.nx [.im R.d, .im (.str (txt cs)), .im (.int (side : Int)), .im (.int (fresh : Int)), .ow (fs'.map prN), s5', s6']) ∧ (∀ q ∈ fs', q.1 < R.n ∧ q.2 < R.n) ∧ fs'.length ≤ fs.length + 12 * xs.length
  | [], fs, s5, s6, _, hf, _ => ⟨fs, s5, s6, rfl, hf, by simp⟩
  | x :: xs, fs, s5, s6, hx, hf, hn => by
    have h12 := hR.n12
    have hn' : fs.length + 12 * xs.length + 12 < 5000 := by simp at hn; omega
    obtain ⟨fs1, s6', e1, h1, h2⟩ := lover_in hR h hlen (fresh := fresh) hs (hx x List.mem_cons_self) (List.range cs.length) fs s6 (fun y hy => List.mem_range.mp hy) hf (by simp; omega)
    rw [List.length_range] at h2
    have hsz : cs.length ≤ sizeLine := len_sig _ (by omega)
    have e0 := rng1_len (f := callE gLen (consA (varE 1) nilA)) (ρ := [.im R.d, .im (.str (txt cs)), .im (.int (side : Int)), .im (.int (fresh : Int)), .ow (fs.map prN), .im (.int (x : Int)), s6]) (n := cs.length) (by simp [hsz]) (by omega)
    have eb : b__law_over_2 [.im R.d, .im (.str (txt cs)), .im (.int (side : Int)), .im (.int (fresh : Int)), .ow (fs.map prN), .im (.int (x : Int)), s6] = some (.nx [.im R.d, .im (.str (txt cs)), .im (.int (side : Int)), .im (.int (fresh : Int)), .ow (fs1.map prN), .im (.int (x : Int)), s6']) := by
      show (forS _ _ _ _) _ = _
      rw [forS_eq, frz_nil, e0]
      exact e1
    obtain ⟨fs', s5', s6'', e, h3, h4⟩ := lover_out hR h hlen (fresh := fresh) hs xs fs1 (.im (.int (x : Int))) s6' (fun y hy => hx y (List.mem_cons_of_mem _ hy)) h1 (by omega)
    refine ⟨fs', s5', s6'', ?_, h3, by simp; omega⟩
    show loopF (.nm 5) b__law_over_2 (PyData.int (x : Int) :: natsD xs) _ = _
    rw [loopF_nx rfl eb]
    exact e
theorem m_lover_ex (hR : RulesOk R) {cs : List Nat} (h : ∀ c ∈ cs, c < 128) (hlen : cs.length = R.n) {side : Nat} (fresh : Nat) (hs : side = 0 ∨ side = 1) : ∃ fs : List (Nat × Nat), m__law_over [R.d, .str (txt cs), .int (side : Int), .int (fresh : Int)] = some (.list (fs.map prN)) ∧ ∀ q ∈ fs, q.1 < R.n ∧ q.2 < R.n := by
  have h12 := hR.n12
  have hle : cs.length ≤ 1000 := by omega
  have hs1 : (1 : Int) - (side : Int) = ((1 - side : Nat) : Int) := by rcases hs with e | e <;> subst e <;> rfl
  have e1 := m_lown_eq h hle (1 - side)
  rw [← hs1] at e1
  have hw : (sqWhere (ownP (1 - side)) cs).length ≤ 12 := by
    unfold sqWhere
    have := List.length_filter_le (fun i => ownP (1 - side) (cs.getD i 0)) (List.range cs.length)
    rw [List.length_range] at this
    omega
  obtain ⟨fs, s5, s6, e2, h1, _⟩ := lover_out hR h hlen (fresh := fresh) hs (sqWhere (ownP (1 - side)) cs) [] .no .no sqWhere_lt (fun q hq => nomatch hq) (by simp; omega)
  simp only [List.map_nil] at e2
  exact ⟨fs, by simp [m__law_over, g__law_over, e1, e2], h1⟩
theorem wipe_loop (hR : RulesOk R) {cell : Int} {side : Nat} (hside : cell % 2 = (side : Int)) {s0 s1 s6 s7 s8 s9 : SD} : ∀ (xs : List Nat) (cs : List Nat) (s5 : SD), (∀ c ∈ cs, CellOk R c) → cs.length = R.n → (∀ x ∈ xs, x < R.n) →
    ∃ (cs' : List Nat) (s5' : SD), loopF (.nm 5) b__law_place_1 (natsD xs) [s0, s1, .im R.d, .im (.str (txt cs)), .im (.int cell), s5, s6, s7, s8, s9] = some (.nx [s0, s1, .im R.d, .im (.str (txt cs')), .im (.int cell), s5', s6, s7, s8, s9]) ∧ (∀ c ∈ cs', CellOk R c) ∧ cs'.length = R.n
  | [], cs, s5, hc, hl, _ => ⟨cs, s5, rfl, hc, hl⟩
  | x :: xs, cs, s5, hc, hl, hx => by
    have h12 := hR.n12
    have hle : cs.length ≤ 1000 := by omega
    have hx0 := hx x List.mem_cons_self
    obtain ⟨ys, er⟩ := m_royals_l_ex hR (fun c h => (hc c h).lt) hle side
    have eN := dNotIn_il (x := (x : Int)) (okD_nats ys)
    have c1 := cut_lo cs x (by omega)
    have c2 := cut_hi cs (x + 1) (by omega)
    have e3 : ((x : Int) + 1) = ((x + 1 : Nat) : Int) := by simp
    have sz1 : min x cs.length + 1 ≤ sizeLine := len_sig _ (by omega)
    have sz2 : min x cs.length + 1 + (cs.length - (x + 1)) ≤ sizeLine := len_sig _ (by omega)
    have eset : txt (cs.take x) ++ txt [46] ++ txt (cs.drop (x + 1)) = txt (cs.set x 46) := by
      rw [txt_app, txt_app, List.set_eq_take_append_cons_drop, if_pos (by omega), List.append_assoc]
      rfl
    have step : ∃ cs1 : List Nat, b__law_place_1 [s0, s1, .im R.d, .im (.str (txt cs)), .im (.int cell), .im (.int (x : Int)), s6, s7, s8, s9] = some (.nx [s0, s1, .im R.d, .im (.str (txt cs1)), .im (.int cell), .im (.int (x : Int)), s6, s7, s8, s9]) ∧ (∀ c ∈ cs1, CellOk R c) ∧ cs1.length = R.n := by
      have c2' : cutS (txt cs) (some ((x : Int) + 1)) none = txt (cs.drop (x + 1)) := by rw [e3]; exact c2
      cases hin : inD (.int (x : Int)) (natsD ys) with
      | true =>
        rw [hin] at eN
        exact ⟨cs, by simp [b__law_place_1, hside, er, eN], hc, hl⟩
      | false =>
        rw [hin] at eN
        refine ⟨cs.set x 46, ?_, set_ok hc dot_ok, by rw [List.length_set]; exact hl⟩
        simp [b__law_place_1, hside, er, eN, hle, c1, c2', dot_ch, sz1, sz2]
        rw [ch_txt]
        exact eset
    obtain ⟨cs1, eb, h1, h2⟩ := step
    obtain ⟨cs', s5', e, h3, h4⟩ := wipe_loop hR hside (s0 := s0) (s1 := s1) (s6 := s6) (s7 := s7) (s8 := s8) (s9 := s9) xs cs1 (.im (.int (x : Int))) h1 h2 (fun y hy => hx y (List.mem_cons_of_mem _ hy))
    refine ⟨cs', s5', ?_, h3, h4⟩
    show loopF (.nm 5) b__law_place_1 (PyData.int (x : Int) :: natsD xs) _ = _
    rw [loopF_nx rfl eb]
    exact e
theorem may_loop (hR : RulesOk R) {cell : Int} {cs : List Nat} (h : ∀ c ∈ cs, c < 128) (hle : cs.length ≤ 1000) {s0 s1 s7 s8 s9 : SD} : ∀ (xs : List Nat) (f : Nat) (s5 : SD), (∀ x ∈ xs, x < cs.length ∧ x < 20) → f < 2 ^ 20 →
    ∃ (f' : Nat) (s5' : SD), loopF (.nm 5) b__law_place_2 (natsD xs) [s0, s1, .im R.d, .im (.str (txt cs)), .im (.int cell), s5, .im (.int (f : Int)), s7, s8, s9] = some (.nx [s0, s1, .im R.d, .im (.str (txt cs)), .im (.int cell), s5', .im (.int (f' : Int)), s7, s8, s9]) ∧ f' < 2 ^ 20
  | [], f, s5, _, hf => ⟨f, s5, rfl, hf⟩
  | x :: xs, f, s5, hx, hf => by
    obtain ⟨hx0, hx20⟩ := hx x List.mem_cons_self
    have ec : cs[x]? = some cs[x] := List.getElem?_eq_getElem hx0
    have hc := h _ (List.getElem_mem hx0)
    generalize cs[x] = c at ec hc
    have ea := atS ec hle
    obtain ⟨b, eM⟩ := m_may_ex hR hc
    obtain ⟨v, ev, _⟩ := m_mixed_ex cell (k := x) (by omega)
    have e1 : Builtin.bitOr ((f : Nat) : Int) (2 ^ x) = ((f ||| 2 ^ x : Nat) : Int) := by
      have e2 : ((2 : Int) ^ x) = ((2 ^ x : Nat) : Int) := by simp
      rw [e2, bitOr_nn (Int.natCast_nonneg _) (Int.natCast_nonneg _)]
      rfl
    have hx2 : (x : Int) ≤ 1000000 := by omega
    have step : ∃ f1 : Nat, b__law_place_2 [s0, s1, .im R.d, .im (.str (txt cs)), .im (.int cell), .im (.int (x : Int)), .im (.int (f : Int)), s7, s8, s9] = some (.nx [s0, s1, .im R.d, .im (.str (txt cs)), .im (.int cell), .im (.int (x : Int)), .im (.int (f1 : Int)), s7, s8, s9]) ∧ f1 < 2 ^ 20 := by
      cases b with
      | false => exact ⟨f, by simp [b__law_place_2, ea, eM], hf⟩
      | true =>
        by_cases h3 : 0 < v % 3
        · exact ⟨f ||| 2 ^ x, by simp [b__law_place_2, ea, eM, ev, h3, hx2, e1], Nat.or_lt_two_pow hf (Nat.pow_lt_pow_right (by decide) hx20)⟩
        · exact ⟨f, by simp [b__law_place_2, ea, eM, ev, h3], hf⟩
    obtain ⟨f1, eb, h1⟩ := step
    obtain ⟨f', s5', e, h2⟩ := may_loop hR (cell := cell) h hle (s0 := s0) (s1 := s1) (s7 := s7) (s8 := s8) (s9 := s9) xs f1 (.im (.int (x : Int))) (fun y hy => hx y (List.mem_cons_of_mem _ hy)) h1
    refine ⟨f', s5', ?_, h2⟩
    show loopF (.nm 5) b__law_place_2 (PyData.int (x : Int) :: natsD xs) _ = _
    rw [loopF_nx rfl eb]
    exact e
theorem m_place_ex {ns : List Int} (hs : ScrOk ns) (hR : RulesOk R) : ∃ p : Place, m__law_place [scrD ns, .int 6, R.d] = some p.d ∧ PlaceOk R p := by
  obtain ⟨c6, e6⟩ := m_cell_ex hs (k := 6) (by decide)
  have e6' : m__law_cell [scrD ns, .int 6] = some (.int c6) := e6
  obtain ⟨cs0, eC, hl0, hok0⟩ := m_cells_ex hs hR
  have h12 := hR.n12
  generalize hcell : c6 / 3 = cell
  obtain ⟨side, eside⟩ : ∃ s : Nat, cell % 2 = (s : Int) := ⟨(cell % 2).toNat, by omega⟩
  have hsd : side = 0 ∨ side = 1 := by omega
  have eO := m_lown_eq (fun c h => (hok0 c h).lt) (by omega : cs0.length ≤ 1000) side
  have first : ∃ (cs : List Nat) (s5 : SD), (ifS [] (binT dEq (binE dMod (binE dFdiv (varE 4) (litE (.int 2000))) (litE (.int 3))) (litE (.int 1))) (forS (.nm 5) [] (seqI (callD 2 m__law_own (consA (varE 3) (consA (binE dMod (varE 4) (litE (.int 2))) nilA)))) b__law_place_1) nilS) [.im (scrD ns), .im (.int 6), .im R.d, .im (.str (txt cs0)), .im (.int cell), .no, .no, .no, .no, .no] = some (.nx [.im (scrD ns), .im (.int 6), .im R.d, .im (.str (txt cs)), .im (.int cell), s5, .no, .no, .no, .no]) ∧ (∀ c ∈ cs, CellOk R c) ∧ cs.length = R.n := by
    by_cases h1 : cell / 2000 % 3 = 1
    · obtain ⟨cs, s5, e, a, b⟩ := wipe_loop hR eside (s0 := .im (scrD ns)) (s1 := .im (.int 6)) (s6 := .no) (s7 := .no) (s8 := .no) (s9 := .no) (sqWhere (ownP side) cs0) cs0 .no hok0 hl0 (fun x hx => by rw [← hl0]; exact sqWhere_lt x hx)
      exact ⟨cs, s5, by simp [h1, eside, eO, e], a, b⟩
    · exact ⟨cs0, .no, by simp [h1], hok0, hl0⟩
  obtain ⟨cs, s5, eF, hok, hl⟩ := first
  have h128 : ∀ c ∈ cs, c < 128 := fun c h => (hok c h).lt
  have hsz : cs.length ≤ sizeLine := len_sig _ (by omega)
  obtain ⟨f, s5', eM, hf⟩ := may_loop hR (cell := cell) h128 (by omega) (s0 := .im (scrD ns)) (s1 := .im (.int 6)) (s7 := .no) (s8 := .no) (s9 := .no) (List.range cs.length) 0 s5 (fun x hx => by have := List.mem_range.mp hx; omega) (by decide)
  have e0 := rng1_len (f := callE gLen (consA (varE 3) nilA)) (ρ := [.im (scrD ns), .im (.int 6), .im R.d, .im (.str (txt cs)), .im (.int cell), s5, .im (.int 0), .no, .no, .no]) (n := cs.length) (by simp [hsz]) (by omega)
  obtain ⟨fs, eV, hfs⟩ := m_lover_ex hR h128 hl f hsd
  have pass : ∃ q : Option (Nat × Nat), (ifS [] (andT (binT dGt (callE gLen (consA (varE 8) nilA)) (litE (.int 0))) (binT dGt (binE dMod (binE dFdiv (varE 4) (litE (.int 18000))) (litE (.int 4))) (litE (.int 0)))) (asgS 7 [] (binE dAt (varE 8) (binE dMod (binE dFdiv (varE 4) (litE (.int 72000))) (callE gLen (consA (varE 8) nilA))))) nilS) [.im (scrD ns), .im (.int 6), .im R.d, .im (.str (txt cs)), .im (.int cell), s5', .im (.int (f : Int)), .im .none, .im (.list (fs.map prN)), .no] = some (.nx [.im (scrD ns), .im (.int 6), .im R.d, .im (.str (txt cs)), .im (.int cell), s5', .im (.int (f : Int)), .im (passD q), .im (.list (fs.map prN)), .no]) ∧ ∀ b a, q = some (b, a) → b < R.n ∧ a < R.n := by
    by_cases hn : 0 < fs.length
    · by_cases h4 : 0 < cell / 18000 % 4
      · obtain ⟨d, hd, ed⟩ := pick_mem (ds := fs.map prN) (L := fs.length) (by simp) hn (cell / 72000)
        obtain ⟨q, hq, rfl⟩ := List.mem_map.mp hd
        refine ⟨some q, by simp [hn, h4, ed, passD], fun b a e => ?_⟩
        cases e
        exact hfs _ hq
      · exact ⟨none, by simp [hn, h4, passD], fun _ _ e => nomatch e⟩
    · exact ⟨none, by simp [hn, passD], fun _ _ e => nomatch e⟩
  obtain ⟨q, eP, hq⟩ := pass
  have e0' : loopF (.nm 5) b__law_place_2 (natsD (List.range cs.length)) [.im (scrD ns), .im (.int 6), .im R.d, .im (.str (txt cs)), .im (.int cell), s5, .im (.int 0), .no, .no, .no] = _ := eM
  have rest : ∀ cl : Int, 0 ≤ cl ∧ cl ≤ 999 → PlaceOk R ⟨cs, side, f, q, cl⟩ := fun cl hcl => ⟨hl, hok, hsd, hf, hq, hcl⟩
  have go : ∀ k : FS, seqS (ifS [] (binT dEq (binE dMod (binE dFdiv (varE 4) (litE (.int 2000))) (litE (.int 3))) (litE (.int 1))) (forS (.nm 5) [] (seqI (callD 2 m__law_own (consA (varE 3) (consA (binE dMod (varE 4) (litE (.int 2))) nilA)))) b__law_place_1) nilS) k [.im (scrD ns), .im (.int 6), .im R.d, .im (.str (txt cs0)), .im (.int cell), .no, .no, .no, .no, .no] = k [.im (scrD ns), .im (.int 6), .im R.d, .im (.str (txt cs)), .im (.int cell), s5, .no, .no, .no, .no] := fun k => seqS_nx eF
  have go2 : ∀ k : FS, seqS (ifS [] (andT (binT dGt (callE gLen (consA (varE 8) nilA)) (litE (.int 0))) (binT dGt (binE dMod (binE dFdiv (varE 4) (litE (.int 18000))) (litE (.int 4))) (litE (.int 0)))) (asgS 7 [] (binE dAt (varE 8) (binE dMod (binE dFdiv (varE 4) (litE (.int 72000))) (callE gLen (consA (varE 8) nilA))))) nilS) k [.im (scrD ns), .im (.int 6), .im R.d, .im (.str (txt cs)), .im (.int cell), s5', .im (.int (f : Int)), .im .none, .im (.list (fs.map prN)), .no] = k [.im (scrD ns), .im (.int 6), .im R.d, .im (.str (txt cs)), .im (.int cell), s5', .im (.int (f : Int)), .im (passD q), .im (.list (fs.map prN)), .no] := fun k => seqS_nx eP
  have whole : ∀ cl : Int, (if cell / 360000 % 5 = 0 then cell / 2 % 1000 else cell / 2 % 5) = cl → m__law_place [scrD ns, .int 6, R.d] = some (Place.d ⟨cs, side, f, q, cl⟩) := fun cl hcl => by
    rw [place_mk]
    have step1 : g__law_place [.im (scrD ns), .im (.int 6), .im R.d, .no, .no, .no, .no, .no, .no, .no] = some (.rt (.tuple [.str (txt cs), .int (side : Int), .int (f : Int), passD q, .int cl])) := by
      unfold g__law_place
      rw [seqS_nx (ρ' := [.im (scrD ns), .im (.int 6), .im R.d, .im (.str (txt cs0)), .no, .no, .no, .no, .no, .no]) (by simp [eC])]
      rw [seqS_nx (ρ' := [.im (scrD ns), .im (.int 6), .im R.d, .im (.str (txt cs0)), .im (.int cell), .no, .no, .no, .no, .no]) (by simp [e6', hcell])]
      rw [go]
      rw [seqS_nx (ρ' := [.im (scrD ns), .im (.int 6), .im R.d, .im (.str (txt cs)), .im (.int cell), s5, .im (.int 0), .no, .no, .no]) (by simp)]
      rw [seqS_nx (ρ' := [.im (scrD ns), .im (.int 6), .im R.d, .im (.str (txt cs)), .im (.int cell), s5', .im (.int (f : Int)), .no, .no, .no]) (by rw [forS_eq, frz_nil, e0]; exact e0')]
      rw [seqS_nx (ρ' := [.im (scrD ns), .im (.int 6), .im R.d, .im (.str (txt cs)), .im (.int cell), s5', .im (.int (f : Int)), .im .none, .no, .no]) (by simp)]
      rw [seqS_nx (ρ' := [.im (scrD ns), .im (.int 6), .im R.d, .im (.str (txt cs)), .im (.int cell), s5', .im (.int (f : Int)), .im .none, .im (.list (fs.map prN)), .no]) (by simp [eside, eV])]
      rw [go2]
      by_cases h5 : cell / 360000 % 5 = 0
      · rw [if_pos h5] at hcl
        simp [h5, hcl, eside]
      · rw [if_neg h5] at hcl
        simp [h5, hcl, eside]
    show ((g__law_place (start0 10 [scrD ns, .int 6, R.d])).bind _ : Option D) = _
    have es : start0 10 [scrD ns, .int 6, R.d] = [.im (scrD ns), .im (.int 6), .im R.d, .no, .no, .no, .no, .no, .no, .no] := rfl
    rw [es, step1]
    rfl
  exact ⟨_, whole _ rfl, rest _ (by split <;> omega)⟩
end
end
end RB
set_option Elab.async false
set_option linter.all false
set_option maxRecDepth 100000
set_option maxHeartbeats 2000000
set_option autoImplicit false
/-! DG1: games that stand still: what their methods read. -/
namespace RB
open PySem PySem.Spec L2
structure GameT (K : KF) (C : Addr) : Prop where
  cl : Cls K C
  nr : NoAttr K C "rules"
  nk : NoAttr K C "kept"
  np : NoAttr K C "played"
section
variable {I0 H0 I H : Hp} {σ : L2.St} {ρ : Sl} {C g kl pl : Addr} {r : D} {ks ts : List D} {i : Nat}
theorem Bd.gm (b : Bd I0 H0 σ ρ I H) (e : ρ[i]? = some (.gm C g kl pl r ks ts)) : ∃ (dx : Addr) (rv : V) (vs us : List V), σ[i]? = some (some (.ref g)) ∧ H0 g = some (.ins C dx (gameF rv kl pl)) ∧ H0 kl = some (.lst vs) ∧ H0 pl = some (.lst us) ∧ H g = some (.ins C dx (gameF rv kl pl)) ∧ H kl = some (.lst vs) ∧ H pl = some (.lst us) ∧ Dv I rv r ∧ DvAll I vs ks ∧ DvAll I us ts := by
  obtain ⟨o, e1, dx, rv, vs, us, rfl, h1, h2, h3, d1, d2, d3⟩ := b.ok.get i _ e
  exact ⟨dx, rv, vs, us, e1, h1, h2, h3, b.st.h _ _ h1, b.st.h _ _ h2, b.st.h _ _ h3, d1, d2, d3⟩
end
abbrev GF := Addr → Addr → Addr → D → List D → List D → List D → Option D
def gmAt (C : Addr) (i : Nat) (ρ : Sl) : Option (D × List D × List D) := match ρ[i]? with
  | some (.gm C' _ _ _ r ks ts) => if C' = C then some (r, ks, ts) else none
  | _ => none
theorem gmAt_some {C : Addr} {i : Nat} {ρ : Sl} {r : D} {ks ts : List D} (h : gmAt C i ρ = some (r, ks, ts)) : ∃ g kl pl, ρ[i]? = some (.gm C g kl pl r ks ts) := by
  unfold gmAt at h
  split at h
  · rename_i C' g' kl' pl' r' ks' ts' e
    split at h
    · rename_i hc
      cases h
      exact ⟨_, _, _, by rw [e, hc]⟩
    · cases h
  · cases h
def rulesE (C : Addr) (i : Nat) : FE := fun ρ => (gmAt C i ρ).map fun q => q.1
def keptE (C : Addr) (i : Nat) (f : FE) : FE := fun ρ => (gmAt C i ρ).bind fun q => (f ρ).bind fun y => dAt (.list q.2.1) y
def keptI (C : Addr) (i : Nat) : FI := fun ρ => (gmAt C i ρ).map fun q => enumFrom 0 q.2.1
def playedE (C : Addr) (i : Nat) : FE := fun ρ => (gmAt C i ρ).map fun q => .list q.2.2
section
variable {X : Cx} {C : Addr} {pos p apos p2 : Pos} {a : Expr} {f : FE} {x : Str}
theorem de_gRules (T : GameT X.K C) (i : Nat) (hN : X.N[i]? = some x := by rfl) (hv : Vis X.env.scope x := by first | exact Or.inl rfl | exact Or.inr (Or.inl rfl) | exact Or.inr (Or.inr rfl)) (hd : (x == ("__debug__" : Str)) = false := by decide)
    (hcd : (x == ("__classdict__" : Str)) = false := by decide) (hb : attributeBase (.Name x p) "rules" X.env (eval (.Name x p) X.env) = eval (.Name x p) X.env := by rfl) : DE X (.Attribute (.Name x p) "rules" pos) (rulesE C i) := ⟨fun ρ d e I0 H0 => by
  obtain ⟨⟨r, ks, ts⟩, eq, rfl⟩ := map_some' e
  obtain ⟨g, kl, pl', eq⟩ := gmAt_some eq
  exact PE.imp (pe_fld (pe_var hN hv hd hcd) hb) fun σ H Q ⟨I, b, q⟩ => by
    obtain ⟨dx, rv, vs, us, es, _, _, _, hg, hk, hp, d1, d2, d3⟩ := b.gm eq
    exact ⟨_, es, g, C, dx, _, rv, rfl, hg, T.cl, T.nr, rfl, q rv H I b.refl d1⟩⟩
theorem de_gKept (T : GameT X.K C) (i : Nat) (ha : DE X a f) (hN : X.N[i]? = some x := by rfl) (hv : Vis X.env.scope x := by first | exact Or.inl rfl | exact Or.inr (Or.inl rfl) | exact Or.inr (Or.inr rfl)) (hd : (x == ("__debug__" : Str)) = false := by decide)
    (hcd : (x == ("__classdict__" : Str)) = false := by decide) (hb : attributeBase (.Name x p) "kept" X.env (eval (.Name x p) X.env) = eval (.Name x p) X.env := by rfl) (hs : PlainIx a := by exact fun _ _ => rfl) : DE X (.Subscript (.Attribute (.Name x p) "kept" apos) a pos) (keptE C i f) := ⟨fun ρ d e I0 H0 => by
  obtain ⟨⟨r, ks, ts⟩, eq, e⟩ := bind_some e
  obtain ⟨y, ey, e⟩ := bind_some e
  obtain ⟨g, kl, pl', eq⟩ := gmAt_some eq
  refine PE.imp (pe_ix ix_seq (pe_fld (pe_var hN hv hd hcd) hb) (ha.run ρ y ey I0 H0) hs) fun σ H Q ⟨I, b, q⟩ => ?_
  obtain ⟨dx, rv, vs, us, es, _, _, _, hg, hk, hp, d1, d2, d3⟩ := b.gm eq
  refine ⟨_, es, g, C, dx, _, .ref kl, rfl, hg, T.cl, T.nk, rfl, I, b, fun v1 H1 I1 s1 dy => ?_⟩
  have e2 : dAt (.list ks) y = some d := e
  cases y with
  | int j =>
    obtain ⟨v, ev, dv⟩ := at_dv d2 (show atI ks j = some d from e2)
    exact .inl ⟨kl, vs, j, v, rfl, dv_int dy, SqL.of (s1.h _ _ hk), ev, q v H1 I1 s1 (dv_mono s1.i dv)⟩
  | _ => cases e2⟩
theorem di_gKept {elts : List Expr} {kk : Nat} {tpos ep : Pos} (T : GameT X.K C) (i : Nat) (hg : Gl X "enumerate") (hm : X.mg "enumerate" = none) (hN : X.N[i]? = some x := by rfl) (hv : Vis X.env.scope x := by first | exact Or.inl rfl | exact Or.inr (Or.inl rfl) | exact Or.inr (Or.inr rfl)) (hd : (x == ("__debug__" : Str)) = false := by decide)
    (hcd : (x == ("__classdict__" : Str)) = false := by decide) (hb : attributeBase (.Name x p) "kept" X.env (eval (.Name x p) X.env) = eval (.Name x p) X.env := by rfl)
    (hs : starEach [.Attribute (.Name x p) "kept" apos] X.env = [(false, eval (.Attribute (.Name x p) "kept" apos) X.env)] := by rfl) (hs' : starEach [.Attribute (.Name x p) "kept" apos] X.env = (false, eval (.Attribute (.Name x p) "kept" apos) X.env) :: starEach [] X.env := by rfl) :
    DI X (.Tuple elts kk tpos) (.Call (.Name "enumerate" ep) [.Attribute (.Name x p) "kept" apos] [] pos) (keptI C i) := ⟨fun ρ ds e I0 H0 => by
  obtain ⟨⟨r, ks, ts⟩, eq, rfl⟩ := map_some' e
  obtain ⟨g, kl, pl', eq⟩ := gmAt_some eq
  refine PI.imp (pi_enum hg hm (pa_cons (pe_fld (pe_var hN hv hd hcd) hb) pa_nil hs') hs) fun σ H R ⟨I, b, q⟩ => ?_
  obtain ⟨dx, rv, vs, us, es, _, hk0, _, hg, hk, hp, d1, d2, d3⟩ := b.gm eq
  refine ⟨_, es, g, C, dx, _, .ref kl, rfl, hg, T.cl, T.nk, rfl, kl, vs, rfl, SqL.of hk, q _ H I b.refl ?_⟩
  intro i Ic H' s0 s1 s2
  have hq : SqL X.K H' kl vs := SqL.of (s0 _ _ hk0)
  refine ⟨fun d ed => ?_, fun hl => ⟨vs, hq, by rw [dvs_len d2]; rw [enum_len] at hl; exact hl⟩⟩
  obtain ⟨y, ey, rfl⟩ := enum_get ed
  obtain ⟨v, ev, dv⟩ := dvs_get' d2 ey
  refine ⟨⟨vs, v, hq, ev⟩, fun x H'' ⟨T', x', e1, e2, e3, e4⟩ => ?_⟩
  subst e1
  subst e3
  have := e4 vs hq
  rw [ev] at this; cases this
  exact Step.newT s2 e2 (.cons (by rw [Nat.zero_add]; exact .int _) (dvs_one (dv_mono s1 dv)))⟩
/-- list(self.played) -/
theorem de_gPlayed {lp : Pos} (T : GameT X.K C) (i : Nat) (hg : Gl X "list") (hm : X.mg "list" = none) (hN : X.N[i]? = some x := by rfl) (hv : Vis X.env.scope x := by first | exact Or.inl rfl | exact Or.inr (Or.inl rfl) | exact Or.inr (Or.inr rfl)) (hd : (x == ("__debug__" : Str)) = false := by decide)
    (hcd : (x == ("__classdict__" : Str)) = false := by decide) (hb : attributeBase (.Name x p) "played" X.env (eval (.Name x p) X.env) = eval (.Name x p) X.env := by rfl)
    (hs' : starEach [.Attribute (.Name x p) "played" apos] X.env = (false, eval (.Attribute (.Name x p) "played" apos) X.env) :: starEach [] X.env := by rfl) :
    DE X (.Call (.Name "list" lp) [.Attribute (.Name x p) "played" apos] [] pos) (playedE C i) := ⟨fun ρ d e I0 H0 => by
  obtain ⟨⟨r, ks, ts⟩, eq, rfl⟩ := map_some' e
  obtain ⟨g, kl, pl', eq⟩ := gmAt_some eq
  refine PE.imp (pe_callTy call_list_of hg hm (by decide +kernel) (pa_cons (pe_fld (pe_var hN hv hd hcd) hb) pa_nil hs')) fun σ H Q ⟨I, b, q⟩ => ?_
  obtain ⟨dx, rv, vs, us, es, _, _, _, hg, hk, hp, d1, d2, d3⟩ := b.gm eq
  exact ⟨_, es, g, C, dx, _, .ref pl', rfl, hg, T.cl, T.np, rfl, pl', us, rfl, .inl (SqL.of hp), fun l hl => q _ _ _ (Step.new b.sub hl) (dv_newL (b.sub.free hl) d3)⟩⟩
/-- what a method that reads alone gives -/
def spG (C : Addr) (n : Nat) (G : GF) : Sp := fun vs H Q _ => ∃ (I : Hp) (g kl pl : Addr) (r : D) (ks ts ds : List D) (d : D) (o : V) (as : List V), vs = o :: as ∧ Same I H ∧ SlotOk H I H (some o) (.gm C g kl pl r ks ts) ∧ DvAll I as ds ∧ ds.length = n ∧ G g kl pl r ks ts ds = some d ∧ ∀ v H' I', Step I H I' H' → Dv I' v d → Q v H'
def GMeth (P : Program) (w : World) (K : KF) (mg : Str → Option Value) (base : Heap) (C : Addr) (k : Nat) (m : Str) (n : Nat) (G : GF) : Prop :=
  ∃ fa fd ps, FnOk P w K mg base CX0 k fa fd ps (spG C n G) ∧ Meth K C m fa ∧ Binds K fd ps []
def gmethE (C : Addr) (i : Nat) (G : GF) : FE := fun ρ => match ρ[i]? with
  | some (.gm C' g kl pl r ks ts) => if C' = C then G g kl pl r ks ts [] else none
  | _ => none
theorem gmethE_some {C : Addr} {i : Nat} {G : GF} {ρ : Sl} {d : D} (h : gmethE C i G ρ = some d) : ∃ g kl pl r ks ts, ρ[i]? = some (.gm C g kl pl r ks ts) ∧ G g kl pl r ks ts [] = some d := by
  unfold gmethE at h
  split at h
  · rename_i C' g kl pl r ks ts e
    split at h
    · rename_i hc
      exact ⟨_, _, _, _, _, _, by rw [e, hc], h⟩
    · cases h
  · cases h
theorem de_gMeth0 {m : Str} {k : Nat} {G : GF} {pl : Sem Bool} (T : GameT X.K C) (M : GMeth X.prog X.w X.K X.mg X.base C k m 0 G) (hr : Room k X.A) (i : Nat) (hN : X.N[i]? = some x := by rfl) (hv : Vis X.env.scope x := by first | exact Or.inl rfl | exact Or.inr (Or.inl rfl) | exact Or.inr (Or.inr rfl)) (hd : (x == ("__debug__" : Str)) = false := by decide)
    (hcd : (x == ("__classdict__" : Str)) = false := by decide) (hl : ∀ rv kl pl, (gameF rv kl pl).lookup m = none := by intro rv kl pl; rfl)
    (ht : eval (.Call (.Attribute (.Name x p) m apos) [] [] pos) X.env = (do
      let ov ← eval (.Name x p) X.env
      standAt apos.atName
      let (f, first) ← holding [ov] (getMethod ov m pl)
      callWith pos f first (backTo pos (starEach [] X.env)) (backToKw pos (keywordEach [] X.env))) := by rfl) : DE X (.Call (.Attribute (.Name x p) m apos) [] [] pos) (gmethE C i G) := ⟨fun ρ d e I0 H0 => by
  obtain ⟨g, kl, pl', r, ks, ts, eq, e⟩ := gmethE_some e
  obtain ⟨fa, fd, ps, F, hM, hB⟩ := M
  refine PE.imp (pe_meth0 (pl := pl) (pe_var hN hv hd hcd) T.cl hM F hr hB .nil pass0 ht) fun σ H Q ⟨I, b, q⟩ => ?_
  obtain ⟨dx, rv, vs, us, es, _, _, _, hg, hk, hp, d1, d2, d3⟩ := b.gm eq
  refine ⟨_, es, g, dx, _, rfl, hg, hl rv kl pl', ?_⟩
  exact ⟨I, g, kl, pl', r, ks, ts, [], d, .ref g, [], rfl, b.sub, ⟨dx, rv, vs, us, rfl, hg, hk, hp, d1, d2, d3⟩, .nil, rfl, e, fun v H' I' s dv => q v H' I' s dv⟩⟩
end
/-! ### such a method -/
def startG (N : Nat) (C g kl pl : Addr) (r : D) (ks ts ds : List D) : Sl := .gm C g kl pl r ks ts :: (ds.map .im ++ List.replicate (N - 1 - ds.length) .no)
def semG (N : Nat) (C : Addr) (b : FS) (g kl pl : Addr) (r : D) (ks ts ds : List D) : Option D := (b (startG N C g kl pl r ks ts ds)).bind fun o => match o with
  | .rt d => some d
  | .nx _ => some .none
  | _ => none
theorem startG_bd {I H : Hp} {N : List Str} {C g kl pl : Addr} {r : D} {ks ts ds : List D} {o : V} {as : List V} (s : Same I H) (h0 : SlotOk H I H (some o) (.gm C g kl pl r ks ts)) (h : DvAll I as ds) : Bd I H (L2.start N (o :: as)) (startG N.length C g kl pl r ks ts ds) I H where
  st := Step.refl s
  ok := by
    have hl := dvs_len h
    have no_ow : ∀ (j : Nat) (es : List D), (startG N.length C g kl pl r ks ts ds)[j]? ≠ some (.ow es) := fun j es e => by
      unfold startG at e
      cases j with
      | zero => cases e
      | succ j =>
        rw [List.getElem?_cons_succ] at e
        rcases Nat.lt_or_ge j ds.length with hj | hj
        · rw [List.getElem?_append_left (by simpa using hj), List.getElem?_map] at e
          obtain ⟨d, _, z⟩ := map_some' e
          cases z
        · rw [List.getElem?_append_right (by simpa using hj)] at e
          have := List.mem_of_getElem? e
          rw [List.mem_replicate] at this
          cases this.2
    refine ⟨by unfold L2.start startG; simp [hl]; omega, fun i sd e => ?_, fun i j a xs es _ e => absurd e (no_ow i xs)⟩
    unfold startG at e
    unfold L2.start
    cases i with
    | zero =>
      cases e
      exact ⟨some o, rfl, h0⟩
    | succ i =>
      rw [List.getElem?_cons_succ] at e
      rw [List.map_cons, List.cons_append, List.getElem?_cons_succ]
      rcases Nat.lt_or_ge i ds.length with hi | hi
      · rw [List.getElem?_append_left (by simpa using hi), List.getElem?_map] at e
        obtain ⟨d, ed, rfl⟩ := map_some' e
        obtain ⟨v, ev, dv⟩ := dvs_get' h ed
        exact ⟨some v, by rw [List.getElem?_append_left (by rw [List.length_map]; omega), List.getElem?_map, ev]; rfl, v, rfl, dv⟩
      · rw [List.getElem?_append_right (by simpa using hi), List.length_map] at e
        have hm := List.mem_of_getElem? e
        rw [List.mem_replicate] at hm
        obtain ⟨h1, _⟩ := List.getElem?_eq_some_iff.mp e
        rw [List.length_replicate] at h1
        refine ⟨none, ?_, by rw [hm.2]; trivial⟩
        rw [List.getElem?_append_right (by rw [List.length_map]; omega), List.length_map, hl, List.getElem?_replicate, if_pos (by rw [List.length_cons]; omega)]
theorem okG {P : Program} {w : World} {K : KF} {mg : Str → Option Value} {base : Heap} {x qual : Str} {pa : Arguments} {bd : List Stmt} {sc : Scope} {f : Addr} {fd : FuncData} {dvs : List V} {kws : List (Str × V)} {N ps : List Str} {k n : Nat} {C : Addr} {b : FS}
    (F : FunD K x qual pa bd sc dvs kws f fd) (S : FnScope N ps sc) (hn : ps.length = n + 1)
    (hbody : ∀ (cdv : Value) (A : Around) (outer : List Env) (s : Shared) (H : Hp) (E : XK), Room k (A.deeper (PyProof.Rows.envOfC qual sc s.heap.objs.size f cdv)) →
      DSs (cxOf CX0 P w K mg base N qual sc f cdv A outer s H E).nox bd b) : FnOk P w K mg base CX0 (k + 1) f fd ps (spG C n (semG N.length C b)) := by
  refine F.ok (CX := CX0) S (fun vs H Q E h => ?_) fun cdv A outer s H vs Q E hr h => ?_
  · obtain ⟨I, g, kl, pl, r, ks, ts, ds, d, o, as, rfl, _, _, hd, hl, _⟩ := h
    rw [List.length_cons, dvs_len hd, hl, hn]
  · obtain ⟨I, g, kl, pl, r, ks, ts, ds, d, o, as, rfl, hs, h0, hd, hl, e, q⟩ := h
    obtain ⟨oc, eo, e⟩ := bind_some e
    refine ⟨_, PSs.nox ((hbody cdv A outer s H E hr).run _ oc eo I H), I, startG_bd hs h0 hd, ?_⟩
    split at e
    · cases e
      exact fun v H' I' s' dv => q v H' I' s' dv
    · cases e
      exact fun σ' H' I' _ b' => q .non H' I' b'.st .non
    · cases e
end RB
set_option Elab.async false
set_option linter.all false
set_option maxRecDepth 100000
set_option maxHeartbeats 4000000
set_option autoImplicit false
/-! printed by gen.py: defs over data -/
namespace RB
open PySem PySem.Spec L2
noncomputable section
abbrev s_g_place : Stmt := inClass (top 59) 1
abbrev N_g_place : List Str := ["self"]
def g_g_place (C : Addr) : FS := (retS [] (keptE C 0 (unE dNeg (litE (.int 1)))))
def mg_place (C : Addr) : GF := semG 1 C (g_g_place C)
theorem sc_g_place : FnScope N_g_place ["self"] (defScope s_g_place) := ⟨rfl, rfl, rfl, by decide +kernel, rfl, by decide +kernel, by decide +kernel⟩
theorem okg_place {P : Program} {w : World} {K : KF} {mg : Str → Option Value} {base : Heap} {C : Addr} (T : Txt K w mg) (G : GameT K C) {f : Addr} {fd : FuncData} (F : FunD K "place" "Game.place" (defArgs s_g_place) (defBody s_g_place) (defScope s_g_place) [] [] f fd) : FnOk P w K mg base CX0 1 f fd ["self"] (spG C 0 (mg_place C)) := by
  refine okG (N := N_g_place) (b := g_g_place C) F sc_g_place rfl (fun cdv A outer s H E hr => ?_)
  exact (dss_one (ds_ret [] (de_gKept G 0 (de_neg de_int))))
abbrev s_g_texts : Stmt := inClass (top 59) 2
abbrev N_g_texts : List Str := ["self"]
def g_g_texts (C : Addr) : FS := (retS [] (playedE C 0))
def mg_texts (C : Addr) : GF := semG 1 C (g_g_texts C)
theorem sc_g_texts : FnScope N_g_texts ["self"] (defScope s_g_texts) := ⟨rfl, rfl, rfl, by decide +kernel, rfl, by decide +kernel, by decide +kernel⟩
theorem okg_texts {P : Program} {w : World} {K : KF} {mg : Str → Option Value} {base : Heap} {C : Addr} (T : Txt K w mg) (G : GameT K C) {f : Addr} {fd : FuncData} (F : FunD K "texts" "Game.texts" (defArgs s_g_texts) (defBody s_g_texts) (defScope s_g_texts) [] [] f fd) : FnOk P w K mg base CX0 1 f fd ["self"] (spG C 0 (mg_texts C)) := by
  refine okG (N := N_g_texts) (b := g_g_texts C) F sc_g_texts rfl (fun cdv A outer s H E hr => ?_)
  exact (dss_one (ds_ret [] (de_gPlayed G 0 (by rfl) T.list)))
abbrev s_g_ended : Stmt := inClass (top 59) 3
abbrev N_g_ended : List Str := ["self", "now", "word", "stuck", "calm", "repeat", "numbers", "k", "one"]
def g_g_ended (C : Addr) : FS := (seqS (asgS 1 [] (keptE C 0 (unE dNeg (litE (.int 1)))))
    (seqS (asgS 2 [] (binE dAt (callD 2 m_verdict (consA (rulesE C 0) (consA (varE 1) nilA))) (litE (.int 0))))
    (seqS (ifS [] (binT dNe (varE 2) (litE (.str "on"))) (retS [] (tupE (consA (varE 2) (consA (binE dAt (varE 1) (litE (.int 1))) nilA)))) nilS)
    (seqS (unpS (.tp [3, 4, 5]) [] (binE dAt (rulesE C 0) (litE (.int 3))))
    (seqS (asgS 6 [] (compE [7, 8] (.tp [7, 8]) (keptI C 0) (binT dEq (slE (varE 8) noneO (someO (litE (.int 4))) dCut) (slE (varE 1) noneO (someO (litE (.int 4))) dCut)) (varE 7)))
    (seqS (ifS [] (andT (binT dNe (varE 5) (litE (.int 0))) (binT dGe (callE gLen (consA (varE 6) nilA)) (varE 5))) (retS [] (tupE (consA (litE (.str "repeat")) (consA (varE 6) nilA)))) nilS)
    (seqS (ifS [] (andT (binT dNe (varE 4) (litE (.int 0))) (binT dGe (binE dAt (varE 1) (litE (.int 4))) (varE 4))) (retS [] (tupE (consA (litE (.str "calm")) (consA (binE dAt (varE 1) (litE (.int 4))) nilA)))) nilS)
    (retS [] (litE .none)))))))))
def mg_ended (C : Addr) : GF := semG 9 C (g_g_ended C)
theorem sc_g_ended : FnScope N_g_ended ["self"] (defScope s_g_ended) := ⟨rfl, rfl, rfl, by decide +kernel, rfl, by decide +kernel, by decide +kernel⟩
theorem okg_ended {P : Program} {w : World} {K : KF} {mg : Str → Option Value} {base : Heap} {C : Addr} (T : Txt K w mg) (G : GameT K C) (C_verdict : CallD P w K mg base 11 "verdict" 2 m_verdict) {f : Addr} {fd : FuncData} (F : FunD K "ended" "Game.ended" (defArgs s_g_ended) (defBody s_g_ended) (defScope s_g_ended) [] [] f fd) : FnOk P w K mg base CX0 12 f fd ["self"] (spG C 0 (mg_ended C)) := by
  refine okG (N := N_g_ended) (b := g_g_ended C) F sc_g_ended rfl (fun cdv A outer s H E hr => ?_)
  exact (dss_cons (ds_set 1 [] sc_g_ended.nd (de_gKept G 0 (de_neg de_int)))
      (dss_cons (ds_set 2 [] sc_g_ended.nd (de_sub (de_call C_verdict (hr.mono (by decide)) (by rfl) (da_cons (de_gRules G 0) (da_cons (de_var 1) da_nil))) de_int))
      (dss_cons (ds_if [] (dt_cmp (opd_ne hr.units) (de_var 2) de_str (nomark _)) (dss_one (ds_ret [] (de_tup (da_cons (de_var 2) (da_cons (de_sub (de_var 1) de_int) da_nil))))) dss_nil)
      (dss_cons (ds_unp (.tp [3, 4, 5]) [] (de_sub (de_gRules G 0) de_int) (pg_tp rfl (pgs_cn 3 sc_g_ended.nd (pgs_cn 4 sc_g_ended.nd (pgs_cn 5 sc_g_ended.nd pgs_nl)))))
      (dss_cons (ds_setC 6 [] [("k", 7), ("one", 8)] (.tp [7, 8]) rfl sc_g_ended.nd (di_gKept G 0 (by rfl) T.enumerate) (blkOk_by (N := N_g_ended) (sc := defScope s_g_ended) (by decide +kernel)) (fun _ _ _ _ _ => (pg_tp rfl (pgs_cn 7 sc_g_ended.nd (pgs_cn 8 sc_g_ended.nd pgs_nl)))) (fun _ _ _ _ _ => (dts_one (dt_cmp (opd_eq hr.units) (de_slice (de_var 8) do_none (do_some de_int)) (de_slice (de_var 1) do_none (do_some de_int)) (nomark _)))) (fun _ _ _ _ _ => (de_var 7)))
      (dss_cons (ds_if [] (DW.dt (dw_and (dt_cmp (opd_ne hr.units) (de_var 5) de_int (nomark _)) (dw_and1 (dt_cmp opd_ge (de_callB (cld_len) (by rfl) T.len (by decide +kernel) (da_cons (de_var 6) da_nil)) (de_var 5) (nomark _))))) (dss_one (ds_ret [] (de_tup (da_cons de_str (da_cons (de_var 6) da_nil))))) dss_nil)
      (dss_cons (ds_if [] (DW.dt (dw_and (dt_cmp (opd_ne hr.units) (de_var 4) de_int (nomark _)) (dw_and1 (dt_cmp opd_ge (de_sub (de_var 1) de_int) (de_var 4) (nomark _))))) (dss_one (ds_ret [] (de_tup (da_cons de_str (da_cons (de_sub (de_var 1) de_int) da_nil))))) dss_nil)
      (dss_one (ds_ret [] de_non)))))))))
abbrev s_g_result : Stmt := inClass (top 59) 4
abbrev N_g_result : List Str := ["self", "end"]
def g_g_result (C : Addr) : FS := (seqS (asgS 1 [] (gmethE C 0 (mg_ended C)))
    (seqS (ifS [] (binT dIs (varE 1) (litE .none)) (retS [] (litE .none)) nilS)
    (seqS (ifS [] (orT (binT dEq (binE dAt (varE 1) (litE (.int 0))) (litE (.str "mated"))) (andT (binT dEq (binE dAt (varE 1) (litE (.int 0))) (litE (.str "stuck"))) (binT dEq (binE dAt (binE dAt (rulesE C 0) (litE (.int 3))) (litE (.int 0))) (litE (.str "lost"))))) (retS [] (binE dSub (litE (.int 1)) (binE dAt (varE 1) (litE (.int 1))))) nilS)
    (seqS (ifS [] (andT (binT dEq (binE dAt (varE 1) (litE (.int 0))) (litE (.str "stuck"))) (binT dEq (binE dAt (binE dAt (rulesE C 0) (litE (.int 3))) (litE (.int 0))) (litE (.str "won")))) (retS [] (binE dAt (varE 1) (litE (.int 1)))) nilS)
    (retS [] (litE (.str "even")))))))
def mg_result (C : Addr) : GF := semG 2 C (g_g_result C)
theorem sc_g_result : FnScope N_g_result ["self"] (defScope s_g_result) := ⟨rfl, rfl, rfl, by decide +kernel, rfl, by decide +kernel, by decide +kernel⟩
theorem okg_result {P : Program} {w : World} {K : KF} {mg : Str → Option Value} {base : Heap} {C : Addr} (T : Txt K w mg) (G : GameT K C) (C_ended : GMeth P w K mg base C 12 "ended" 0 (mg_ended C)) {f : Addr} {fd : FuncData} (F : FunD K "result" "Game.result" (defArgs s_g_result) (defBody s_g_result) (defScope s_g_result) [] [] f fd) : FnOk P w K mg base CX0 13 f fd ["self"] (spG C 0 (mg_result C)) := by
  refine okG (N := N_g_result) (b := g_g_result C) F sc_g_result rfl (fun cdv A outer s H E hr => ?_)
  exact (dss_cons (ds_set 1 [] sc_g_result.nd (de_gMeth0 G C_ended (hr.mono (by decide)) 0))
      (dss_cons (ds_if [] (dt_cmp opd_is (de_var 1) de_non (nomark _)) (dss_one (ds_ret [] de_non)) dss_nil)
      (dss_cons (ds_if [] (DW.dt (dw_or (dt_cmp (opd_eq hr.units) (de_sub (de_var 1) de_int) de_str (nomark _)) (dw_or1 (DW.dt (dw_and (dt_cmp (opd_eq hr.units) (de_sub (de_var 1) de_int) de_str (nomark _)) (dw_and1 (dt_cmp (opd_eq hr.units) (de_sub (de_sub (de_gRules G 0) de_int) de_int) de_str (nomark _)))))))) (dss_one (ds_ret [] (de_bin opd_sub de_int (de_sub (de_var 1) de_int)))) dss_nil)
      (dss_cons (ds_if [] (DW.dt (dw_and (dt_cmp (opd_eq hr.units) (de_sub (de_var 1) de_int) de_str (nomark _)) (dw_and1 (dt_cmp (opd_eq hr.units) (de_sub (de_sub (de_gRules G 0) de_int) de_int) de_str (nomark _))))) (dss_one (ds_ret [] (de_sub (de_var 1) de_int))) dss_nil)
      (dss_one (ds_ret [] de_str))))))
end
end RB
set_option Elab.async false
set_option linter.all false
set_option maxRecDepth 100000
set_option maxHeartbeats 2000000
set_option autoImplicit false
/-! PG2: plain maths of games: place, texts, ended, result. -/
namespace RB
open PySem PySem.Spec L2
noncomputable section
mutual
theorem eqv_refl : ∀ d : D, plainD d = true → PyData.eqv d d = true
  | .none, _ => by simp [PyData.eqv]
  | .bool b, _ => by simp [PyData.eqv]
  | .int i, _ => by simp [PyData.eqv]
  | .str x, _ => by simp [PyData.eqv]
  | .list xs, h => by simp only [PyData.eqv]; exact eqvs_refl xs (by simpa [plainD] using h)
  | .tuple xs, h => by simp only [PyData.eqv]; exact eqvs_refl xs (by simpa [plainD] using h)
  | .dict _, h => by simp [plainD] at h
theorem eqvs_refl : ∀ ds : List D, plainDs ds = true → PyData.eqvAll ds ds = true
  | [], _ => by simp [PyData.eqvAll]
  | d :: r, h => by
    simp only [plainDs, Bool.and_eq_true] at h
    simp [PyData.eqvAll, eqv_refl d h.1, eqvs_refl r h.2]
end
@[simp] theorem rulesE_gm {C g kl pl : Addr} {r : D} {ks ts : List D} {ρ : Sl} : rulesE C 0 (.gm C g kl pl r ks ts :: ρ) = some r := by simp [rulesE, gmAt]
@[simp] theorem keptE_gm {C g kl pl : Addr} {r : D} {ks ts : List D} {ρ : Sl} {f : FE} : keptE C 0 f (.gm C g kl pl r ks ts :: ρ) = (f (.gm C g kl pl r ks ts :: ρ)).bind fun y => dAt (.list ks) y := by simp [keptE, gmAt]
@[simp] theorem keptI_gm {C g kl pl : Addr} {r : D} {ks ts : List D} {ρ : Sl} : keptI C 0 (.gm C g kl pl r ks ts :: ρ) = some (enumFrom 0 ks) := by simp [keptI, gmAt]
@[simp] theorem playedE_gm {C g kl pl : Addr} {r : D} {ks ts : List D} {ρ : Sl} : playedE C 0 (.gm C g kl pl r ks ts :: ρ) = some (.list ts) := by simp [playedE, gmAt]
@[simp] theorem gmethE_gm {C g kl pl : Addr} {G : GF} {r : D} {ks ts : List D} {ρ : Sl} : gmethE C 0 G (.gm C g kl pl r ks ts :: ρ) = G g kl pl r ks ts [] := by simp [gmethE]
@[simp] theorem semG_eq {N : Nat} {C g kl pl : Addr} {b : FS} {r : D} {ks ts ds : List D} : semG N C b g kl pl r ks ts ds = (b (startG N C g kl pl r ks ts ds)).bind fun o => match o with
  | .rt d => some d
  | .nx _ => some .none
  | _ => none := rfl
@[simp] theorem startG_eq {N : Nat} {C g kl pl : Addr} {r : D} {ks ts ds : List D} : startG N C g kl pl r ks ts ds = .gm C g kl pl r ks ts :: (ds.map .im ++ List.replicate (N - 1 - ds.length) .no) := rfl
theorem enumFrom_map {α : Type} [Inhabited α] {f : α → D} : ∀ (xs : List α) (n : Nat), enumFrom n (xs.map f) = (List.range xs.length).map fun i => .tuple [.int ((n + i : Nat) : Int), f (xs.getD i default)]
  | [], _ => rfl
  | x :: r, n => by
    rw [List.length_cons, List.range_succ_eq_map, List.map_cons, List.map_cons, List.map_map, enumFrom, enumFrom_map r (n + 1)]
    congr 1
    refine List.map_congr_left fun i _ => ?_
    show PyData.tuple [PyData.int ((n + 1 + i : Nat) : Int), f (r.getD i default)] = PyData.tuple [PyData.int ((n + (i + 1) : Nat) : Int), f ((x :: r).getD (i + 1) default)]
    rw [show n + 1 + i = n + (i + 1) by omega]
    rfl
instance : Inhabited Place := ⟨⟨[], 0, 0, none, 0⟩⟩
section
variable {R : Rules} {p : Place} {C g kl pl : Addr}
/-- a place without its calm -/
def Place.d4 (p : Place) : D := .tuple [.str (txt p.cells), .int (p.side : Int), .int (p.fresh : Int), passD p.passed]
theorem cut4 (p : Place) : dCut p.d none (some 4) = some p.d4 := by
  rw [Place.d_eq]
  have h : HT.sIx 5 5 (some (4 : Int)) = 4 := by decide
  have h0 : HT.sIx 5 0 none = 0 := rfl
  show (if HT.sIx 5 0 none = 0 ∧ HT.sIx 5 5 (some (4 : Int)) = 5 then none else some (PyData.tuple (cutG _ none (some 4)))) = _
  rw [h, if_neg (by decide)]
  rfl
theorem good_pass (q : Option (Nat × Nat)) : GoodD 1 (passD q) := by
  cases q with
  | none => exact good_none.mono (by decide)
  | some q =>
    obtain ⟨b, a⟩ := q
    exact .tuple fun d hd => by
      simp only [List.mem_cons, List.not_mem_nil, or_false] at hd
      rcases hd with rfl | rfl <;> exact good_int
theorem PlaceOk.good4 (hp : PlaceOk R p) : GoodD 2 p.d4 := .tuple fun d hd => by
  simp only [List.mem_cons, List.not_mem_nil, or_false] at hd
  rcases hd with rfl | rfl | rfl | rfl
  · exact (good_str (ok_txt fun c hc => by have := hp.lt c hc; omega)).mono (by decide)
  · exact good_int.mono (by decide)
  · exact good_int.mono (by decide)
  · exact good_pass _
theorem PlaceOk.good (hp : PlaceOk R p) : GoodD 2 p.d := .tuple fun d hd => by
  simp only [List.mem_cons, List.not_mem_nil, or_false] at hd
  rcases hd with rfl | rfl | rfl | rfl | rfl
  · exact (good_str (ok_txt fun c hc => by have := hp.lt c hc; omega)).mono (by decide)
  · exact good_int.mono (by decide)
  · exact good_int.mono (by decide)
  · exact good_pass _
  · exact good_int.mono (by decide)
def same4 (q p : Place) : Bool := PyData.eqv q.d4 p.d4
/-- where the same place stood -/
def numsOf (kept : List Place) (p : Place) : List Nat := (List.range kept.length).filter fun i => same4 (kept.getD i default) p
/-- what ends a game, as data -/
inductive EndIs (R : Rules) (kept : List Place) (p : Place) : D → Prop
  | on : EndIs R kept p .none
  | mated : EndIs R kept p (.tuple [.str "mated", .int (p.side : Int)])
  | stuck : EndIs R kept p (.tuple [.str "stuck", .int (p.side : Int)])
  | rep : EndIs R kept p (.tuple [.str "repeat", .list (natsD (numsOf kept p))])
  | calm : EndIs R kept p (.tuple [.str "calm", .int p.calm])
@[simp] theorem ok_on_ : PyData.strOk "on" = true := by decide +kernel
@[simp] theorem ok_mated_ : PyData.strOk "mated" = true := by decide +kernel
@[simp] theorem ok_stuck_ : PyData.strOk "stuck" = true := by decide +kernel
@[simp] theorem ok_repeat_ : PyData.strOk "repeat" = true := by decide +kernel
@[simp] theorem ok_calm_ : PyData.strOk "calm" = true := by decide +kernel
@[simp] theorem ok_even_ : PyData.strOk "even" = true := by decide +kernel
@[simp] theorem ok_lost_ : PyData.strOk "lost" = true := by decide +kernel
@[simp] theorem ok_won_ : PyData.strOk "won" = true := by decide +kernel
@[simp] theorem ne_mated_on : ¬ (("mated" : Str) = "on") := by decide +kernel
@[simp] theorem ne_stuck_on : ¬ (("stuck" : Str) = "on") := by decide +kernel
@[simp] theorem ne_stuck_mated : ¬ (("stuck" : Str) = "mated") := by decide +kernel
@[simp] theorem ne_repeat_mated : ¬ (("repeat" : Str) = "mated") := by decide +kernel
@[simp] theorem ne_repeat_stuck : ¬ (("repeat" : Str) = "stuck") := by decide +kernel
@[simp] theorem ne_calm_mated : ¬ (("calm" : Str) = "mated") := by decide +kernel
@[simp] theorem ne_calm_stuck : ¬ (("calm" : Str) = "stuck") := by decide +kernel
@[simp] theorem ne_even_lost : ¬ (("even" : Str) = "lost") := by decide +kernel
@[simp] theorem ne_won_lost : ¬ (("won" : Str) = "lost") := by decide +kernel
@[simp] theorem ne_even_won : ¬ (("even" : Str) = "won") := by decide +kernel
@[simp] theorem ne_lost_won : ¬ (("lost" : Str) = "won") := by decide +kernel
theorem EndIs.good {kept : List Place} {d : D} (h : EndIs R kept p d) : GoodD 2 d := by
  cases h with
  | on => exact good_none.mono (by decide)
  | mated =>
    refine .tuple fun d hd => ?_
    simp only [List.mem_cons, List.not_mem_nil, or_false] at hd
    rcases hd with rfl | rfl
    · exact (good_str ok_mated_).mono (by decide)
    · exact good_int.mono (by decide)
  | stuck =>
    refine .tuple fun d hd => ?_
    simp only [List.mem_cons, List.not_mem_nil, or_false] at hd
    rcases hd with rfl | rfl
    · exact (good_str ok_stuck_).mono (by decide)
    · exact good_int.mono (by decide)
  | rep =>
    refine .tuple fun d hd => ?_
    simp only [List.mem_cons, List.not_mem_nil, or_false] at hd
    rcases hd with rfl | rfl
    · exact (good_str ok_repeat_).mono (by decide)
    · exact good_ins _
  | calm =>
    refine .tuple fun d hd => ?_
    simp only [List.mem_cons, List.not_mem_nil, or_false] at hd
    rcases hd with rfl | rfl
    · exact (good_str ok_calm_).mono (by decide)
    · exact good_int.mono (by decide)
theorem last_at {kept : List Place} (hlast : kept.getLast? = some p) : dAt (.list (kept.map Place.d)) (.int (-1)) = some p.d := by
  have kl : 1 ≤ kept.length := by
    cases kept with
    | nil => cases hlast
    | cons => simp
  refine at_back (j := 1) (by omega) (by rw [List.length_map]; exact kl) ?_
  rw [List.length_map, List.getElem?_map]
  rw [List.getLast?_eq_getElem?] at hlast
  rw [hlast]
  rfl
theorem mg_place_eq {kept : List Place} (hlast : kept.getLast? = some p) (ts : List D) : mg_place C g kl pl R.d (kept.map Place.d) ts [] = some p.d := by
  simp [mg_place, g_g_place, last_at hlast]
theorem mg_texts_eq {ks : List D} {r : D} (ts : List D) : mg_texts C g kl pl r ks ts [] = some (.list ts) := by
  simp [mg_texts, g_g_texts]
theorem mg_ended_ex (hR : RulesOk R) {kept : List Place} (hk : ∀ q ∈ kept, PlaceOk R q) (hlast : kept.getLast? = some p) (hl : kept.length < 1000) : ∃ (ms : List Mv) (d : D), Moves R p ms ∧ (∀ C g kl pl ts, mg_ended C g kl pl R.d (kept.map Place.d) ts [] = some d) ∧ EndIs R kept p d ∧ (d = .none → ms ≠ []) := by
  have hp : PlaceOk R p := hk p (List.mem_of_getLast? hlast)
  obtain ⟨ms, M, w, rest, eV, hw⟩ := m_verdict_ex hR hp
  have e1 := last_at hlast
  rcases hw with ⟨rfl, hne⟩ | ⟨hw, hnil⟩
  · have e2 : ∀ C g kl pl ts x2 x3 x4 x5, loopC (.tp [7, 8]) (binT dEq (slE (varE 8) noneO (someO (litE (.int 4))) dCut) (slE (varE 1) noneO (someO (litE (.int 4))) dCut)) (varE 7) [.gm C g kl pl R.d (kept.map Place.d) ts, .im p.d, x2, x3, x4, x5, .no, .no, .no] (enumFrom 0 (kept.map Place.d)) = some (natsD (numsOf kept p)) := fun C g kl pl ts x2 x3 x4 x5 => by
      rw [enumFrom_map]
      unfold numsOf
      refine loopC_eq (g := fun i => PyData.tuple [PyData.int ((0 + i : Nat) : Int), Place.d (kept.getD i default)]) (r := fun i : Nat => PyData.int (i : Int)) fun i hi => ?_
      have hi := List.mem_range.mp hi
      have eg : kept.getD i default = kept[i] := by simp [List.getD, List.getElem?_eq_getElem hi]
      have ok := hk _ (List.getElem_mem hi)
      rw [eg]
      generalize kept[i] = q at ok
      have eE := dEq_ok (ok.good4.ok (by decide)) (hp.good4.ok (by decide))
      refine ⟨[.gm C g kl pl R.d (kept.map Place.d) ts, .im p.d, x2, x3, x4, x5, .no, .im (.int (i : Int)), .im q.d], by rw [Nat.zero_add]; rfl, ?_, fun _ => rfl⟩
      simp [cut4, eE, same4]
    have hsz : kept.length ≤ sizeLine := len_sig _ (by omega)
    by_cases c1 : ¬ R.rep = 0 ∧ R.rep ≤ ((numsOf kept p).length : Int)
    · refine ⟨ms, _, M, fun C g kl pl ts => ?_, .rep, fun z => nomatch z⟩
      simp [mg_ended, g_g_ended, e1, eV, e2, enum_len, hsz, c1.1, c1.2]
    · by_cases c2 : ¬ R.calm = 0 ∧ R.calm ≤ p.calm
      · refine ⟨ms, _, M, fun C g kl pl ts => ?_, .calm, fun z => nomatch z⟩
        by_cases c0 : R.rep = 0
        · simp [mg_ended, g_g_ended, e1, eV, e2, enum_len, hsz, c0, c2.1, c2.2]
        · have c3 : ¬ R.rep ≤ ((numsOf kept p).length : Int) := fun z => c1 ⟨c0, z⟩
          simp [mg_ended, g_g_ended, e1, eV, e2, enum_len, hsz, c0, c3, c2.1, c2.2]
      · refine ⟨ms, _, M, fun C g kl pl ts => ?_, .on, fun _ => hne⟩
        by_cases c0 : R.rep = 0
        · by_cases d0 : R.calm = 0
          · simp [mg_ended, g_g_ended, e1, eV, e2, enum_len, hsz, c0, d0]
          · have d3 : ¬ R.calm ≤ p.calm := fun z => c2 ⟨d0, z⟩
            simp [mg_ended, g_g_ended, e1, eV, e2, enum_len, hsz, c0, d0, d3]
        · have c3 : ¬ R.rep ≤ ((numsOf kept p).length : Int) := fun z => c1 ⟨c0, z⟩
          by_cases d0 : R.calm = 0
          · simp [mg_ended, g_g_ended, e1, eV, e2, enum_len, hsz, c0, c3, d0]
          · have d3 : ¬ R.calm ≤ p.calm := fun z => c2 ⟨d0, z⟩
            simp [mg_ended, g_g_ended, e1, eV, e2, enum_len, hsz, c0, c3, d0, d3]
  · rcases hw with rfl | rfl
    · exact ⟨ms, _, M, fun C g kl pl ts => by simp [mg_ended, g_g_ended, e1, eV], .mated, fun z => nomatch z⟩
    · exact ⟨ms, _, M, fun C g kl pl ts => by simp [mg_ended, g_g_ended, e1, eV], .stuck, fun z => nomatch z⟩
theorem mg_result_ex (hR : RulesOk R) {kept : List Place} (hk : ∀ q ∈ kept, PlaceOk R q) (hlast : kept.getLast? = some p) (hl : kept.length < 1000) : ∃ d : D, (∀ C g kl pl ts, mg_result C g kl pl R.d (kept.map Place.d) ts [] = some d) ∧ GoodD 0 d := by
  obtain ⟨ms, e, M, eE, hE, _⟩ := mg_ended_ex hR hk hlast hl
  have oks : PyData.strOk R.stuck = true := by rcases hR.stuck with e | e | e <;> rw [e] <;> simp
  cases hE with
  | on => exact ⟨.none, fun C g kl pl ts => by simp [mg_result, g_g_result, eE], good_none⟩
  | mated => exact ⟨_, fun C g kl pl ts => by simp [mg_result, g_g_result, eE]; rfl, good_int⟩
  | stuck =>
    rcases hR.stuck with es | es | es
    · exact ⟨_, fun C g kl pl ts => by simp [mg_result, g_g_result, eE, es], good_str ok_even_⟩
    · exact ⟨_, fun C g kl pl ts => by simp [mg_result, g_g_result, eE, es]; rfl, good_int⟩
    · exact ⟨_, fun C g kl pl ts => by simp [mg_result, g_g_result, eE, es]; rfl, good_int⟩
  | rep => exact ⟨_, fun C g kl pl ts => by simp [mg_result, g_g_result, eE], good_str ok_even_⟩
  | calm => exact ⟨_, fun C g kl pl ts => by simp [mg_result, g_g_result, eE], good_str ok_even_⟩
end
end
end RB
set_option Elab.async false
set_option linter.all false
set_option maxRecDepth 100000
set_option maxHeartbeats 2000000
set_option autoImplicit false
/-! PG3: games that change: play, back, made anew. -/
namespace RB
open PySem PySem.Spec L2
noncomputable section
/-- a game, live -/
structure LG (C : Addr) (I H : Hp) (g dx kl pl : Addr) (rv : V) (r : D) (ks ts : List D) : Prop where
  og : H g = some (.ins C dx (gameF rv kl pl))
  ok : ∃ vs, H kl = some (.lst vs) ∧ DvAll I vs ks
  op : ∃ us, H pl = some (.lst us) ∧ DvAll I us ts
  dr : Dv I rv r
  ig : I g = none
  ik : I kl = none
  ip : I pl = none
  ne : kl ≠ pl
theorem LG.slot {C : Addr} {I H : Hp} {g dx kl pl : Addr} {rv : V} {r : D} {ks ts : List D} (h : LG C I H g dx kl pl rv r ks ts) : SlotOk H I H (some (.ref g)) (.gm C g kl pl r ks ts) := by
  obtain ⟨vs, h1, d1⟩ := h.ok
  obtain ⟨us, h2, d2⟩ := h.op
  exact ⟨dx, rv, vs, us, rfl, h.og, h1, h2, h.dr, d1, d2⟩
/-- the heap changes at kl and pl alone, and grows -/
structure Chg (kl pl : Addr) (I H I' H' : Hp) : Prop where
  k : ∀ a o, a ≠ kl → a ≠ pl → H a = some o → H' a = some o
  i : Same I I'
  s : Same I' H'
  n : ∀ a, I a = none → H a ≠ none → I' a = none
def spPlay (C : Addr) : Sp := fun vs H Q _ => ∃ (I : Hp) (g dx kl pl : Addr) (rv v : V) (r thing p m q : D) (ks ts : List D) (text : Str), vs = [.ref g, v] ∧ LG C I H g dx kl pl rv r ks ts ∧ Same I H ∧ Dv I v thing ∧ mg_ended C g kl pl r ks ts [] = some .none ∧
  dAt (.list ks) (.int (-1)) = some p ∧ m_read_short [r, p, thing] = some m ∧ m_short [r, p, m] = some (.str text) ∧ m_after [r, p, m] = some q ∧ ks.length < 1000 ∧ ts.length < 1000 ∧
  ∀ H' I', Chg kl pl I H I' H' → LG C I' H' g dx kl pl rv r (ks ++ [q]) (ts ++ [.str text]) → Q (.str text) H'
section
variable {P : Program} {w : World} {K : KF} {mg : Str → Option Value} {base : Heap} {C : Addr}
abbrev s_play : Stmt := inClass (top 59) 5
abbrev N_play : List Str := ["self", "thing", "now", "move", "text"]
theorem sc_play : FnScope N_play ["self", "thing"] (defScope s_play) := ⟨rfl, rfl, rfl, by decide +kernel, rfl, by decide +kernel, by decide +kernel⟩
theorem ok_play (T : Txt K w mg) (G : GameT K C) (C_ended : GMeth P w K mg base C 12 "ended" 0 (mg_ended C)) (C_read_short : CallD P w K mg base 13 "read_short" 3 m_read_short) (C_short : CallD P w K mg base 13 "short" 3 m_short) (C_after : CallD P w K mg base 13 "after" 3 m_after)
    {f : Addr} {fd : FuncData} (F : FunD K "play" "Game.play" (defArgs s_play) (defBody s_play) (defScope s_play) [] [] f fd) : FnOk P w K mg base CX0 14 f fd ["self", "thing"] (spPlay C) := by
  refine F.ok (CX := CX0) sc_play (fun vs H Q E h => ?_) (fun cdv A outer s H vs Q E hr h => ?_)
  · obtain ⟨I, g, dx, kl, pl, rv, v, r, thing, p, m, q, ks, ts, text, rfl, _⟩ := h
    rfl
  · obtain ⟨I, g, dx, kl, pl, rv, v, r, thing, p, m, q, ks, ts, text, rfl, L, hs, hv, e1, e2, e3, e4, e5, l1, l2, k⟩ := h
    let ρ0 : Sl := [.gm C g kl pl r ks ts, .im thing, .no, .no, .no]
    let ρ1 : Sl := [.gm C g kl pl r ks ts, .im thing, .im p, .no, .no]
    let ρ2 : Sl := [.gm C g kl pl r ks ts, .im thing, .im p, .im m, .no]
    let ρ3 : Sl := [.gm C g kl pl r ks ts, .im thing, .im p, .im m, .im (.str text)]
    have b0 : Bd I H (L2.start N_play [.ref g, v]) ρ0 I H := startG_bd (N := N_play) (ds := [thing]) hs L.slot (.cons hv .nil)
    refine ⟨_, PSs.nox (pss_cons ((ds_if [] (dt_cmp opd_isnot (de_gMeth0 G C_ended (hr.mono (by decide)) 0) de_non (nomark _)) (dss_one ds_stuck) dss_nil).run ρ0 (.nx ρ0) (by simp [ρ0, e1]) I H)
      (pss_cons ((ds_set 2 [] sc_play.nd (de_gKept G 0 (de_neg de_int))).run ρ0 (.nx ρ1) (by simp [ρ0, ρ1, e2]) I H)
      (pss_cons ((ds_set 3 [] sc_play.nd (de_call C_read_short (hr.mono (by decide)) (by rfl) (da_cons (de_gRules G 0) (da_cons (de_var 2) (da_cons (de_var 1) da_nil))))).run ρ1 (.nx ρ2) (by simp [ρ1, ρ2, e3]) I H)
      (pss_cons ((ds_set 4 [] sc_play.nd (de_call C_short (hr.mono (by decide)) (by rfl) (da_cons (de_gRules G 0) (da_cons (de_var 2) (da_cons (de_var 3) da_nil))))).run ρ2 (.nx ρ3) (by simp [ρ2, ρ3, e4]) I H)
      (pss_cons (ps_expr (pe_bm PySem.F.plainAttrs_list PySem.F.slot_list_append PySem.F.type_list_append mt_append (pe_fld (pv 0) rfl) (pa_cons ((de_call C_after (hr.mono (by decide)) (by rfl) (da_cons (de_gRules G 0) (da_cons (de_var 2) (da_cons (de_var 3) da_nil)))).run ρ3 q (by simp [ρ3, e5]) I H) pa_nil)))
      (pss_cons (ps_expr (pe_bm PySem.F.plainAttrs_list PySem.F.slot_list_append PySem.F.type_list_append mt_append (pe_fld (pv 0) rfl) (pa_cons (pv 4) pa_nil)))
      (pss_one (ps_ret (pv 4))))))))), ?_⟩
    refine ⟨I, b0, fun σ1 H1 I1 t1 b1 => ⟨I1, b1, fun σ2 H2 I2 t2 b2 => ⟨I2, b2, fun σ3 H3 I3 t3 b3 => ⟨I3, b3, fun σ4 H4 I4 t4 b4 => ?_⟩⟩⟩⟩
    obtain ⟨dx', rv', vs, us, es, h01, h02, h03, h1, h2, h3, d1, d2, d3⟩ := b4.gm (i := 0) rfl
    obtain ⟨vt, et, dt⟩ := b4.im (i := 4) rfl
    have ev := dv_str dt
    subst ev
    have hg4 := b4.st.h _ _ L.og
    rw [h1] at hg4
    have e6 : (HO.ins C dx' (gameF rv' kl pl)) = HO.ins C dx (gameF rv kl pl) := Option.some.inj hg4
    rw [e6] at h1
    have gk : kl ≠ g := ne_of h2 h1 (by intro q; cases q)
    have gp : pl ≠ g := ne_of h3 h1 (by intro q; cases q)
    have hkn : H kl ≠ none := by obtain ⟨x, hx, _⟩ := L.ok; rw [hx]; simp
    have hpn : H pl ≠ none := by obtain ⟨x, hx, _⟩ := L.op; rw [hx]; simp
    have ik4 := b4.st.n kl L.ik hkn
    have ip4 := b4.st.n pl L.ip hpn
    have ig4 := b4.st.n g L.ig (by rw [L.og]; simp)
    have m1 : vs.length < sizeLine := by rw [dvs_len d2]; exact lt_sig _ (by omega)
    have m2 : us.length < sizeLine := by rw [dvs_len d3]; exact lt_sig _ (by omega)
    refine ⟨.ref g, es, g, C, dx, _, .ref kl, rfl, h1, G.cl, G.nk, rfl, .inl ⟨rfl, vs, SqL.of h2⟩, I4, b4, fun v5 H5 I5 s5 d5 => ⟨kl, vs, v5, rfl, rfl, s5.h _ _ h2, m1, ?_⟩⟩
    have ik5 := s5.n kl ik4 (by rw [h2]; simp)
    have ip5 := s5.n pl ip4 (by rw [h3]; simp)
    have ig5 := s5.n g ig4 (by rw [h1]; simp)
    have g6 : (upd H5 kl (HO.lst (vs ++ [v5]))) g = some (.ins C dx (gameF rv kl pl)) := by rw [upd_ne gk.symm]; exact s5.h _ _ h1
    have p6 : (upd H5 kl (HO.lst (vs ++ [v5]))) pl = some (.lst us) := by rw [upd_ne L.ne.symm]; exact s5.h _ _ h3
    refine ⟨.ref g, es, g, C, dx, _, .ref pl, rfl, g6, G.cl, G.np, rfl, .inl ⟨rfl, us, SqL.of p6⟩, _, et, pl, us, _, rfl, rfl, p6, m2, ?_⟩
    refine ⟨_, et, k _ I5 ⟨fun a o hk hp e => ?_, b4.st.i.trans s5.i, fun a o e => ?_, fun a hi hh => ?_⟩ ⟨?_, ⟨vs ++ [v5], ?_, dvs_app (dvs_mono s5.i d2) (dvs_one d5)⟩, ⟨us ++ [.str text], upd_same, dvs_app (dvs_mono s5.i d3) (dvs_one (.str text))⟩, dv_mono (b4.st.i.trans s5.i) L.dr, ig5, ik5, ip5, L.ne⟩⟩
    · rw [upd_ne hp, upd_ne hk]; exact s5.h _ _ (b4.st.h _ _ e)
    · rw [upd_ne (fun z => by subst z; rw [ip5] at e; cases e), upd_ne (fun z => by subst z; rw [ik5] at e; cases e)]
      exact s5.s _ _ e
    · exact s5.n a (b4.st.n a hi hh) (same_ne b4.st.h hh)
    · rw [upd_ne gp.symm]; exact g6
    · rw [upd_ne L.ne]; exact upd_same
/-! ### back -/
def spBack (C : Addr) : Sp := fun vs H Q _ => ∃ (I : Hp) (g dx kl pl : Addr) (rv : V) (r q : D) (ks ts : List D) (text : Str), vs = [.ref g] ∧ LG C I H g dx kl pl rv r (ks ++ [q]) (ts ++ [.str text]) ∧ Same I H ∧
  ∀ H', Chg kl pl I H I H' → LG C I H' g dx kl pl rv r ks ts → Q (.str text) H'
abbrev s_back : Stmt := inClass (top 59) 6
theorem sc_back : FnScope ["self"] ["self"] (defScope s_back) := ⟨rfl, rfl, rfl, by decide +kernel, rfl, by decide +kernel, by decide +kernel⟩
theorem dvs_snoc {I : Hp} : ∀ {ds : List D} {vs : List V} {d : D}, DvAll I vs (ds ++ [d]) → ∃ us v, vs = us ++ [v] ∧ DvAll I us ds ∧ Dv I v d
  | [], _, _, .cons h .nil => ⟨[], _, rfl, .nil, h⟩
  | e :: ds, _, _, .cons h t => by
    obtain ⟨us, v, rfl, h1, h2⟩ := dvs_snoc t
    exact ⟨_ :: us, v, rfl, .cons h h1, h2⟩
theorem ok_back (T : Txt K w mg) (G : GameT K C) {f : Addr} {fd : FuncData} (F : FunD K "back" "Game.back" (defArgs s_back) (defBody s_back) (defScope s_back) [] [] f fd) : FnOk P w K mg base CX0 1 f fd ["self"] (spBack C) := by
  refine F.ok (CX := CX0) sc_back (fun vs H Q E h => ?_) (fun cdv A outer s H vs Q E hr h => ?_)
  · obtain ⟨I, g, dx, kl, pl, rv, r, q, ks, ts, text, rfl, _⟩ := h
    rfl
  · obtain ⟨I, g, dx, kl, pl, rv, r, q, ks, ts, text, rfl, L, hs, k⟩ := h
    obtain ⟨vs, h2, d2⟩ := L.ok
    obtain ⟨us, h3, d3⟩ := L.op
    have h1 := L.og
    obtain ⟨vs0, v0, rfl, d4, d5⟩ := dvs_snoc d2
    obtain ⟨us0, u0, rfl, d6, d7⟩ := dvs_snoc d3
    have ev := dv_str d7
    subst ev
    have gk : kl ≠ g := ne_of h2 h1 (by intro q; cases q)
    have gp : pl ≠ g := ne_of h3 h1 (by intro q; cases q)
    refine ⟨_, PSs.nox (pss_cons (ps_if (pt_cmpR op_eq (pe_callB call_len_seq (by rfl) T.len PySem.boot_len (pa_cons (pe_fld (pv 0) rfl) pa_nil)) pe_int (nomark _)) pss_never pss_nil)
      (pss_cons (ps_expr (pe_bm0 PySem.F.plainAttrs_list PySem.F.slot_list_pop PySem.F.type_list_pop (mt_pop) (pe_fld (pv 0) rfl)))
      (pss_one (ps_ret (pe_bm0 PySem.F.plainAttrs_list PySem.F.slot_list_pop PySem.F.type_list_pop (mt_pop) (pe_fld (pv 0) rfl)))))), ?_⟩
    refine ⟨_, rfl, g, C, dx, _, .ref pl, rfl, h1, G.cl, G.np, rfl, pl, _, rfl, .inl (SqL.of h3), ?_⟩
    have hne : ¬ (V.int (((us0 ++ [V.str text]).length : Nat) : Int) = V.int 0) := fun z => by
      injection z with z
      rw [List.length_append, List.length_singleton] at z
      omega
    refine ⟨rfl, _, rfl, ?_⟩
    refine (if_neg (show ¬ (decide (V.int (((us0 ++ [V.str text]).length : Nat) : Int) = V.int 0) = true) from by rw [decide_eq_false hne]; exact Bool.false_ne_true)).mpr ?_
    have g6 : (upd H kl (HO.lst vs0)) g = some (.ins C dx (gameF rv kl pl)) := by rw [upd_ne gk.symm]; exact h1
    have p6 : (upd H kl (HO.lst vs0)) pl = some (.lst (us0 ++ [.str text])) := by rw [upd_ne L.ne.symm]; exact h3
    have last : ∀ (xs : List V) (y : V), (xs ++ [y])[(xs ++ [y]).length - 1]? = some y := fun xs y => by simp
    refine ⟨_, rfl, g, C, dx, _, .ref kl, rfl, h1, G.cl, G.nk, rfl, .inl ⟨rfl, _, SqL.of h2⟩, kl, _, v0, rfl, rfl, h2, last _ _, ?_⟩
    rw [List.dropLast_concat]
    refine ⟨_, rfl, g, C, dx, _, .ref pl, rfl, g6, G.cl, G.np, rfl, .inl ⟨rfl, _, SqL.of p6⟩, pl, _, .str text, rfl, rfl, p6, last _ _, ?_⟩
    rw [List.dropLast_concat]
    refine k _ ⟨fun a o hk hp e => ?_, Same.refl _, fun a o e => ?_, fun a hi _ => hi⟩ ⟨?_, ⟨vs0, ?_, d4⟩, ⟨us0, upd_same, d6⟩, L.dr, L.ig, L.ik, L.ip, L.ne⟩
    · rw [upd_ne hp, upd_ne hk]; exact e
    · rw [upd_ne (fun z => by subst z; rw [L.ip] at e; cases e), upd_ne (fun z => by subst z; rw [L.ik] at e; cases e)]
      exact hs _ _ e
    · rw [upd_ne gp.symm]; exact g6
    · rw [upd_ne L.ne]; exact upd_same
end
end
end RB
set_option Elab.async false
set_option linter.all false
set_option maxRecDepth 100000
set_option maxHeartbeats 2000000
set_option autoImplicit false
/-! PG4: data at any root; games made anew. -/
namespace RB
open PySem PySem.Spec L2
noncomputable section
/-! ### a pure expression, its root where it begins -/
def gE (f : FE) : TE := fun σ H Q => ∃ ρ I d, f ρ = some d ∧ Bd I H σ ρ I H ∧ ∀ v H' I', Step I H I' H' → Dv I' v d → Q v H'
def gT (f : FT) : TT := fun σ H Q => ∃ ρ I b, f ρ = some b ∧ Bd I H σ ρ I H ∧ ∀ H' I', Step I H I' H' → Q b H'
def gA (f : FA) : TA := fun σ H Q => ∃ ρ I ds, f ρ = some ds ∧ Bd I H σ ρ I H ∧ ∀ vs H' I', Step I H I' H' → DvAll I' vs ds → Q vs H'
def gS (f : FS) : TS := fun D σ H => ∃ ρ I o, f ρ = some o ∧ Bd I H σ ρ I H ∧ Then I I H D o
section
variable {X : Cx}
theorem DE.any {e : Expr} {f : FE} (h : DE X e f) : PE X e (gE f) := ⟨fun pins s σ H Q J ⟨ρ, I, d, e, b, q⟩ => (h.run ρ d e I H).run pins s σ H Q J ⟨I, b, q⟩⟩
theorem DT.any {e : Expr} {f : FT} (h : DT X e f) : PT X e (gT f) := ⟨fun pins s σ H Q J ⟨ρ, I, d, e, b, q⟩ => (h.run ρ d e I H).run pins s σ H Q J ⟨I, b, q⟩⟩
theorem DA.any {e : List Expr} {f : FA} (h : DA X e f) : PA X e (gA f) := ⟨fun pos pins s σ H Q J ⟨ρ, I, d, e, b, q⟩ => (h.run ρ d e I H).run pos pins s σ H Q J ⟨I, b, q⟩⟩
theorem DS.any {e : Stmt} {f : FS} (h : DS X e f) : PS X e (gS f) := ⟨fun pins s σ H D J ⟨ρ, I, o, e, b, q⟩ => (h.run ρ o e I H).run pins s σ H D J ⟨I, b, q⟩⟩
theorem DSs.any {e : List Stmt} {f : FS} (h : DSs X e f) : PSs X e (gS f) := ⟨fun pins s σ H D J ⟨ρ, I, o, e, b, q⟩ => (h.run ρ o e I H).run pins s σ H D J ⟨I, b, q⟩⟩
end
/-! ### Game.__init__ -/
def spGInit (C : Addr) : Sp := fun vs H Q _ => ∃ (g dx : Addr) (rv pv : V), vs = [.ref g, rv, pv] ∧ H g = some (.ins C dx []) ∧
  ∀ kl pl H', H kl = none → H pl = none → kl ≠ pl → H' g = some (.ins C dx (gameF rv kl pl)) → H' kl = some (.lst [pv]) → H' pl = some (.lst []) → (∀ a, a ≠ g → a ≠ kl → a ≠ pl → H' a = H a) → Q .non H'
section
variable {P : Program} {w : World} {K : KF} {mg : Str → Option Value} {base : Heap} {C : Addr}
abbrev s_ginit : Stmt := inClass (top 59) 0
theorem sc_ginit : FnScope ["self", "rules", "place"] ["self", "rules", "place"] (defScope s_ginit) := ⟨rfl, rfl, rfl, by decide +kernel, rfl, by decide +kernel, by decide +kernel⟩
theorem ok_ginit (G : GameT K C) {f : Addr} {fd : FuncData} (F : FunD K "__init__" "Game.__init__" (defArgs s_ginit) (defBody s_ginit) (defScope s_ginit) [] [] f fd) : FnOk P w K mg base CX0 1 f fd ["self", "rules", "place"] (spGInit C) := by
  refine F.ok (CX := CX0) sc_ginit (fun vs H Q E h => ?_) (fun cdv A outer s H vs Q E hr h => ?_)
  · obtain ⟨g, dx, rv, pv, rfl, _⟩ := h
    rfl
  · obtain ⟨g, dx, rv, pv', rfl, hg, q⟩ := h
    refine ⟨_, PSs.nox (pss_cons (ps_fld (pv 0) (pv 1) rfl) (pss_cons (ps_fld (pv 0) (pe_lst (pa_cons (pv 2) pa_nil)) rfl) (pss_one (ps_fld (pv 0) (pe_lst pa_nil) rfl)))), ?_⟩
    refine ⟨_, rfl, _, rfl, g, C, dx, [], rfl, hg, G.cl, G.nr, by decide, ?_⟩
    refine ⟨_, rfl, Nat.le_of_lt (small1000 (show 1 ≤ 1000 by decide)), fun kl hk => ?_⟩
    have gk : kl ≠ g := fun z => by rw [z, upd_same] at hk; cases hk
    rw [upd_ne gk] at hk
    have g1 : (upd (upd H g (.ins C dx (putF "rules" rv []))) kl (.lst [pv'])) g = some (.ins C dx (putF "rules" rv [])) := by rw [upd_ne gk.symm]; exact upd_same
    refine ⟨_, rfl, g, C, dx, _, rfl, g1, G.cl, G.nk, by (show 1 < 1000; decide), ?_⟩
    refine ⟨Nat.le_of_lt (small1000 (show 0 ≤ 1000 by decide)), fun pl hp => ?_⟩
    have gp : pl ≠ g := fun z => by rw [z, upd_same] at hp; cases hp
    rw [upd_ne gp] at hp
    have kp : kl ≠ pl := fun z => by rw [← z, upd_same] at hp; cases hp
    rw [upd_ne kp.symm, upd_ne gp] at hp
    refine ⟨_, rfl, g, C, dx, _, rfl, by rw [upd_ne gp.symm]; exact upd_same, G.cl, G.np, by (show 2 < 1000; decide), ?_⟩
    refine q kl pl _ hk hp kp (by rw [upd_same]; rfl) ?_ ?_ fun a h1 h2 h3 => ?_
    · rw [upd_ne gk, upd_ne kp, upd_ne gk]; exact upd_same
    · rw [upd_ne gp]; exact upd_same
    · rw [upd_ne h1, upd_ne h3, upd_ne h1, upd_ne h2, upd_ne h1]
end
def GNew (P : Program) (w : World) (K : KF) (mg : Str → Option Value) (base : Heap) (C : Addr) : Prop :=
  ∃ fa fd ps, Mk K C fa ∧ FnOk P w K mg base CX0 1 fa fd ps (spGInit C) ∧ mg "Game" = some (.ref C) ∧ Binds K fd ps []
def tNewG (C : Addr) (fs : FA) : TE := fun σ H Q => ∃ ρ I r p, fs ρ = some [r, p] ∧ Bd I H σ ρ I H ∧
  ∀ g dx kl pl rv H' I', Step I H I' H' → LG C I' H' g dx kl pl rv r [p] [] → H g = none → H kl = none → H pl = none → Q (.ref g) H'
section
variable {X : Cx} {C : Addr} {e : Expr} {es : List Expr} {fs : FA} {p1 pos : Pos}
theorem pe_newG (N : GNew X.prog X.w X.K X.mg X.base C) (hr : Room 2 X.A) (hg : Gl X "Game") (ha : DA X (e :: es) fs) (he : starEach (e :: es) X.env = (false, eval e X.env) :: starEach es X.env := by rfl) (hpl : (backTo pos (starEach es X.env)).any (·.1) = false := by rfl) :
    PE X (.Call (.Name "Game" p1) (e :: es) [] pos) (tNewG C fs) := by
  obtain ⟨fa, fd, ps, M, F, hm, hb⟩ := N
  refine PE.imp (pe_make M F hr hg hm hb .nil pass0 ha.any (by decide) he hpl) fun σ H Q ⟨ρ, I, r, p, ef, b, q⟩ => ⟨ρ, I, _, ef, b, fun vs H1 I1 s1 d1 => ?_⟩
  intro y dx hy hdx hne
  match vs, d1 with
  | rv :: vs1, .cons e1 d1 =>
    obtain ⟨pv, rfl, e2⟩ := dvs_one' d1
    have hy2 : (upd H1 dx (HO.own y)) y = none := by rw [upd_ne hne.symm]; exact hy
    refine ⟨y, dx, rv, pv, rfl, upd_same, fun kl pl H' hk hp kp h1 h2 h3 ho => ⟨rfl, ?_⟩⟩
    have ky : kl ≠ y := fun z => by rw [z, upd_same] at hk; cases hk
    have py : pl ≠ y := fun z => by rw [z, upd_same] at hp; cases hp
    rw [upd_ne ky] at hk
    rw [upd_ne py] at hp
    have kd : kl ≠ dx := fun z => by rw [z, upd_same] at hk; cases hk
    have pd : pl ≠ dx := fun z => by rw [z, upd_same] at hp; cases hp
    rw [upd_ne kd] at hk
    rw [upd_ne pd] at hp
    have keep : Same H1 H' := fun a o ea => by
      have n1 : a ≠ y := fun z => by rw [z, hy] at ea; cases ea
      have n2 : a ≠ kl := fun z => by rw [z, hk] at ea; cases ea
      have n3 : a ≠ pl := fun z => by rw [z, hp] at ea; cases ea
      have n4 : a ≠ dx := fun z => by rw [z, hdx] at ea; cases ea
      rw [ho a n1 n2 n3, upd_ne n1, upd_ne n4]
      exact ea
    have st : Step I1 H1 I1 H' := ⟨keep, Same.refl _, s1.s.trans keep, fun _ h _ => h⟩
    exact q y dx kl pl rv H' I1 (s1.trans st) ⟨h1, ⟨[pv], h2, dvs_one e2⟩, ⟨[], h3, .nil⟩, e1, s1.s.free hy, s1.s.free hk, s1.s.free hp, kp⟩ (s1.h.free hy) (s1.h.free hk) (s1.h.free hp)
end
end
end RB
set_option Elab.async false
set_option linter.all false
set_option maxRecDepth 100000
set_option maxHeartbeats 2000000
set_option autoImplicit false
/-! PG5: games as rows of places and texts, in plain maths. -/
namespace RB
open PySem PySem.Spec L2
noncomputable section
section
variable {R : Rules}
/-- a game of these places has not ended -/
def OnG (R : Rules) (ps : List Place) : Prop := ∀ C g kl pl ts, mg_ended C g kl pl R.d (ps.map Place.d) ts [] = some .none
/-- x played behind ps: its short text is t, the place behind q -/
structure Plays (R : Rules) (ps : List Place) (x t : List Nat) (q : Place) : Prop where
  on : OnG R ps
  ex : ∃ p ms m, ps.getLast? = some p ∧ PlaceOk R p ∧ Moves R p ms ∧ m ∈ ms ∧ m_read_short [R.d, p.d, strD x] = some (mvD m) ∧ t = shortL R p ms m ∧ m_after [R.d, p.d, mvD m] = some q.d ∧ PlaceOk R q
theorem Plays.again {ps : List Place} {x t : List Nat} {q : Place} (hR : RulesOk R) (h : Plays R ps x t q) : Plays R ps t t q := by
  obtain ⟨p, ms, m, e1, hp, M, hm, e2, e3, e4, hq⟩ := h.ex
  obtain ⟨_, s2, s3⟩ := short_find hR hp M hm
  refine ⟨h.on, p, ms, m, e1, hp, M, hm, ?_, e3, e4, hq⟩
  rw [e3]
  exact m_read_short_eq hR hp M (fun c hc => (form_chars hR hp (M.ok m hm) s2 c hc).1) s3
theorem fL_len (hR : RulesOk R) {p : Place} {m : Mv} (hm : MvOk R p m) {t : List Nat} (h : t ∈ fL R p m) : t ≠ [] ∧ t.length ≤ 8 := by
  have h1 : (markL m.word).length ≤ 1 := by rcases markL_ok hm.word.four with e | e | e <;> rw [e] <;> simp
  have h2 : (letL m.letter).length ≤ 2 := by
    rcases letL_ok hm.let_ with e | ⟨l, e⟩ <;> rw [e] <;> simp
  have h3 : (tailL R m).length ≤ 5 := by
    unfold tailL
    simp only [List.length_append, List.length_cons, List.length_nil]
    omega
  unfold fL at h
  simp only [List.mem_cons, List.not_mem_nil, or_false] at h
  rcases h with e | e | e | e <;> subst e <;> exact ⟨by simp, by simp only [List.length_cons]; omega⟩
structure TextOk (t : List Nat) : Prop where
  chars : ∀ c ∈ t, c < 200 ∧ c ≠ 32
  ne : t ≠ []
  len : t.length ≤ 8
theorem Plays.text {ps : List Place} {x t : List Nat} {q : Place} (hR : RulesOk R) (h : Plays R ps x t q) : TextOk t := by
  obtain ⟨p, ms, m, e1, hp, M, hm, e2, e3, e4, hq⟩ := h.ex
  obtain ⟨_, s2, _⟩ := short_find hR hp M hm
  rw [← e3] at s2
  obtain ⟨n1, n2⟩ := fL_len hR (M.ok m hm) s2
  exact ⟨form_chars hR hp (M.ok m hm) s2, n1, n2⟩
theorem Plays.ok {ps : List Place} {x t : List Nat} {q : Place} (h : Plays R ps x t q) : PlaceOk R q := by
  obtain ⟨p, ms, m, e1, hp, M, hm, e2, e3, e4, hq⟩ := h.ex
  exact hq
/-- a game's places and texts -/
inductive Run (R : Rules) : List Place → List (List Nat) → Prop
  | start {p : Place} : PlaceOk R p → Run R [p] []
  | step {ps : List Place} {ts : List (List Nat)} {x t : List Nat} {q : Place} : Run R ps ts → Plays R ps x t q → Run R (ps ++ [q]) (ts ++ [t])
theorem Run.len {ps : List Place} {ts : List (List Nat)} (h : Run R ps ts) : ps.length = ts.length + 1 := by
  induction h with
  | start _ => rfl
  | step _ _ ih => rw [List.length_append, List.length_append, ih]; rfl
theorem Run.ok {ps : List Place} {ts : List (List Nat)} (h : Run R ps ts) : ∀ q ∈ ps, PlaceOk R q := by
  induction h with
  | start hp => intro q hq; rw [List.mem_singleton.mp hq]; exact hp
  | step _ hq ih =>
    intro z hz
    rcases List.mem_append.mp hz with hz | hz
    · exact ih z hz
    · rw [List.mem_singleton.mp hz]; exact hq.ok
theorem Run.texts {ps : List Place} {ts : List (List Nat)} (hR : RulesOk R) (h : Run R ps ts) : ∀ t ∈ ts, TextOk t := by
  induction h with
  | start hp => intro q hq; cases hq
  | step _ hq ih =>
    intro z hz
    rcases List.mem_append.mp hz with hz | hz
    · exact ih z hz
    · rw [List.mem_singleton.mp hz]; exact hq.text hR
theorem Run.last {ps : List Place} {ts : List (List Nat)} (h : Run R ps ts) : ∃ p, ps.getLast? = some p ∧ PlaceOk R p := by
  have hl := h.len
  cases e : ps.getLast? with
  | none =>
    rw [List.getLast?_eq_none_iff] at e
    rw [e] at hl
    cases hl
  | some p => exact ⟨p, rfl, h.ok p (List.mem_of_getLast? e)⟩
/-- taken back, and what could be played again -/
theorem Run.back {ps : List Place} {ts : List (List Nat)} (hR : RulesOk R) (h : Run R ps ts) (hl : 1 < ps.length) : ∃ ps' q ts' t, ps = ps' ++ [q] ∧ ts = ts' ++ [t] ∧ Run R ps' ts' ∧ Plays R ps' t t q := by
  cases h with
  | start _ => exact absurd hl (by simp)
  | step h hq => exact ⟨_, _, _, _, rfl, rfl, h, hq.again hR⟩
theorem Run.nth {ps : List Place} {ts : List (List Nat)} (hR : RulesOk R) (h : Run R ps ts) : ∀ k, k < ts.length → ∃ t q, ts[k]? = some t ∧ Plays R (ps.take (k + 1)) t t q ∧ ps.take (k + 2) = ps.take (k + 1) ++ [q] ∧ ts.take (k + 1) = ts.take k ++ [t] := by
  induction h with
  | start _ => intro k hk; cases hk
  | @step ps ts x t q h hq ih =>
    intro k hk
    have hl := h.len
    rw [List.length_append, List.length_singleton] at hk
    by_cases hlt : k < ts.length
    · obtain ⟨t', q', e1, e2, e3, e4⟩ := ih k hlt
      refine ⟨t', q', by rw [List.getElem?_append_left hlt]; exact e1, ?_, ?_, ?_⟩
      · rw [List.take_append_of_le_length (by omega)]; exact e2
      · rw [List.take_append_of_le_length (by omega), List.take_append_of_le_length (by omega)]; exact e3
      · rw [List.take_append_of_le_length (by omega), List.take_append_of_le_length (by omega)]; exact e4
    · have hk2 : k = ts.length := by omega
      subst hk2
      have e0 : (ps ++ [q]).take (ts.length + 1) = ps := by rw [← hl]; simp
      refine ⟨t, q, by simp, ?_, ?_, ?_⟩
      · rw [e0]; exact hq.again hR
      · rw [e0, List.take_of_length_le (by rw [List.length_append, List.length_singleton]; omega)]
      · rw [List.take_of_length_le (by rw [List.length_append, List.length_singleton]; omega)]
        simp
/-- not ended: it has moves -/
theorem Run.moves {ps : List Place} {ts : List (List Nat)} (hR : RulesOk R) (h : Run R ps ts) (hl : ps.length < 1000) : ∃ (p : Place) (ms : List Mv) (d : D), ps.getLast? = some p ∧ PlaceOk R p ∧ Moves R p ms ∧ (∀ C g kl pl ts, mg_ended C g kl pl R.d (ps.map Place.d) ts [] = some d) ∧ EndIs R ps p d ∧ (d = .none → ms ≠ []) := by
  obtain ⟨p, e, hp⟩ := h.last
  obtain ⟨ms, d, M, h1, h2, h3⟩ := mg_ended_ex hR h.ok e hl
  exact ⟨p, ms, d, e, hp, M, h1, h2, h3⟩
theorem Plays.full {ps : List Place} {p : Place} {ms : List Mv} {m : Mv} (hR : RulesOk R) (ho : OnG R ps) (e : ps.getLast? = some p) (hp : PlaceOk R p) (M : Moves R p ms) (hm : m ∈ ms) : ∃ q, Plays R ps (fullL R p m) (shortL R p ms m) q ∧ m_after [R.d, p.d, mvD m] = some q.d := by
  obtain ⟨q, eA, hq, _⟩ := m_after_ex hR hp (M.ok m hm)
  have hf : fullL R p m ∈ fL R p m := by unfold fL fullL; simp
  exact ⟨q, ⟨ho, p, ms, m, e, hp, M, hm, m_read_short_eq hR hp M (fun c hc => (form_chars hR hp (M.ok m hm) hf c hc).1) (full_tells hR hp M hm), rfl, eA, hq⟩, eA⟩
theorem Plays.short {ps : List Place} {p : Place} {ms : List Mv} {m : Mv} (hR : RulesOk R) (ho : OnG R ps) (e : ps.getLast? = some p) (hp : PlaceOk R p) (M : Moves R p ms) (hm : m ∈ ms) : ∃ q, Plays R ps (shortL R p ms m) (shortL R p ms m) q ∧ m_after [R.d, p.d, mvD m] = some q.d := by
  obtain ⟨q, h, e⟩ := Plays.full hR ho e hp M hm
  exact ⟨q, h.again hR, e⟩
/-- what play asks -/
theorem Plays.ask {ps : List Place} {x t : List Nat} {q : Place} (hR : RulesOk R) (h : Plays R ps x t q) : ∃ p m : D, dAt (.list (ps.map Place.d)) (.int (-1)) = some p ∧ m_read_short [R.d, p, strD x] = some m ∧ m_short [R.d, p, m] = some (strD t) ∧ m_after [R.d, p, m] = some q.d := by
  obtain ⟨p, ms, m, e1, hp, M, hm, e2, e3, e4, hq⟩ := h.ex
  exact ⟨p.d, mvD m, last_at e1, e2, by rw [e3]; exact m_short_eq hR hp M hm, e4⟩
/-! ### texts joined and split -/
abbrev joinT (ts : List (List Nat)) : Str := PySem.Txt.join " " (ts.map txt)
theorem sum_le (ts : List (List Nat)) (h : ∀ t ∈ ts, t.length ≤ 8) : ((ts.map txt).map (·.length)).sum ≤ 8 * ts.length := by
  induction ts with
  | nil => exact Nat.zero_le _
  | cons t r ih =>
    rw [List.map_cons, List.map_cons, List.sum_cons, List.length_cons]
    have h1 : (txt t).length ≤ 8 := by rw [show (txt t).length = t.length from by show (txt t).cps.size = _; simp [txt]]; exact h t List.mem_cons_self
    have h2 := ih fun s hs => h s (List.mem_cons_of_mem _ hs)
    omega
theorem join_none : joinT [] = "" := by decide +kernel
theorem join_fit {ts : List (List Nat)} (h : ∀ t ∈ ts, TextOk t) : ((ts.map txt).map (·.length)).sum + (ts.map txt).length * (" " : Str).length ≤ 9 * ts.length := by
  have h1 := sum_le ts fun t ht => (h t ht).len
  have h2 : (" " : Str).length = 1 := by decide +kernel
  rw [h2, List.length_map]
  omega
theorem join_short {ts : List (List Nat)} (h : ∀ t ∈ ts, TextOk t) : (joinT ts).length ≤ 9 * ts.length := by
  have h1 := StrLaws.join_length_le " " (ts.map txt)
  have h2 := join_fit h
  show (PySem.Txt.join " " (ts.map txt)).length ≤ _
  rw [TL.join_eq]
  omega
theorem join_read {ts : List (List Nat)} (hne : ts ≠ []) (h : ∀ t ∈ ts, TextOk t) : PySem.Txt.split (joinT ts) " " = ts.map txt := by
  refine TL.split_join (s := 32) (S := []) (by decide +kernel) (by decide +kernel) (fun z => hne (List.map_eq_nil_iff.mp z)) fun p hp => ?_
  obtain ⟨t, ht, rfl⟩ := List.mem_map.mp hp
  intro z
  exact ((h t ht).chars 32 (by simpa [txt] using z)).2 rfl
theorem join_ne {ts : List (List Nat)} (hne : ts ≠ []) (h : ∀ t ∈ ts, TextOk t) : joinT ts ≠ "" := fun z => by
  have e := join_read hne h
  rw [z, show PySem.Txt.split "" " " = [("" : Str)] by decide +kernel] at e
  match ts, hne, h, e with
  | t :: r, _, h, e =>
    rw [List.map_cons] at e
    injection e with e _
    have e2 : txt [] = txt t := by rw [← empty_txt]; exact e
    exact (h t List.mem_cons_self).ne (txt_inj.mp e2).symm
end
end
end RB
set_option Elab.async false
set_option linter.all false
set_option maxRecDepth 100000
set_option maxHeartbeats 2000000
set_option autoImplicit false
/-! PG6: what the games' methods do, as promises over rows of places; read_game. -/
namespace RB
open PySem PySem.Spec L2
noncomputable section
def GDo (P : Program) (w : World) (K : KF) (mg : Str → Option Value) (base : Heap) (C : Addr) (k : Nat) (m : Str) (sp : Sp) : Prop := ∃ fa fd ps, FnOk P w K mg base CX0 k fa fd ps sp ∧ Meth K C m fa ∧ Binds K fd ps []
def FDo (P : Program) (w : World) (K : KF) (mg : Str → Option Value) (base : Heap) (k : Nat) (x : Str) (sp : Sp) : Prop := ∃ fa fd ps, FnOk P w K mg base CX0 k fa fd ps sp ∧ mg x = some (.ref fa) ∧ PySem.W.keepIn K (.ref fa) = true ∧ Binds K fd ps []
/-- the class Game stands -/
structure GFn (P : Program) (w : World) (K : KF) (mg : Str → Option Value) (base : Heap) (C : Addr) : Prop where
  g : GameT K C
  place : GMeth P w K mg base C 1 "place" 0 (mg_place C)
  texts : GMeth P w K mg base C 1 "texts" 0 (mg_texts C)
  ended : GMeth P w K mg base C 12 "ended" 0 (mg_ended C)
  result : GMeth P w K mg base C 13 "result" 0 (mg_result C)
  play : GDo P w K mg base C 14 "play" (spPlay C)
  back : GDo P w K mg base C 1 "back" (spBack C)
  new : GNew P w K mg base C
/-! ### changes of the heap -/
inductive SlAll (H0 I H : Hp) : L2.St → Sl → Prop
  | nil : SlAll H0 I H [] []
  | cons {o : Option V} {s : SD} {σ : L2.St} {ρ : Sl} : SlotOk H0 I H o s → SlAll H0 I H σ ρ → SlAll H0 I H (o :: σ) (s :: ρ)
theorem SlAll.len {H0 I H : Hp} {σ : L2.St} {ρ : Sl} (h : SlAll H0 I H σ ρ) : σ.length = ρ.length := by
  induction h with
  | nil => rfl
  | cons _ _ ih => rw [List.length_cons, List.length_cons, ih]
theorem SlAll.get {H0 I H : Hp} {σ : L2.St} {ρ : Sl} (h : SlAll H0 I H σ ρ) : ∀ (i : Nat) (s : SD), ρ[i]? = some s → ∃ o, σ[i]? = some o ∧ SlotOk H0 I H o s := by
  induction h with
  | nil => intro i s e; simp at e
  | @cons o s σ ρ h1 _ ih =>
    intro i s' e
    cases i with
    | zero =>
      cases e
      exact ⟨o, rfl, h1⟩
    | succ i =>
      rw [List.getElem?_cons_succ] at e ⊢
      exact ih i s' e
def noOw : Sl → Bool
  | [] => true
  | .ow _ :: _ => false
  | .no :: r => noOw r
  | .im _ :: r => noOw r
  | .gm .. :: r => noOw r
theorem noOw_get : ∀ {ρ : Sl}, noOw ρ = true → ∀ (i : Nat) (es : List D), ρ[i]? ≠ some (.ow es)
  | [], _, i, es, e => by simp at e
  | .ow _ :: _, h, _, _, _ => by cases h
  | .no :: r, h, 0, es, e => by cases e
  | .im _ :: r, h, 0, es, e => by cases e
  | .gm .. :: r, h, 0, es, e => by cases e
  | .no :: r, h, i + 1, es, e => noOw_get (ρ := r) h i es (by rw [List.getElem?_cons_succ] at e; exact e)
  | .im _ :: r, h, i + 1, es, e => noOw_get (ρ := r) h i es (by rw [List.getElem?_cons_succ] at e; exact e)
  | .gm .. :: r, h, i + 1, es, e => noOw_get (ρ := r) h i es (by rw [List.getElem?_cons_succ] at e; exact e)
/-- a frame's state, rooted where one stands -/
theorem bd_mk {I H : Hp} {σ : L2.St} {ρ : Sl} (s : Same I H) (h : SlAll H I H σ ρ) (no : noOw ρ = true) : Bd I H σ ρ I H :=
  ⟨Step.refl s, ⟨h.len, h.get, fun i j a ds es _ e => absurd e (noOw_get no i ds)⟩⟩
theorem Chg.of_step {kl pl : Addr} {I H I' H' : Hp} (s : Step I H I' H') : Chg kl pl I H I' H' := ⟨fun a o _ _ e => s.h a o e, s.i, s.s, s.n⟩
theorem Chg.trans {kl pl : Addr} {I H I1 H1 I2 H2 : Hp} (a : Chg kl pl I H I1 H1) (hk : H1 kl ≠ none) (hp : H1 pl ≠ none) (b : Chg kl pl I1 H1 I2 H2) : Chg kl pl I H I2 H2 :=
  ⟨fun x o n1 n2 e => b.k x o n1 n2 (a.k x o n1 n2 e), a.i.trans b.i, b.s, fun x hi hh => b.n x (a.n x hi hh) (by
    by_cases n1 : x = kl
    · rw [n1]; exact hk
    · by_cases n2 : x = pl
      · rw [n2]; exact hp
      · cases e : H x with
        | none => exact absurd e hh
        | some o => rw [a.k x o n1 n2 e]; simp)⟩
theorem Step.chg {kl pl : Addr} {I0 H0 I H I' H' : Hp} (s : Step I0 H0 I H) (c : Chg kl pl I H I' H') (hk : H0 kl = none) (hp : H0 pl = none) : Step I0 H0 I' H' where
  h := fun a o e => c.k a o (ne_of_none e hk) (ne_of_none e hp) (s.h a o e)
  i := s.i.trans c.i
  s := c.s
  n := fun a hi hh => c.n a (s.n a hi hh) (same_ne s.h hh)
section
variable {C : Addr} {I H I' H' : Hp} {g dx kl pl : Addr} {rv : V} {r : D} {ks ts : List D}
theorem LG.step (L : LG C I H g dx kl pl rv r ks ts) (s : Step I H I' H') : LG C I' H' g dx kl pl rv r ks ts := by
  obtain ⟨vs, h1, d1⟩ := L.ok
  obtain ⟨us, h2, d2⟩ := L.op
  exact ⟨s.h _ _ L.og, ⟨vs, s.h _ _ h1, dvs_mono s.i d1⟩, ⟨us, s.h _ _ h2, dvs_mono s.i d2⟩, dv_mono s.i L.dr, s.n _ L.ig (by rw [L.og]; simp), s.n _ L.ik (by rw [h1]; simp), s.n _ L.ip (by rw [h2]; simp), L.ne⟩
theorem LG.hk (L : LG C I H g dx kl pl rv r ks ts) : H kl ≠ none := by
  obtain ⟨vs, h1, _⟩ := L.ok
  rw [h1]; simp
theorem LG.hp (L : LG C I H g dx kl pl rv r ks ts) : H pl ≠ none := by
  obtain ⟨vs, h1, _⟩ := L.op
  rw [h1]; simp
theorem LG.hg (L : LG C I H g dx kl pl rv r ks ts) : H g ≠ none := by rw [L.og]; simp
theorem LG.gk (L : LG C I H g dx kl pl rv r ks ts) : g ≠ kl := by
  obtain ⟨vs, h1, _⟩ := L.ok
  exact ne_of L.og h1 (by intro q; cases q)
theorem LG.gp (L : LG C I H g dx kl pl rv r ks ts) : g ≠ pl := by
  obtain ⟨vs, h1, _⟩ := L.op
  exact ne_of L.og h1 (by intro q; cases q)
end
/-! ### the promises, asked over rows of places -/
abbrev GS (C : Addr) (I H : Hp) (g dx kl pl : Addr) (rv : V) (R : Rules) (ps : List Place) (ts : List (List Nat)) : Prop := LG C I H g dx kl pl rv R.d (ps.map Place.d) (ts.map strD)
section
variable {C : Addr} {I H : Hp} {g dx kl pl : Addr} {rv : V} {R : Rules} {ps : List Place} {ts : List (List Nat)} {Q : VK} {E : XK}
theorem play_go (hR : RulesOk R) (L : GS C I H g dx kl pl rv R ps ts) (s : Same I H) {x t : List Nat} {q : Place} (hp : Plays R ps x t q) (l1 : ps.length < 1000) (l2 : ts.length < 1000)
    (k : ∀ H' I', Chg kl pl I H I' H' → GS C I' H' g dx kl pl rv R (ps ++ [q]) (ts ++ [t]) → Q (.str (txt t)) H') : spPlay C [.ref g, .str (txt x)] H Q E := by
  obtain ⟨p, m, e1, e2, e3, e4⟩ := hp.ask hR
  refine ⟨I, g, dx, kl, pl, rv, .str (txt x), R.d, strD x, p, m, q.d, ps.map Place.d, ts.map strD, txt t, rfl, L, s, .str _, hp.on C g kl pl _, e1, e2, e3, e4, by rw [List.length_map]; exact l1, by rw [List.length_map]; exact l2, fun H' I' c L' => k H' I' c ?_⟩
  unfold GS
  rw [List.map_append, List.map_append]
  exact L'
theorem back_go {q : Place} {t : List Nat} (L : GS C I H g dx kl pl rv R (ps ++ [q]) (ts ++ [t])) (s : Same I H)
    (k : ∀ H', Chg kl pl I H I H' → GS C I H' g dx kl pl rv R ps ts → Q (.str (txt t)) H') : spBack C [.ref g] H Q E := by
  unfold GS at L
  rw [List.map_append, List.map_append] at L
  exact ⟨I, g, dx, kl, pl, rv, R.d, q.d, ps.map Place.d, ts.map strD, txt t, rfl, L, s, fun H' c L' => k H' c L'⟩
theorem read_go {G : GF} {d : D} {r : D} {ks us : List D} (L : LG C I H g dx kl pl rv r ks us) (s : Same I H) (e : G g kl pl r ks us [] = some d) (k : ∀ v H' I', Step I H I' H' → Dv I' v d → Q v H') : spG C 0 G [.ref g] H Q E :=
  ⟨I, g, kl, pl, r, ks, us, [], d, .ref g, [], rfl, s, L.slot, .nil, rfl, e, k⟩
theorem place_go {p : Place} (L : GS C I H g dx kl pl rv R ps ts) (s : Same I H) (e : ps.getLast? = some p) (k : ∀ v H' I', Step I H I' H' → Dv I' v p.d → Q v H') : spG C 0 (mg_place C) [.ref g] H Q E :=
  read_go L s (mg_place_eq e _) k
end
theorem m0 {sp : Sp} {x : V} {σ : L2.St} {H : Hp} {Q : VK} {E : XK} (h : sp [x] H Q E) : tNil σ H (fun vs H2 => sp (x :: (vs ++ [])) H2 Q E) := h
theorem m1 {sp : Sp} {x v : V} {σ : L2.St} {H : Hp} {Q : VK} {E : XK} (h : sp [x, v] H Q E) : tNil σ H (fun xs H2 => sp (x :: ((v :: xs) ++ [])) H2 Q E) := h
/-! ### read_game -/
def spRead (C : Addr) : Sp := fun vs H Q _ => ∃ (I : Hp) (R : Rules) (p0 : Place) (ps : List Place) (ts : List (List Nat)) (rv pv : V), vs = [rv, pv, .str (joinT ts)] ∧ RulesOk R ∧ Run R ps ts ∧ ps.head? = some p0 ∧ ps.length ≤ 100 ∧ Same I H ∧ Dv I rv R.d ∧ Dv I pv p0.d ∧
  ∀ g dx kl pl rv' H' I', Step I H I' H' → GS C I' H' g dx kl pl rv' R ps ts → Q (.ref g) H'
theorem dvs_strs {I : Hp} : ∀ {xs : List V} {ts : List (List Nat)}, DvAll I xs (ts.map strD) → xs = (ts.map txt).map V.str
  | [], [], _ => rfl
  | _, t :: r, .cons h hs => by rw [List.map_cons, List.map_cons, ← dvs_strs hs, dv_str h]
theorem step_list {I H : Hp} (s : Same I H) {p : Addr} {o : HO} (hp : H p = none) : Step I H I (upd H p o) := ⟨same_upd hp, Same.refl _, s.trans (same_upd hp), fun _ h _ => h⟩
theorem head_take {α : Type} {p : α} : ∀ {ps : List α}, ps.head? = some p → ps.take 1 = [p]
  | _ :: _, h => by cases h; rfl
section
variable {P : Program} {w : World} {K : KF} {mg : Str → Option Value} {base : Heap} {C : Addr}
abbrev s_rgame : Stmt := top 60
abbrev N_rgame : List Str := ["rules", "place", "text", "game", "number", "word"]
theorem sc_rgame : FnScope N_rgame ["rules", "place", "text"] (defScope s_rgame) := ⟨rfl, rfl, rfl, by decide +kernel, rfl, by decide +kernel, by decide +kernel⟩
theorem ok_rgame (T : Txt K w mg) (G : GFn P w K mg base C) {f : Addr} {fd : FuncData} (F : FnP K "read_game" s_rgame f fd) : FnOk P w K mg base CX0 15 f fd ["rules", "place", "text"] (spRead C) := by
  obtain ⟨fp, fpd, pps, FP, MP, BP⟩ := G.play
  refine F.ok (CX := CX0) sc_rgame (fun vs H Q E h => ?_) (fun cdv A outer s H vs Q E hr h => ?_)
  · obtain ⟨I, R, p0, ps, ts, rv, pv, rfl, _⟩ := h
    rfl
  · obtain ⟨I, R, p0, ps, ts, rv, pv', rfl, hR, hrun, hh, hlen, hs, dr, dp, k⟩ := h
    have tok := hrun.texts hR
    have hl := hrun.len
    refine ⟨_, PSs.nox (pss_cons (ps_set (i := 3) sc_rgame.nd rfl (.inl rfl) (pe_newG G.new (hr.mono (by decide)) (by rfl) (da_cons (de_var 0) (da_cons (de_var 1) da_nil))))
      (pss_cons (ps_if (pt_cmpR op_eq (pv 2) pe_str (nomark _)) (pss_one (ps_ret (pv 3))) pss_nil)
      (pss_cons (ps_for PassesOwn.never rfl (pi_enum (by rfl) T.enumerate (pa_cons (pe_split (pv 2) pe_str) pa_nil)) (pg_tup rfl (pgs_cons (pg_name (i := 4) sc_rgame.nd rfl (.inl rfl)) (pgs_cons (pg_name (i := 5) sc_rgame.nd rfl (.inl rfl)) pgs_nil)))
        (pss_one (ps_try_thru0 (pss_one (ps_expr (pe_meth (pv 3) G.g.cl MP FP (hr.mono (by decide)) BP .nil pass0 (pa_cons (pv 5) pa_nil)))))))
      (pss_one (ps_ret (pv 3)))))), ?_⟩
    refine ⟨[.im R.d, .im p0.d, .no, .no, .no, .no], I, R.d, p0.d, rfl, bd_mk hs (.cons ⟨rv, rfl, dr⟩ (.cons ⟨pv', rfl, dp⟩ (.cons trivial (.cons trivial (.cons trivial (.cons trivial .nil)))))) rfl, ?_⟩
    intro g dx kl pl rv' H1 I1 s1 L1 hg hk hp
    have ec : ∀ {A B : Prop}, (joinT ts = "" → A) → (joinT ts ≠ "" → B) → (if decide (V.str (joinT ts) = V.str "") = true then A else B) := fun {A B} h1 h2 => by
      by_cases z : joinT ts = ""
      · rw [z, decide_eq_true rfl]; exact iteT (h1 z)
      · rw [decide_eq_false (fun y => z (V.str.inj y))]; exact iteF (h2 z)
    refine ⟨_, rfl, rfl, _, rfl, ec (fun z => ?_) (fun z => ?_)⟩
    · have hts : ts = [] := by
        cases ts with
        | nil => rfl
        | cons t r => exact absurd z (join_ne (by simp) tok)
      subst hts
      have e1 : ps = [p0] := by
        have := head_take hh
        rw [List.take_of_length_le (by rw [hl]; simp)] at this
        exact this
      subst e1
      exact ⟨_, rfl, k g dx kl pl rv' H1 I1 s1 L1⟩
    · have hne : ts ≠ [] := fun y => z (by rw [y]; exact join_none)
      refine ⟨_, rfl, ⟨_, rfl⟩, _, _, rfl, rfl, by decide +kernel, ?_, fun sp hsp => ?_⟩
      · have := join_short tok
        rw [sizeLine_eq]
        omega
      rw [join_read hne tok]
      refine ⟨sp, _, rfl, SqL.of upd_same, ?_⟩
      have nk : sp ≠ kl := fun z => L1.hk (by rw [← z]; exact hsp)
      have np : sp ≠ pl := fun z => L1.hp (by rw [← z]; exact hsp)
      have s2 : Step I1 H1 I1 (upd H1 sp (.lst ((ts.map txt).map V.str))) := step_list s1.s hsp
      have hxl : ((ts.map txt).map V.str).length = ts.length := by rw [List.length_map, List.length_map]
      refine for_it L2.walk_enum (fun i σ Hc => ∃ (Ic : Hp) (o4 o5 : Option V), σ = [some rv, some pv', some (.str (joinT ts)), some (.ref g), o4, o5] ∧ Step I H Ic Hc ∧ GS C Ic Hc g dx kl pl rv' R (ps.take (i + 1)) (ts.take i) ∧ Hc sp = some (.lst ((ts.map txt).map V.str)))
        ⟨I1, none, none, rfl, s1.trans s2, ?_, upd_same⟩ (fun i σ Hc _ ⟨_, _, _, _, _, _, z⟩ => SqL.of z) ?_ ?_
      · rw [head_take hh]
        exact LG.step (L := L1) s2
      · rintro i x σ Hc H' hi ⟨Ic, o4, o5, rfl, sc, Lc, hc⟩ ⟨T', x1, y1, rfl, hT, rfl, ex, ey⟩
        rw [hxl] at hi
        cases ex
        obtain ⟨t, q, e1, e2, e3, e4⟩ := hrun.nth hR i hi
        have ey : ((ts.map txt).map V.str)[i]? = some y1 := ey
        rw [List.getElem?_map, List.getElem?_map, e1] at ey
        cases ey
        have s3 := step_list (o := .tup [.int ((i : Nat) : Int), .str (txt t)]) sc.s hT
        refine ⟨T', _, rfl, SqT.of upd_same, rfl, _, _, rfl, _, _, rfl, rfl, ?_⟩
        have L3 := LG.step (L := Lc) s3
        refine ⟨.ref g, rfl, g, dx, _, rfl, L3.og, rfl, .str (txt t), rfl, m1 (play_go hR L3 s3.s e2 (by rw [List.length_take]; omega) (by rw [List.length_take]; omega) fun H4 I4 c4 L4 => ?_)⟩
        refine ⟨I4, _, _, rfl, (sc.trans s3).chg c4 hk hp, ?_, c4.k _ _ nk np (s3.h _ _ hc)⟩
        rw [e3, e4]
        exact L4
      · rintro σ Hc ⟨Ic, o4, o5, rfl, sc, Lc, hc⟩
        rw [hxl, List.take_of_length_le (by omega : ps.length ≤ ts.length + 1), List.take_of_length_le (Nat.le_refl _)] at Lc
        exact ⟨_, rfl, k g dx kl pl rv' Hc Ic sc Lc⟩
end
end
end RB
set_option Elab.async false
set_option linter.all false
set_option maxRecDepth 100000
set_option maxHeartbeats 2000000
set_option autoImplicit false
/-! PG7: _law_places. -/
namespace RB
open PySem PySem.Spec L2
noncomputable section
def spPlaces (C : Addr) : Sp := fun vs H Q _ => ∃ (I : Hp) (R : Rules) (p0 : Place) (ps : List Place) (ts : List (List Nat)) (rv pv tv : V), vs = [rv, pv, tv] ∧ RulesOk R ∧ Run R ps ts ∧ ps.head? = some p0 ∧ ps.length ≤ 100 ∧ Same I H ∧ Dv I rv R.d ∧ Dv I pv p0.d ∧ Dv I tv (.list (ts.map strD)) ∧
  ∀ v H' I', Step I H I' H' → Dv I' v (.list (ps.map Place.d)) → Q v H'
theorem iteD {A B : Prop} {x : V} (h : B) : if (!decide (x = x)) = true then A else B := by
  rw [decide_eq_true rfl]
  exact iteF h
theorem take_last {α : Type} {ps : List α} {i : Nat} {q : α} (e : ps.take (i + 2) = ps.take (i + 1) ++ [q]) : (ps.take (i + 2)).getLast? = some q := by rw [e]; simp
section
variable {P : Program} {w : World} {K : KF} {mg : Str → Option Value} {base : Heap} {C : Addr}
abbrev s_lplaces : Stmt := top 85
abbrev N_lplaces : List Str := ["_law_rules_here", "_law_place_here", "_law_texts", "_law_game", "_law_found", "_law_text_here"]
theorem sc_lplaces : FnScope N_lplaces ["_law_rules_here", "_law_place_here", "_law_texts"] (defScope s_lplaces) := ⟨rfl, rfl, rfl, by decide +kernel, rfl, by decide +kernel, by decide +kernel⟩
theorem ok_lplaces (T : Txt K w mg) (G : GFn P w K mg base C) {f : Addr} {fd : FuncData} (F : FnP K "_law_places" s_lplaces f fd) : FnOk P w K mg base CX0 15 f fd ["_law_rules_here", "_law_place_here", "_law_texts"] (spPlaces C) := by
  obtain ⟨fp, fpd, pps, FP, MP, BP⟩ := G.play
  obtain ⟨fq, fqd, pqs, FQ, MQ, BQ⟩ := G.place
  refine F.ok (CX := CX0) sc_lplaces (fun vs H Q E h => ?_) (fun cdv A outer s H vs Q E hr h => ?_)
  · obtain ⟨I, R, p0, ps, ts, rv, pv, tv, rfl, _⟩ := h
    rfl
  · obtain ⟨I, R, p0, ps, ts, rv, pv', tv, rfl, hR, hrun, hh, hlen, hs, dr, dp, dt, k⟩ := h
    have hl := hrun.len
    refine ⟨_, PSs.nox (pss_cons (ps_set (i := 3) sc_lplaces.nd rfl (.inl rfl) (pe_newG G.new (hr.mono (by decide)) (by rfl) (da_cons (de_var 0) (da_cons (de_var 1) da_nil))))
      (pss_cons (ps_set (i := 4) sc_lplaces.nd rfl (.inl rfl) (pe_lst (pa_cons (pe_meth0 (pv 3) G.g.cl MQ FQ (hr.mono (by decide)) BQ .nil pass0) pa_nil)))
      (pss_cons (ps_for PassesOwn.never rfl (pi_list (pv 2)) (pg_name (i := 5) sc_lplaces.nd rfl (.inl rfl))
        (pss_cons (ps_if (pt_cmpR op_ne (pe_meth (pv 3) G.g.cl MP FP (hr.mono (by decide)) BP .nil pass0 (pa_cons (pv 5) pa_nil)) (pv 5) (nomark _)) pss_never pss_nil)
        (pss_one (ps_expr (pe_bm PySem.F.plainAttrs_list PySem.F.slot_list_append PySem.F.type_list_append mt_append (pv 4) (pa_cons (pe_meth0 (pv 3) G.g.cl MQ FQ (hr.mono (by decide)) BQ .nil pass0) pa_nil))))))
      (pss_one (ps_ret (pv 4)))))), ?_⟩
    refine ⟨[.im R.d, .im p0.d, .no, .no, .no, .no], I, R.d, p0.d, rfl, bd_mk hs (.cons ⟨rv, rfl, dr⟩ (.cons ⟨pv', rfl, dp⟩ (.cons trivial (.cons trivial (.cons trivial (.cons trivial .nil)))))) rfl, ?_⟩
    intro g dx kl pl rv' H1 I1 s1 L1 hg hk hp
    refine ⟨.ref g, rfl, g, dx, _, rfl, L1.og, rfl, m0 (place_go (ps := [p0]) (ts := []) (R := R) L1 s1.s rfl fun v2 H2 I2 s2 d2 => ?_)⟩
    refine ⟨by show 1 ≤ sizeLine; decide, fun fl hfl => ?_⟩
    have nk : fl ≠ kl := fun z => (LG.step (L := L1) s2).hk (by rw [← z]; exact hfl)
    have np : fl ≠ pl := fun z => (LG.step (L := L1) s2).hp (by rw [← z]; exact hfl)
    have s3 := step_list (o := .lst [v2]) s2.s hfl
    have hf0 : H fl = none := (s1.trans s2).h.free hfl
    obtain ⟨ta, us, rfl, hta, dus⟩ := dv_lst dt
    have eus := dvs_strs dus
    subst eus
    have hxl : ((ts.map txt).map V.str).length = ts.length := by rw [List.length_map, List.length_map]
    have s13 := (s1.trans s2).trans s3
    refine ⟨_, rfl, ta, rfl, ⟨_, SqL.of (s13.h _ _ (hs _ _ hta))⟩, for_list (K := K) (a := ta) (xs := (ts.map txt).map V.str) (fun i σ Hc => ∃ (Ic : Hp) (fv : List V) (o5 : Option V), σ = [some rv, some pv', some (.ref ta), some (.ref g), some (.ref fl), o5] ∧ Step I H Ic Hc ∧ GS C Ic Hc g dx kl pl rv' R (ps.take (i + 1)) (ts.take i) ∧ Hc fl = some (.lst fv) ∧ DvAll Ic fv ((ps.take (i + 1)).map Place.d) ∧ Ic fl = none)
      ⟨I2, [v2], none, rfl, s13, ?_, upd_same, ?_, s2.s.free hfl⟩ (fun i σ Hc _ ⟨_, _, _, _, sc, _⟩ => SqL.of (sc.h _ _ (hs _ _ hta))) ?_ ?_⟩
    · rw [head_take hh]
      exact LG.step (L := L1) (s2.trans s3)
    · rw [head_take hh]
      exact dvs_one d2
    · rintro i x σ Hc ex ⟨Ic, fv, o5, rfl, sc, Lc, hc, df, hic⟩
      have hi : i < ts.length := by
        have := (List.getElem?_eq_some_iff.mp ex).1
        rw [hxl] at this
        exact this
      obtain ⟨t, q, e1, e2, e3, e4⟩ := hrun.nth hR i hi
      rw [List.getElem?_map, List.getElem?_map, e1] at ex
      cases ex
      have l1 : (ps.take (i + 1)).length < 1000 := by rw [List.length_take]; omega
      refine ⟨.ref g, rfl, g, dx, _, rfl, Lc.og, rfl, .str (txt t), rfl, m1 (play_go hR Lc sc.s e2 l1 (by rw [List.length_take]; omega) fun H4 I4 c4 L4 => ?_)⟩
      refine ⟨_, rfl, rfl, _, rfl, iteD ?_⟩
      have s4 : Step I H I4 H4 := sc.chg c4 hk hp
      have hf4 : H4 fl = some (.lst fv) := c4.k _ _ nk np hc
      have hi4 : I4 fl = none := c4.n _ hic (by rw [hc]; simp)
      refine ⟨.ref fl, rfl, .inl ⟨rfl, fv, SqL.of hf4⟩, .ref g, rfl, g, dx, _, rfl, L4.og, rfl, m0 ?_⟩
      rw [← e3, ← e4] at L4
      refine place_go L4 c4.s (take_last e3) fun v5 H5 I5 s5 d5 => ?_
      have hf5 : H5 fl = some (.lst fv) := s5.h _ _ hf4
      have hi5 : I5 fl = none := s5.n _ hi4 (by rw [hf4]; simp)
      have dfl : fv.length < sizeLine := by rw [dvs_len df, List.length_map]; exact lt_sig _ (by omega)
      refine ⟨fl, fv, v5, rfl, rfl, hf5, dfl, ?_⟩
      have s45 := s4.trans s5
      have s6 : Step I H I5 (upd H5 fl (.lst (fv ++ [v5]))) := ⟨fun a o e => by rw [upd_ne (ne_of_none e hf0)]; exact s45.h a o e, s45.i, fun a o e => by rw [upd_ne (fun z => by subst z; rw [hi5] at e; cases e)]; exact s45.s a o e, s45.n⟩
      refine ⟨I5, fv ++ [v5], _, rfl, s6, ?_, upd_same, ?_, hi5⟩
      · have L5 := LG.step (L := L4) s5
        obtain ⟨vs1, h1, d1⟩ := L5.ok
        obtain ⟨us1, h2, d2'⟩ := L5.op
        refine ⟨?_, ⟨vs1, ?_, d1⟩, ⟨us1, ?_, d2'⟩, L5.dr, L5.ig, L5.ik, L5.ip, L5.ne⟩
        · rw [upd_ne (fun z => by have := L5.og; rw [z, hf5] at this; cases this)]; exact L5.og
        · rw [upd_ne nk.symm]; exact h1
        · rw [upd_ne np.symm]; exact h2
      · rw [e3, List.map_append]
        exact dvs_app (dvs_mono (c4.i.trans s5.i) df) (dvs_one d5)
    · rintro σ Hc ⟨Ic, fv, o5, rfl, sc, Lc, hc, df, hic⟩
      rw [hxl, List.take_of_length_le (by omega : ps.length ≤ ts.length + 1)] at df
      have hs2 : Same Ic (upd Ic fl (.lst fv)) := same_upd hic
      refine ⟨_, rfl, k (.ref fl) Hc (upd Ic fl (.lst fv)) ⟨sc.h, sc.i.trans hs2, fun a o e => ?_, fun a hi hh => ?_⟩ (dv_newL hic df)⟩
      · by_cases ha : a = fl
        · subst ha; rw [upd_same] at e; cases e; exact hc
        · rw [upd_ne ha] at e; exact sc.s _ _ e
      · rw [upd_ne (fun z => hh (by rw [z]; exact hf0))]; exact sc.n a hi hh
end
end
end RB
set_option Elab.async false
set_option linter.all false
set_option maxRecDepth 100000
set_option maxHeartbeats 4000000
set_option autoImplicit false
/-! PG8: _law_as_anew. -/
namespace RB
open PySem PySem.Spec L2
noncomputable section
/-! ### what its rest gives, over slots -/
abbrev c__law_as_anew_1 : FT := (binT dEq (slE (binE dAt (varE 4) (varE 7)) noneO (someO (litE (.int 4))) dCut) (slE (binE dAt (varE 4) (unE dNeg (litE (.int 1)))) noneO (someO (litE (.int 4))) dCut))
abbrev e__law_as_anew_2 : FE := (varE 7)
def g_anew (C : Addr) : FS := (seqS (ifS [] (orT (binT dEq (varE 4) (lstE nilA)) (orT (binT dNe (gmethE C 2 (mg_place C)) (binE dAt (varE 4) (unE dNeg (litE (.int 1))))) (orT (binT dNe (gmethE C 5 (mg_place C)) (binE dAt (varE 4) (unE dNeg (litE (.int 1))))) (binT dNe (gmethE C 5 (mg_texts C)) (varE 3))))) (retS [] (litE (.bool false))) nilS)
  (seqS (asgS 6 [] (gmethE C 2 (mg_ended C)))
  (seqS (ifS [] (orT (binT dNe (gmethE C 5 (mg_ended C)) (varE 6)) (binT dNe (gmethE C 5 (mg_result C)) (gmethE C 2 (mg_result C)))) (retS [] (litE (.bool false))) nilS)
  (seqS (ifS [] (andT (binT dIsNot (varE 6) (litE .none)) (binT dEq (binE dAt (varE 6) (litE (.int 0))) (litE (.str "repeat")))) (retS [] (binE dEq (binE dAt (varE 6) (litE (.int 1))) (compE [7] (.nm 7) (rng1I (callE gLen (consA (varE 4) nilA))) c__law_as_anew_1 e__law_as_anew_2))) nilS)
  (retS [] (litE (.bool true)))))))
@[simp] theorem gmethE_succ {C : Addr} {i : Nat} {G : GF} {s : SD} {r : Sl} : gmethE C (i + 1) G (s :: r) = gmethE C i G r := rfl
theorem ne_mated_repeat : ¬ (("mated" : Str) = "repeat") := by decide +kernel
theorem ne_stuck_repeat : ¬ (("stuck" : Str) = "repeat") := by decide +kernel
theorem ne_calm_repeat : ¬ (("calm" : Str) = "repeat") := by decide +kernel
theorem dNe_self {d : D} (h : okD d = true) : dNe d d = some (.bool false) := by
  unfold dNe
  rw [if_pos ⟨h, h⟩, eqv_refl d (okD_p h)]
  rfl
theorem dEq_self {d : D} (h : okD d = true) : dEq d d = some (.bool true) := by
  unfold dEq
  rw [if_pos ⟨h, h⟩, eqv_refl d (okD_p h)]
section
variable {R : Rules} {ps : List Place} {ts : List (List Nat)}
theorem Run.okD_ps (h : Run R ps ts) : okD (.list (ps.map Place.d)) = true := (GoodD.list (n := 2) fun d hd => by
  obtain ⟨q, hq, rfl⟩ := List.mem_map.mp hd
  exact (h.ok q hq).good).ok (by decide)
theorem Run.okD_ts (hR : RulesOk R) (h : Run R ps ts) : okD (.list (ts.map strD)) = true := (GoodD.list (n := 0) fun d hd => by
  obtain ⟨t, ht, rfl⟩ := List.mem_map.mp hd
  exact good_str (ok_txt fun c hc => ((h.texts hR t ht).chars c hc).1)).ok (by decide)
theorem okD_nil : okD (.list []) = true := by decide +kernel
theorem Run.not_nil (h : Run R ps ts) : dEq (.list (ps.map Place.d)) (.list []) = some (.bool false) := by
  have hl := h.len
  have h1 := h.okD_ps
  cases ps with
  | nil => cases hl
  | cons a r =>
    unfold dEq
    rw [if_pos ⟨h1, okD_nil⟩]
    rfl
theorem anew_eq (hR : RulesOk R) (h : Run R ps ts) (hlen : ps.length ≤ 100) {p0 : D} {C g kl pl g' kl' pl' : Addr} :
    g_anew C [.im R.d, .im p0, .gm C g kl pl R.d (ps.map Place.d) (ts.map strD), .im (.list (ts.map strD)), .im (.list (ps.map Place.d)), .gm C g' kl' pl' R.d (ps.map Place.d) (ts.map strD), .no, .no] = some (.rt (.bool true)) := by
  obtain ⟨p, ms, d, el, hp, M, eE, hE, _⟩ := h.moves hR (by omega)
  obtain ⟨dr, eR, hr⟩ := mg_result_ex hR h.ok el (by omega)
  have e1 := last_at el
  have e2 := h.not_nil
  have e3 : dNe p.d p.d = some (.bool false) := dNe_self (hp.good.ok (by decide))
  have e4 := dNe_self (h.okD_ts hR)
  have e5 : dNe d d = some (.bool false) := dNe_self (hE.good.ok (by decide))
  have e6 : dNe dr dr = some (.bool false) := dNe_self (hr.ok (by decide))
  have e7 : ∀ C g kl pl ts, mg_place C g kl pl R.d (ps.map Place.d) ts [] = some p.d := fun C g kl pl ts => mg_place_eq el ts
  have e8 : ∀ C g kl pl r ks ts, mg_texts C g kl pl r ks ts [] = some (.list ts) := fun C g kl pl r ks ts => mg_texts_eq ts
  have hsz : ps.length ≤ sizeLine := len_sig _ (by omega)
  cases hE with
  | on => simp [g_anew, e1, e2, e3, e4, e5, e6, e7, e8, eE, eR]
  | mated => simp [g_anew, ne_mated_repeat, e1, e2, e3, e4, e5, e6, e7, e8, eE, eR]
  | stuck => simp [g_anew, ne_stuck_repeat, e1, e2, e3, e4, e5, e6, e7, e8, eE, eR]
  | calm => simp [g_anew, ne_calm_repeat, e1, e2, e3, e4, e5, e6, e7, e8, eE, eR]
  | rep =>
    have e0 := rng1_len (f := callE gLen (consA (varE 4) nilA)) (ρ := [.im R.d, .im p0, .gm C g kl pl R.d (ps.map Place.d) (ts.map strD), .im (.list (ts.map strD)), .im (.list (ps.map Place.d)), .gm C g' kl' pl' R.d (ps.map Place.d) (ts.map strD), .im (.tuple [.str "repeat", .list (natsD (numsOf ps p))]), .no]) (n := ps.length) (by simp) (by omega)
    have e9 : loopC (.nm 7) c__law_as_anew_1 e__law_as_anew_2 [.im R.d, .im p0, .gm C g kl pl R.d (ps.map Place.d) (ts.map strD), .im (.list (ts.map strD)), .im (.list (ps.map Place.d)), .gm C g' kl' pl' R.d (ps.map Place.d) (ts.map strD), .im (.tuple [.str "repeat", .list (natsD (numsOf ps p))]), .no] (natsD (List.range ps.length)) = some (natsD (numsOf ps p)) := by
      unfold numsOf
      refine loopC_eq (g := fun i : Nat => PyData.int (i : Int)) (r := fun i : Nat => PyData.int (i : Int)) fun i hi => ?_
      have hi := List.mem_range.mp hi
      have eg : ps.getD i default = ps[i] := by simp [List.getD, List.getElem?_eq_getElem hi]
      have ok := h.ok _ (List.getElem_mem hi)
      have ea : dAt (.list (ps.map Place.d)) (.int (i : Int)) = some (Place.d ps[i]) := at_list (by rw [List.getElem?_map, List.getElem?_eq_getElem hi]; rfl)
      rw [eg]
      generalize ps[i] = q at ok ea
      have eE := dEq_ok (ok.good4.ok (by decide)) (hp.good4.ok (by decide))
      refine ⟨[.im R.d, .im p0, .gm C g kl pl R.d (ps.map Place.d) (ts.map strD), .im (.list (ts.map strD)), .im (.list (ps.map Place.d)), .gm C g' kl' pl' R.d (ps.map Place.d) (ts.map strD), .im (.tuple [.str "repeat", .list (natsD (numsOf ps p))]), .im (.int (i : Int))], rfl, ?_, fun _ => rfl⟩
      simp [c__law_as_anew_1, e1, ea, cut4, eE, same4]
    have hn : okD (.list (natsD (numsOf ps p))) = true := ((good_ins _).ok (by decide))
    have e10 := dEq_self hn
    simp [g_anew, e1, e2, e3, e4, e5, e6, e7, e8, eE, eR, -rng1I_eq, e0, e9, hsz, e10]
end
def spAnew (C : Addr) : Sp := fun vs H Q _ => ∃ (I : Hp) (R : Rules) (p0 : Place) (ps : List Place) (ts : List (List Nat)) (rv pv rv' : V) (g dx kl pl : Addr), vs = [rv, pv, .ref g] ∧ RulesOk R ∧ Run R ps ts ∧ ps.head? = some p0 ∧ ps.length ≤ 100 ∧ Same I H ∧ Dv I rv R.d ∧ Dv I pv p0.d ∧ GS C I H g dx kl pl rv' R ps ts ∧
  ∀ H' I', Step I H I' H' → Q (.bl true) H'
section
variable {P : Program} {w : World} {K : KF} {mg : Str → Option Value} {base : Heap} {C : Addr}
abbrev s__law_as_anew : Stmt := top 86
abbrev N__law_as_anew : List Str := ["_law_rules_here", "_law_place_here", "_law_game", "_law_texts", "_law_some", "_law_other", "_law_end", "_law_k"]
theorem sc__law_as_anew : FnScope N__law_as_anew ["_law_rules_here", "_law_place_here", "_law_game"] (defScope s__law_as_anew) := ⟨rfl, rfl, rfl, by decide +kernel, rfl, by decide +kernel, by decide +kernel⟩
theorem ok__law_as_anew (T : Txt K w mg) (G : GFn P w K mg base C) (L : FDo P w K mg base 15 "_law_places" (spPlaces C)) (R' : FDo P w K mg base 15 "read_game" (spRead C)) {f : Addr} {fd : FuncData} (F : FnP K "_law_as_anew" s__law_as_anew f fd) : FnOk P w K mg base CX0 16 f fd ["_law_rules_here", "_law_place_here", "_law_game"] (spAnew C) := by
  obtain ⟨ft, ftd, pts, FT, MT, BT⟩ := G.texts
  obtain ⟨fl, fld, pls, FL, gL, kL, BL⟩ := L
  obtain ⟨fr, frd, prs, FR, gR, kR, BR⟩ := R'
  refine F.ok (CX := CX0) sc__law_as_anew (fun vs H Q E h => ?_) (fun cdv A outer s H vs Q E hr h => ?_)
  · obtain ⟨I, R, p0, ps, ts, rv, pv, rv', g, dx, kl, pl, rfl, _⟩ := h
    rfl
  · obtain ⟨I, R, p0, ps, ts, rv, pv', rv', g, dx, kl, pl, rfl, hR, hrun, hh, hlen, hs, dr, dp, L0, k⟩ := h
    have tok := hrun.texts hR
    have hl := hrun.len
    refine ⟨_, PSs.nox (pss_cons (ps_set (i := 3) sc__law_as_anew.nd rfl (.inl rfl) (pe_meth0 (pv 2) G.g.cl MT FT (hr.mono (by decide)) BT .nil pass0))
      (pss_cons (ps_set (i := 4) sc__law_as_anew.nd rfl (by first | exact .inl rfl | exact .inr rfl) (pe_call FL (hr.mono (by decide)) (by rfl) gL kL BL .nil pass0 (pa_cons (pv 0) (pa_cons (pv 1) (pa_cons (pv 3) pa_nil)))))
      (pss_cons (ps_set (i := 5) sc__law_as_anew.nd rfl (.inl rfl) (pe_call FR (hr.mono (by decide)) (by rfl) gR kR BR .nil pass0 (pa_cons (pv 0) (pa_cons (pv 1) (pa_cons (pe_join pe_str (pv 3)) pa_nil)))))
      (DSs.any (f := g_anew C) (dss_cons (ds_if [] (DW.dt (dw_or (dt_cmp (opd_eq hr.units) (de_var 4) (de_lst da_nil) (nomark _)) (dw_or (dt_cmp (opd_ne hr.units) (de_gMeth0 G.g G.place (hr.mono (by decide)) 2) (de_sub (de_var 4) (de_neg de_int)) (nomark _)) (dw_or (dt_cmp (opd_ne hr.units) (de_gMeth0 G.g G.place (hr.mono (by decide)) 5) (de_sub (de_var 4) (de_neg de_int)) (nomark _)) (dw_or1 (dt_cmp (opd_ne hr.units) (de_gMeth0 G.g G.texts (hr.mono (by decide)) 5) (de_var 3) (nomark _))))))) (dss_one (ds_ret [] de_bl)) dss_nil)
        (dss_cons (ds_set 6 [] sc__law_as_anew.nd (de_gMeth0 G.g G.ended (hr.mono (by decide)) 2))
        (dss_cons (ds_if [] (DW.dt (dw_or (dt_cmp (opd_ne hr.units) (de_gMeth0 G.g G.ended (hr.mono (by decide)) 5) (de_var 6) (nomark _)) (dw_or1 (dt_cmp (opd_ne hr.units) (de_gMeth0 G.g G.result (hr.mono (by decide)) 5) (de_gMeth0 G.g G.result (hr.mono (by decide)) 2) (nomark _))))) (dss_one (ds_ret [] de_bl)) dss_nil)
        (dss_cons (ds_if [] (DW.dt (dw_and (dt_cmp opd_isnot (de_var 6) de_non (nomark _)) (dw_and1 (dt_cmp (opd_eq hr.units) (de_sub (de_var 6) de_int) de_str (nomark _))))) (dss_one (ds_ret [] (de_cmp (opd_eq hr.units) (de_sub (de_var 6) de_int) (de_comp [("_law_k", 7)] (.nm 7) rfl sc__law_as_anew.nd (di_rng1 (by rfl) T.range (de_callB (cld_len) (by rfl) T.len (by decide +kernel) (da_cons (de_var 4) da_nil))) (blkOk_by (N := N__law_as_anew) (sc := defScope s__law_as_anew) (by decide +kernel)) (fun _ _ _ _ _ => (pg_nm 7 sc__law_as_anew.nd)) (fun _ _ _ _ _ => (dts_one (dt_cmp (opd_eq hr.units) (de_slice (de_sub (de_var 4) (de_var 7)) do_none (do_some de_int)) (de_slice (de_sub (de_var 4) (de_neg de_int)) do_none (do_some de_int)) (nomark _)))) (fun _ _ _ _ _ => (de_var 7))) (nomark _)))) dss_nil)
        (dss_one (ds_ret [] de_bl)))))))))), ?_⟩
    refine ⟨.ref g, rfl, g, dx, _, rfl, L0.og, rfl, m0 (read_go L0 hs (mg_texts_eq _) fun tv H1 I1 s1 d1 => ?_)⟩
    refine ⟨rv, rfl, pv', rfl, tv, rfl, I1, R, p0, ps, ts, rv, pv', tv, rfl, hR, hrun, hh, hlen, s1.s, dv_mono s1.i dr, dv_mono s1.i dp, d1, fun sv H2 I2 s2 d2 => ?_⟩
    have s12 := s1.trans s2
    obtain ⟨ta, us, rfl, hta, dus⟩ := dv_lst (dv_mono s2.i d1)
    have eus := dvs_strs dus
    subst eus
    refine ⟨rv, rfl, pv', rfl, ⟨_, rfl⟩, .ref ta, rfl, " ", ta, ts.map txt, rfl, rfl, .inl (SqL.of (s2.s _ _ hta)), ?_, ?_⟩
    · have := join_fit tok
      omega
    refine ⟨I2, R, p0, ps, ts, rv, pv', rfl, hR, hrun, hh, hlen, s2.s, dv_mono s12.i dr, dv_mono s12.i dp, fun g' dx' kl' pl' rv'' H3 I3 s3 L3 => ?_⟩
    have s13 := s12.trans s3
    have L4 := LG.step (L := L0) s13
    refine ⟨_, I3, _, anew_eq hR hrun hlen (p0 := p0.d) (C := C) (g := g) (kl := kl) (pl := pl) (g' := g') (kl' := kl') (pl' := pl'), ?_, ?_⟩
    · exact bd_mk s3.s (.cons ⟨rv, rfl, dv_mono s13.i dr⟩ (.cons ⟨pv', rfl, dv_mono s13.i dp⟩ (.cons L4.slot (.cons ⟨_, rfl, dv_mono (s2.i.trans s3.i) d1⟩ (.cons ⟨_, rfl, dv_mono s3.i d2⟩ (.cons L3.slot (.cons trivial (.cons trivial .nil)))))))) rfl
    · intro v H' I' st dv
      have ev := dv_bl dv
      subst ev
      exact k H' I' (s13.trans st)
end
end
end RB
set_option Elab.async false
set_option linter.all false
set_option maxRecDepth 100000
set_option maxHeartbeats 4000000
set_option autoImplicit false
/-! PG9: _law_there_and_back. -/
namespace RB
open PySem PySem.Spec L2
noncomputable section
def imS : Sl → Sl
  | [] => []
  | .im d :: r => .im d :: imS r
  | .no :: r => .no :: imS r
  | .ow _ :: r => .no :: imS r
  | .gm .. :: r => .no :: imS r
theorem imS_get : ∀ {ρ : Sl} {i : Nat} {s : SD}, (imS ρ)[i]? = some s → ∃ s', ρ[i]? = some s' ∧ (s = .no ∨ (s = s' ∧ ∃ d, s = .im d))
  | [], i, s, e => by simp [imS] at e
  | .im d :: r, 0, s, e => by cases e; exact ⟨_, rfl, .inr ⟨rfl, d, rfl⟩⟩
  | .no :: r, 0, s, e => by cases e; exact ⟨_, rfl, .inl rfl⟩
  | .ow _ :: r, 0, s, e => by cases e; exact ⟨_, rfl, .inl rfl⟩
  | .gm .. :: r, 0, s, e => by cases e; exact ⟨_, rfl, .inl rfl⟩
  | .im d :: r, i + 1, s, e => by
    obtain ⟨s', h1, h2⟩ := imS_get (ρ := r) (i := i) (s := s) (by simpa [imS] using e)
    exact ⟨s', by rw [List.getElem?_cons_succ]; exact h1, h2⟩
  | .no :: r, i + 1, s, e => by
    obtain ⟨s', h1, h2⟩ := imS_get (ρ := r) (i := i) (s := s) (by simpa [imS] using e)
    exact ⟨s', by rw [List.getElem?_cons_succ]; exact h1, h2⟩
  | .ow _ :: r, i + 1, s, e => by
    obtain ⟨s', h1, h2⟩ := imS_get (ρ := r) (i := i) (s := s) (by simpa [imS] using e)
    exact ⟨s', by rw [List.getElem?_cons_succ]; exact h1, h2⟩
  | .gm .. :: r, i + 1, s, e => by
    obtain ⟨s', h1, h2⟩ := imS_get (ρ := r) (i := i) (s := s) (by simpa [imS] using e)
    exact ⟨s', by rw [List.getElem?_cons_succ]; exact h1, h2⟩
theorem imS_len : ∀ {ρ : Sl}, (imS ρ).length = ρ.length
  | [] => rfl
  | .im d :: r => by simp [imS, imS_len (ρ := r)]
  | .no :: r => by simp [imS, imS_len (ρ := r)]
  | .ow _ :: r => by simp [imS, imS_len (ρ := r)]
  | .gm .. :: r => by simp [imS, imS_len (ρ := r)]
/-- the data alone, rooted anew -/
theorem Bd.ims {I0 H0 I H I' H' : Hp} {σ : L2.St} {ρ : Sl} (b : Bd I0 H0 σ ρ I H) (i : Same I I') (s : Same I' H') : Bd I' H' σ (imS ρ) I' H' :=
  ⟨Step.refl s, ⟨by rw [imS_len]; exact b.ok.len, fun j z e => by
    obtain ⟨s', e1, h⟩ := imS_get e
    obtain ⟨o, e2, ok⟩ := b.ok.get j s' e1
    refine ⟨o, e2, ?_⟩
    rcases h with h | ⟨h, d, hd⟩
    · subst h; trivial
    · subst h
      subst hd
      obtain ⟨v, ev, dv⟩ := ok
      exact ⟨v, ev, dv_mono i dv⟩, fun j k a ds es _ e => by
    obtain ⟨s', e1, h⟩ := imS_get e
    rcases h with h | ⟨h, d, hd⟩
    · cases h
    · cases hd⟩⟩
theorem Chg.step {kl pl : Addr} {I H I1 H1 I2 H2 : Hp} (c : Chg kl pl I H I1 H1) (hk : H1 kl ≠ none) (hp : H1 pl ≠ none) (s : Step I1 H1 I2 H2) : Chg kl pl I H I2 H2 := c.trans hk hp (.of_step s)
theorem iteDt {A B : Prop} {x : V} (h : A) : if decide (x = x) = true then A else B := by
  rw [decide_eq_true rfl]
  exact iteT h
theorem iteE {A B : Prop} {d : D} (hd : okD d = true) (h : B) : if (!PyData.eqv d d) = true then A else B := by
  rw [eqv_refl d (okD_p hd)]
  exact iteF h
theorem last_map {α : Type} {f : α → D} {xs : List α} {x : α} (h : xs.getLast? = some x) : dAt (.list (xs.map f)) (.int (-1)) = some (f x) := by
  have kl : 1 ≤ xs.length := by
    cases xs with
    | nil => cases h
    | cons => simp
  refine at_back (j := 1) (by omega) (by rw [List.length_map]; exact kl) ?_
  rw [List.length_map, List.getElem?_map]
  rw [List.getLast?_eq_getElem?] at h
  rw [h]
  rfl
theorem Moves.okD {R : Rules} {p : Place} {ms : List Mv} (M : Moves R p ms) : okD (.list (ms.map mvD)) = true := (GoodD.list (n := 1) fun d hd => by
  obtain ⟨q, hq, rfl⟩ := List.mem_map.mp hd
  exact good_mv (M.ok q hq)).ok (by decide)
theorem Moves.not_nil {R : Rules} {p : Place} {ms : List Mv} (M : Moves R p ms) (h : ms ≠ []) : dEq (.list (ms.map mvD)) (.list []) = some (.bool false) := by
  have h1 := M.okD
  cases ms with
  | nil => exact absurd rfl h
  | cons a r =>
    unfold dEq
    rw [if_pos ⟨h1, okD_nil⟩]
    rfl
def spTB (C : Addr) : Sp := fun vs H Q _ => ∃ (I : Hp) (R : Rules) (ps : List Place) (ts : List (List Nat)) (rv rv' : V) (g dx kl pl : Addr), vs = [rv, .ref g] ∧ RulesOk R ∧ Run R ps ts ∧ ps.length ≤ 100 ∧ Same I H ∧ Dv I rv R.d ∧ GS C I H g dx kl pl rv' R ps ts ∧
  ∀ H' I', Chg kl pl I H I' H' → GS C I' H' g dx kl pl rv' R ps ts → Q (.bl true) H'
section
variable {P : Program} {w : World} {K : KF} {mg : Str → Option Value} {base : Heap} {C : Addr}
abbrev s__law_tb : Stmt := top 87
abbrev N__law_tb : List Str := ["_law_rules_here", "_law_game", "_law_now", "_law_listed_here", "_law_text_here"]
theorem sc__law_tb : FnScope N__law_tb ["_law_rules_here", "_law_game"] (defScope s__law_tb) := ⟨rfl, rfl, rfl, by decide +kernel, rfl, by decide +kernel, by decide +kernel⟩
theorem ok__law_tb (T : Txt K w mg) (G : GFn P w K mg base C) (C_moves : CallD P w K mg base 10 "moves" 2 m_moves) (C_short : CallD P w K mg base 12 "short" 3 m_short) (C_after : CallD P w K mg base 3 "after" 3 m_after) {f : Addr} {fd : FuncData} (F : FnP K "_law_there_and_back" s__law_tb f fd) : FnOk P w K mg base CX0 15 f fd ["_law_rules_here", "_law_game"] (spTB C) := by
  obtain ⟨fp, fpd, pps, FP, MP, BP⟩ := G.play
  obtain ⟨fq, fqd, pqs, FQ, MQ, BQ⟩ := G.place
  obtain ⟨fb, fbd, pbs, FB, MB, BB⟩ := G.back
  refine F.ok (CX := CX0) sc__law_tb (fun vs H Q E h => ?_) (fun cdv A outer s H vs Q E hr h => ?_)
  · obtain ⟨I, R, ps, ts, rv, rv', g, dx, kl, pl, rfl, _⟩ := h
    rfl
  · obtain ⟨I, R, ps, ts, rv, rv', g, dx, kl, pl, rfl, hR, hrun, hlen, hs, dr, L0, k⟩ := h
    obtain ⟨p, ms, d, el, hp, M, eE, hE, hne⟩ := hrun.moves hR (by omega)
    let gm : SD := .gm C g kl pl R.d (ps.map Place.d) (ts.map strD)
    let ρ0 : Sl := [.im R.d, gm, .no, .no, .no]
    have b0 : Bd I H (L2.start N__law_tb [rv, .ref g]) ρ0 I H := bd_mk hs (.cons ⟨rv, rfl, dr⟩ (.cons L0.slot (.cons trivial (.cons trivial (.cons trivial .nil))))) rfl
    have over : ∀ ds, d = .tuple ds → dIsNot d .none = some (.bool true) := fun ds e => by rw [e]; rfl
    by_cases hd : d = .none
    · subst hd
      have hon : OnG R ps := eE
      obtain ⟨m, em⟩ : ∃ m, ms.getLast? = some m := by
        cases e : ms.getLast? with
        | none => exact absurd (List.getLast?_eq_none_iff.mp e) (hne rfl)
        | some m => exact ⟨m, rfl⟩
      have hm := List.mem_of_getLast? em
      obtain ⟨q, hpl, eA⟩ := Plays.short hR hon el hp M hm
      have hq := hpl.ok
      have eS := m_short_eq hR hp M hm
      have eM := M.eq
      have eL := last_map (f := mvD) em
      have eN := M.not_nil (hne rfl)
      have eP : ∀ C g kl pl ts, mg_place C g kl pl R.d (ps.map Place.d) ts [] = some p.d := fun C g kl pl ts => mg_place_eq el ts
      generalize shortL R p ms m = t at hpl eS
      let ρ1 : Sl := [.im R.d, gm, .im p.d, .no, .no]
      let ρ2 : Sl := [.im R.d, gm, .im p.d, .im (.list (ms.map mvD)), .no]
      let ρ3 : Sl := [.im R.d, gm, .im p.d, .im (.list (ms.map mvD)), .im (strD t)]
      refine ⟨_, PSs.nox (pss_cons ((ds_if [] (dt_cmp opd_isnot (de_gMeth0 G.g G.ended (hr.mono (by decide)) 1) de_non (nomark _)) (dss_one (ds_ret [] de_bl)) dss_nil).run ρ0 (.nx ρ0) (by simp [ρ0, gm, eE]) I H)
        (pss_cons ((ds_set 2 [] sc__law_tb.nd (de_gMeth0 G.g G.place (hr.mono (by decide)) 1)).run ρ0 (.nx ρ1) (by simp [ρ0, ρ1, gm, eP]) I H)
        (pss_cons ((ds_set 3 [] sc__law_tb.nd (de_call C_moves (hr.mono (by decide)) (by rfl) (da_cons (de_var 0) (da_cons (de_var 2) da_nil)))).run ρ1 (.nx ρ2) (by simp [ρ1, ρ2, gm, eM]) I H)
        (pss_cons ((ds_if [] (dt_cmp (opd_eq hr.units) (de_var 3) (de_lst da_nil) (nomark _)) (dss_one (ds_ret [] de_bl)) dss_nil).run ρ2 (.nx ρ2) (by simp [ρ2, gm, eN]) I H)
        (pss_cons ((ds_set 4 [] sc__law_tb.nd (de_call C_short (hr.mono (by decide)) (by rfl) (da_cons (de_var 0) (da_cons (de_var 2) (da_cons (de_sub (de_var 3) (de_neg de_int)) da_nil))))).run ρ2 (.nx ρ3) (by simp [ρ2, ρ3, gm, eL, eS]) I H)
        (pss_cons (ps_if (PW.pt (pw_or (pt_cmpR op_ne (pe_meth (pv 1) G.g.cl MP FP (hr.mono (by decide)) BP .nil pass0 (pa_cons (pv 4) pa_nil)) (pv 4) (nomark _)) (pw_or1 (pt_cmpR (op_neD hr.units) (pe_meth0 (pv 1) G.g.cl MQ FQ (hr.mono (by decide)) BQ .nil pass0) (DE.any (de_call C_after (hr.mono (by decide)) (by rfl) (da_cons (de_var 0) (da_cons (de_var 2) (da_cons (de_sub (de_var 3) (de_neg de_int)) da_nil))))) (nomark _))))) pss_never pss_nil)
        (pss_one (ps_ret (pe_and (pe_cmpR op_eq (pe_meth0 (pv 1) G.g.cl MB FB (hr.mono (by decide)) BB .nil pass0) (pv 4) (nomark _)) (pe_one (pe_cmpR (op_eqD hr.units) (pe_meth0 (pv 1) G.g.cl MQ FQ (hr.mono (by decide)) BQ .nil pass0) (pv 2) (nomark _)))))))))))), ?_⟩
      refine ⟨I, b0, fun σ1 H1 I1 t1 b1 => ⟨I1, b1, fun σ2 H2 I2 t2 b2 => ⟨I2, b2, fun σ3 H3 I3 t3 b3 => ⟨I3, b3, fun σ3' H3' I3' t3' b3' => ⟨I3', b3', fun σ4 H4 I4 t4 b4 => ?_⟩⟩⟩⟩⟩
      obtain ⟨dx0, rv0, vs0, us0, eg, _⟩ := b4.gm (i := 1) rfl
      obtain ⟨vt, et, dt⟩ := b4.im (i := 4) rfl
      have evt := dv_str dt
      subst evt
      obtain ⟨vn, en, dn⟩ := b4.im (i := 2) rfl
      have L4 := LG.step (L := L0) b4.st
      refine ⟨.ref g, eg, g, dx, _, rfl, L4.og, rfl, .str (txt t), et, m1 (play_go hR L4 b4.st.s hpl (by omega) (by have := hrun.len; omega) fun H5 I5 c5 L5 => ?_)⟩
      refine ⟨_, et, rfl, _, rfl, iteD ?_⟩
      refine ⟨.ref g, eg, g, dx, _, rfl, L5.og, rfl, m0 (place_go L5 c5.s (p := q) (by simp) fun v6 H6 I6 s6 d6 => ?_)⟩
      refine ⟨imS ρ3, I6, q.d, by simp [ρ3, gm, imS, eL, eA], b4.ims (c5.i.trans s6.i) s6.s, fun v7 H7 I7 s7 d7 => ?_⟩
      have oq : okD q.d = true := hq.good.ok (by decide)
      have op' : okD p.d = true := hp.good.ok (by decide)
      refine ⟨q.d, q.d, dp_of (dv_mono (s7.i.trans s7.s) d6) (okD_p oq), dp_of (dv_mono s7.s d7) (okD_p oq), okD_s oq, okD_s oq, _, rfl, iteE oq ?_⟩
      have L7 := LG.step (L := L5) (s6.trans s7)
      refine ⟨.ref g, eg, g, dx, _, rfl, L7.og, rfl, m0 (back_go L7 s7.s fun H8 c8 L8 => ?_)⟩
      refine ⟨_, et, rfl, _, rfl, iteDt ?_⟩
      refine ⟨.ref g, eg, g, dx, _, rfl, L8.og, rfl, m0 (place_go L8 c8.s el fun v9 H9 I9 s9 d9 => ?_)⟩
      have i49 : Same I4 I9 := (((c5.i.trans s6.i).trans s7.i).trans c8.i).trans s9.i
      refine ⟨vn, en, p.d, p.d, dp_of (dv_mono s9.s d9) (okD_p op'), dp_of (dv_mono (i49.trans s9.s) dn) (okD_p op'), okD_s op', okD_s op', ?_⟩
      rw [eqv_refl p.d (okD_p op')]
      have c1 : Chg kl pl I H I5 H5 := (Chg.of_step b4.st).trans L4.hk L4.hp c5
      have c2 : Chg kl pl I H I7 H7 := c1.step L5.hk L5.hp (s6.trans s7)
      have c3 : Chg kl pl I H I9 H9 := (c2.trans L7.hk L7.hp c8).step L8.hk L8.hp s9
      exact k H9 I9 c3 (LG.step (L := L8) s9)
    · have hot : dIsNot d .none = some (.bool true) := by
        cases hE with
        | on => exact absurd rfl hd
        | mated => rfl
        | stuck => rfl
        | rep => rfl
        | calm => rfl
      refine ⟨_, PSs.nox (pss_cons ((ds_if [] (dt_cmp opd_isnot (de_gMeth0 G.g G.ended (hr.mono (by decide)) 1) de_non (nomark _)) (dss_one (ds_ret [] de_bl)) dss_nil).run ρ0 (.rt (.bool true)) (by simp [ρ0, gm, eE, hot]) I H) pss_never), ?_⟩
      refine ⟨I, b0, fun v H1 I1 s1 d1 => ?_⟩
      have ev := dv_bl d1
      subst ev
      exact k H1 I1 (.of_step s1) (LG.step (L := L0) s1)
end
end
end RB
set_option Elab.async false
set_option linter.all false
set_option maxRecDepth 100000
set_option maxHeartbeats 4000000
set_option autoImplicit false
/-! PG10: _law_deed. -/
namespace RB
open PySem PySem.Spec L2
noncomputable section
/-- the heap changes at kl, pl and kk alone, and grows -/
structure Chg3 (kl pl kk : Addr) (I H I' H' : Hp) : Prop where
  k : ∀ a o, a ≠ kl → a ≠ pl → a ≠ kk → H a = some o → H' a = some o
  i : Same I I'
  s : Same I' H'
  n : ∀ a, I a = none → H a ≠ none → I' a = none
/-- the list of kept places -/
structure KG (I H : Hp) (kk kl pl : Addr) (ks : List Place) : Prop where
  k : ∃ ws, H kk = some (.lst ws) ∧ DvAll I ws (ks.map Place.d)
  ik : I kk = none
  nk : kk ≠ kl
  np : kk ≠ pl
section
variable {kl pl kk : Addr} {I H I' H' I1 H1 I2 H2 : Hp} {ks : List Place}
theorem Chg3.refl (s : Same I H) : Chg3 kl pl kk I H I H := ⟨fun _ _ _ _ _ e => e, Same.refl _, s, fun _ h _ => h⟩
theorem Chg.c3 (c : Chg kl pl I H I' H') : Chg3 kl pl kk I H I' H' := ⟨fun a o h1 h2 _ e => c.k a o h1 h2 e, c.i, c.s, c.n⟩
theorem Chg3.trans (a : Chg3 kl pl kk I H I1 H1) (hk : H1 kl ≠ none) (hp : H1 pl ≠ none) (hc : H1 kk ≠ none) (b : Chg3 kl pl kk I1 H1 I2 H2) : Chg3 kl pl kk I H I2 H2 :=
  ⟨fun x o n1 n2 n3 e => b.k x o n1 n2 n3 (a.k x o n1 n2 n3 e), a.i.trans b.i, b.s, fun x hi hh => b.n x (a.n x hi hh) (by
    by_cases n1 : x = kl
    · rw [n1]; exact hk
    · by_cases n2 : x = pl
      · rw [n2]; exact hp
      · by_cases n3 : x = kk
        · rw [n3]; exact hc
        · cases e : H x with
          | none => exact absurd e hh
          | some o => rw [a.k x o n1 n2 n3 e]; simp)⟩
theorem Chg3.set {o : HO} (s : Same I H) (ik : I kk = none) : Chg3 kl pl kk I H I (upd H kk o) :=
  ⟨fun a u _ _ h e => by rw [upd_ne h]; exact e, Same.refl _, fun a u e => by rw [upd_ne (fun z => by subst z; rw [ik] at e; cases e)]; exact s a u e, fun _ h _ => h⟩
theorem KG.hk (h : KG I H kk kl pl ks) : H kk ≠ none := by
  obtain ⟨ws, e, _⟩ := h.k
  rw [e]; simp
theorem KG.chg (h : KG I H kk kl pl ks) (c : Chg kl pl I H I' H') : KG I' H' kk kl pl ks := by
  obtain ⟨ws, e, d⟩ := h.k
  exact ⟨⟨ws, c.k _ _ h.nk h.np e, dvs_mono c.i d⟩, c.n _ h.ik (by rw [e]; simp), h.nk, h.np⟩
theorem LG.upd {C g dx : Addr} {rv : V} {r : D} {as ts : List D} {ws : List V} {o : HO} (L : LG C I H g dx kl pl rv r as ts) (h : H kk = some (.lst ws)) (nk : kk ≠ kl) (np : kk ≠ pl) : LG C I (L2.upd H kk o) g dx kl pl rv r as ts := by
  obtain ⟨vs, h1, d1⟩ := L.ok
  obtain ⟨us, h2, d2⟩ := L.op
  have ng : g ≠ kk := ne_of L.og h (by intro q; cases q)
  exact ⟨by rw [upd_ne ng]; exact L.og, ⟨vs, by rw [upd_ne nk.symm]; exact h1, d1⟩, ⟨us, by rw [upd_ne np.symm]; exact h2, d2⟩, L.dr, L.ig, L.ik, L.ip, L.ne⟩
end
/-- a game and its list of kept places, since the heap was I0, H0 -/
structure DSt (C : Addr) (I0 H0 : Hp) (g dx kl pl kk : Addr) (rv : V) (R : Rules) (I H : Hp) (ps : List Place) (ts : List (List Nat)) (ks : List Place) : Prop where
  c : Chg3 kl pl kk I0 H0 I H
  l : GS C I H g dx kl pl rv R ps ts
  k : KG I H kk kl pl ks
section
variable {C : Addr} {I0 H0 I H I' H' : Hp} {g dx kl pl kk : Addr} {rv : V} {R : Rules} {ps ps' ks ks' : List Place} {ts ts' : List (List Nat)}
theorem DSt.chg (d : DSt C I0 H0 g dx kl pl kk rv R I H ps ts ks) (c : Chg kl pl I H I' H') (L : GS C I' H' g dx kl pl rv R ps' ts') : DSt C I0 H0 g dx kl pl kk rv R I' H' ps' ts' ks :=
  ⟨d.c.trans d.l.hk d.l.hp d.k.hk c.c3, L, d.k.chg c⟩
theorem DSt.step (d : DSt C I0 H0 g dx kl pl kk rv R I H ps ts ks) (s : Step I H I' H') : DSt C I0 H0 g dx kl pl kk rv R I' H' ps ts ks := d.chg (.of_step s) (LG.step (L := d.l) s)
theorem DSt.keep (d : DSt C I0 H0 g dx kl pl kk rv R I H ps ts ks) {ws : List V} (h : DvAll I ws (ks'.map Place.d)) : DSt C I0 H0 g dx kl pl kk rv R I (upd H kk (.lst ws)) ps ts ks' := by
  obtain ⟨w0, e, _⟩ := d.k.k
  exact ⟨d.c.trans d.l.hk d.l.hp d.k.hk (Chg3.set d.c.s d.k.ik), LG.upd (L := d.l) e d.k.nk d.k.np, ⟨⟨ws, upd_same, h⟩, d.k.ik, d.k.nk, d.k.np⟩⟩
end
def spDeed (C : Addr) : Sp := fun vs H Q _ => ∃ (I : Hp) (R : Rules) (ps : List Place) (ts : List (List Nat)) (rv rv' : V) (g dx kl pl kk : Addr) (cell : Int), vs = [rv, .ref g, .ref kk, .int cell] ∧ RulesOk R ∧ Run R ps ts ∧ ps.length ≤ 50 ∧ Same I H ∧ Dv I rv R.d ∧ GS C I H g dx kl pl rv' R ps ts ∧ KG I H kk kl pl ps ∧
  ∀ H' I' ps' ts', DSt C I H g dx kl pl kk rv' R I' H' ps' ts' ps' → Run R ps' ts' → ps'.head? = ps.head? → ps'.length ≤ ps.length + 1 → Q (.bl true) H'
theorem head_snoc {α : Type} {ps : List α} {q : α} (h : ps ≠ []) : (ps ++ [q]).head? = ps.head? := by
  cases ps with
  | nil => exact absurd rfl h
  | cons => rfl
theorem Run.ne {R : Rules} {ps : List Place} {ts : List (List Nat)} (h : Run R ps ts) : ps ≠ [] := fun z => by
  have := h.len
  rw [z] at this
  cases this
theorem full_at (R : Rules) (p : Place) (m : Mv) : dAt (.list ((fL R p m).map strD)) (.int 3) = some (strD (fullL R p m)) := rfl
section
variable {P : Program} {w : World} {K : KF} {mg : Str → Option Value} {base : Heap} {C : Addr}
abbrev s__law_deed : Stmt := top 88
abbrev N__law_deed : List Str := ["_law_rules_here", "_law_game", "_law_kept", "_law_cell_here", "_law_k", "_law_text_here", "_law_listed_here", "_law_at"]
theorem sc__law_deed : FnScope N__law_deed ["_law_rules_here", "_law_game", "_law_kept", "_law_cell_here"] (defScope s__law_deed) := ⟨rfl, rfl, rfl, by decide +kernel, rfl, by decide +kernel, by decide +kernel⟩
theorem ok__law_deed (T : Txt K w mg) (G : GFn P w K mg base C) (C_listed : CallD P w K mg base 11 "_law_listed" 2 m__law_listed) (C_chosen : CallD P w K mg base 4 "_law_chosen" 4 m__law_chosen) (C__law_short : CallD P w K mg base 2 "_law_short" 2 m__law_short) (C_after : CallD P w K mg base 3 "after" 3 m_after)
    {f : Addr} {fd : FuncData} (F : FnP K "_law_deed" s__law_deed f fd) : FnOk P w K mg base CX0 15 f fd ["_law_rules_here", "_law_game", "_law_kept", "_law_cell_here"] (spDeed C) := by
  obtain ⟨fp, fpd, pps, FP, MP, BP⟩ := G.play
  obtain ⟨fq, fqd, pqs, FQ, MQ, BQ⟩ := G.place
  obtain ⟨fb, fbd, pbs, FB, MB, BB⟩ := G.back
  obtain ⟨fl, fld, pls, FL, gL, kL, BL⟩ := C_listed
  obtain ⟨fc, fcd, pcs, FC, gC, kC, BC⟩ := C_chosen
  obtain ⟨fa, fad, pas, FA, gA, kA, BA⟩ := C_after
  refine F.ok (CX := CX0) sc__law_deed (fun vs H Q E h => ?_) (fun cdv A outer s H vs Q E hr h => ?_)
  · obtain ⟨I, R, ps, ts, rv, rv', g, dx, kl, pl, kk, cell, rfl, _⟩ := h
    rfl
  · obtain ⟨I, R, ps, ts, rv, rv', g, dx, kl, pl, kk, cell, rfl, hR, hrun, hlen, hs, dr, L0, K0, k⟩ := h
    refine ⟨_, PSs.nox (pss_cons (ps_if (DT.any (dt_cmp (opd_eq hr.units) (de_bin opd_mod (de_bin opd_fdiv (de_var 3) de_int) de_int) de_int (nomark _)))
        (pss_cons (ps_for PassesOwn.never rfl (pi_range1 (by rfl) T.range (pa_cons (DE.any (de_bin opd_add de_int (de_bin opd_mod (de_bin opd_fdiv (de_var 3) de_int) de_int))) pa_nil)) (pg_name (i := 4) sc__law_deed.nd rfl (.inl rfl))
          (pss_one (ps_if (pt_cmpR op_gt (pe_callB call_len_seq (by rfl) T.len PySem.boot_len (pa_cons (pv 2) pa_nil)) pe_int (nomark _))
            (pss_cons (ps_set (i := 5) sc__law_deed.nd rfl (.inl rfl) (pe_meth0 (pv 1) G.g.cl MB FB (hr.mono (by decide)) BB .nil pass0))
            (pss_cons (ps_expr (pe_bm0 PySem.F.plainAttrs_list PySem.F.slot_list_pop PySem.F.type_list_pop (mt_pop) (pv 2)))
            (pss_one (ps_if (PW.pt (pw_and (DT.any (dt_cmp (opd_eq hr.units) (de_bin opd_mod (de_bin opd_fdiv (de_var 3) de_int) de_int) de_int (nomark _))) (pw_and1 (pt_cmpR op_eq (pe_meth (pv 1) G.g.cl MP FP (hr.mono (by decide)) BP .nil pass0 (pa_cons (pv 5) pa_nil)) (pv 5) (nomark _)))))
              (pss_one (ps_expr (pe_bm PySem.F.plainAttrs_list PySem.F.slot_list_append PySem.F.type_list_append mt_append (pv 2) (pa_cons (pe_meth0 (pv 1) G.g.cl MQ FQ (hr.mono (by decide)) BQ .nil pass0) pa_nil)))) pss_nil))))
            pss_nil)))
        (pss_one (ps_ret pe_bl))) pss_nil)
      (pss_cons (ps_if (DT.any (dt_cmp opd_isnot (de_gMeth0 G.g G.ended (hr.mono (by decide)) 1) de_non (nomark _))) (pss_one (ps_ret pe_bl)) pss_nil)
      (pss_cons (ps_set (i := 6) sc__law_deed.nd rfl (.inl rfl) (pe_call FL (hr.mono (by decide)) (by rfl) gL kL BL .nil pass0 (pa_cons (pv 0) (pa_cons (pe_ix ix_seq (pv 2) (pe_un un_neg pe_int) (fun _ _ => rfl)) pa_nil))))
      (pss_cons (ps_set (i := 7) sc__law_deed.nd rfl (.inl rfl) (pe_call FC (hr.mono (by decide)) (by rfl) gC kC BC .nil pass0 (pa_cons (pv 0) (pa_cons (pv 2) (pa_cons (pv 6) (pa_cons (pe_op op_fdiv (pv 3) pe_int) pa_nil))))))
      (pss_cons (ps_if (pt_cmpR op_ne (pe_meth (pv 1) G.g.cl MP FP (hr.mono (by decide)) BP .nil pass0 (pa_cons (DE.any (de_sub (de_sub (de_sub (de_var 6) (de_var 7)) de_int) de_int)) pa_nil)) (DE.any (de_call C__law_short (hr.mono (by decide)) (by rfl) (da_cons (de_var 6) (da_cons (de_var 7) da_nil)))) (nomark _)) pss_never pss_nil)
      (pss_cons (ps_expr (pe_bm PySem.F.plainAttrs_list PySem.F.slot_list_append PySem.F.type_list_append mt_append (pv 2) (pa_cons (pe_call FA (hr.mono (by decide)) (by rfl) gA kA BA .nil pass0 (pa_cons (pv 0) (pa_cons (pe_ix ix_seq (pv 2) (pe_un un_neg pe_int) (fun _ _ => rfl)) (pa_cons (DE.any (de_sub (de_sub (de_var 6) (de_var 7)) de_int)) pa_nil)))) pa_nil)))
      (pss_one (ps_ret (pe_cmpR (op_eqD hr.units) (pe_meth0 (pv 1) G.g.cl MQ FQ (hr.mono (by decide)) BQ .nil pass0) (pe_ix ix_seq (pv 2) (pe_un un_neg pe_int) (fun _ _ => rfl)) (nomark _)))))))))), ?_⟩
    have bdc : ∀ {I H : Hp} {o0 o1 o2 o4 o5 o6 o7 : Option V}, Same I H → Bd I H [o0, o1, o2, some (.int cell), o4, o5, o6, o7] [.no, .no, .no, .im (.int cell), .no, .no, .no, .no] I H := fun s => bd_mk s (.cons trivial (.cons trivial (.cons trivial (.cons ⟨_, rfl, .int _⟩ (.cons trivial (.cons trivial (.cons trivial (.cons trivial .nil)))))))) rfl
    have st0 : DSt C I H g dx kl pl kk rv' R I H ps ts ps := ⟨.refl hs, L0, K0⟩
    have ends : ∀ {I : Hp} {ws : List V} {ps : List Place} {p : Place}, DvAll I ws (ps.map Place.d) → ps.getLast? = some p → ∃ v, atI ws (-1) = some v ∧ Dv I v p.d := fun dw e => at_dv dw (last_at e)
    refine ⟨[.no, .no, .no, .im (.int cell), .no, .no, .no, .no], I, decide (cell / 2 % 4 = 3), by simp, bdc hs, fun H1 I1 s1 => ?_⟩
    have st1 := st0.step s1
    refine ite2 (fun hA => ?_) (fun hB => ?_)
    · refine ⟨[.no, .no, .no, .im (.int cell), .no, .no, .no, .no], I1, .int (1 + cell / 8 % 2), by simp, bdc s1.s, fun vj H2 I2 s2 dj => ?_⟩
      have st2 := st1.step s2
      refine ⟨1 + cell / 8 % 2, by rw [dv_int dj], by omega, by omega, ?_⟩
      refine for_range (n := (1 + cell / 8 % 2).toNat) (fun i σ Hc => ∃ (Ic : Hp) (ps' : List Place) (ts' : List (List Nat)) (o4 o5 : Option V), σ = [some rv, some (.ref g), some (.ref kk), some (.int cell), o4, o5, none, none] ∧ DSt C I H g dx kl pl kk rv' R Ic Hc ps' ts' ps' ∧ Run R ps' ts' ∧ ps'.head? = ps.head? ∧ ps'.length ≤ ps.length)
        ⟨I2, ps, ts, none, none, rfl, st2, hrun, rfl, Nat.le_refl _⟩ ?_ ?_
      · rintro i σ Hc hi ⟨Ic, ps', ts', o4, o5, rfl, st, run', hh', hl'⟩
        obtain ⟨ws, hws, dws⟩ := st.k.k
        have hwl : ws.length = ps'.length := by rw [dvs_len dws, List.length_map]
        refine ⟨.ref kk, rfl, kk, ws, rfl, .inl (SqL.of hws), ?_⟩
        refine ⟨_, _, rfl, rfl, _, rfl, ?_⟩
        refine ite2 (fun h1 => ?_) (fun h1 => ?_)
        · have h1' : 1 < ps'.length := by
            have := of_decide_eq_true h1
            omega
          obtain ⟨pa, q, ta, t, rfl, rfl, runa, hpl⟩ := run'.back hR h1'
          rw [List.length_append, List.length_singleton] at hl'
          have hla := runa.len
          refine ⟨.ref g, rfl, g, dx, _, rfl, st.l.og, rfl, m0 (back_go st.l st.c.s fun H3 c3 L3 => ?_)⟩
          have st3 := st.chg c3 L3
          rw [List.map_append] at dws
          obtain ⟨ws0, w0, rfl, dw0, dq⟩ := dvs_snoc dws
          have hw3 : H3 kk = some (.lst (ws0 ++ [w0])) := c3.k _ _ st.k.nk st.k.np hws
          refine ⟨.ref kk, rfl, .inl ⟨rfl, _, SqL.of hw3⟩, kk, _, w0, rfl, rfl, hw3, by simp, ?_⟩
          rw [List.dropLast_concat]
          have st4 := st3.keep (ks' := pa) dw0
          refine ⟨[.no, .no, .no, .im (.int cell), .no, .no, .no, .no], Ic, decide (cell / 16 % 2 = 1), by simp, bdc st4.c.s, fun H5 I5 s5 => ?_⟩
          have st5 := st4.step s5
          have hha : pa.head? = ps.head? := by rw [← hh', head_snoc runa.ne]
          refine ite2 (fun h2 => ?_) (fun h2 => ?_)
          · refine ⟨.ref g, rfl, g, dx, _, rfl, st5.l.og, rfl, .str (txt t), rfl, m1 (play_go hR st5.l st5.c.s hpl (by omega) (by omega) fun H6 I6 c6 L6 => ?_)⟩
            have st6 := st5.chg c6 L6
            refine ⟨_, rfl, rfl, _, rfl, iteDt ?_⟩
            obtain ⟨w6, hw6, dw6⟩ := st6.k.k
            refine ⟨.ref kk, rfl, .inl ⟨rfl, _, SqL.of hw6⟩, .ref g, rfl, g, dx, _, rfl, st6.l.og, rfl, m0 (place_go st6.l st6.c.s (p := q) (by simp) fun v7 H7 I7 s7 d7 => ?_)⟩
            have st7 := st6.step s7
            refine ⟨kk, w6, v7, rfl, rfl, s7.h _ _ hw6, ?_, ?_⟩
            · rw [dvs_len dw6, List.length_map]; exact lt_sig _ (by omega)
            refine ⟨I7, pa ++ [q], ta ++ [t], _, _, rfl, st7.keep (by rw [List.map_append]; exact dvs_app (dvs_mono s7.i dw6) (dvs_one d7)), .step runa hpl, by rw [head_snoc runa.ne]; exact hha, by rw [List.length_append, List.length_singleton]; exact hl'⟩
          · exact ⟨I5, pa, ta, _, _, rfl, st5, runa, hha, by omega⟩
        · exact ⟨Ic, ps', ts', _, _, rfl, st, run', hh', hl'⟩
      · rintro σ Hc ⟨Ic, ps', ts', o4, o5, rfl, st, run', hh', hl'⟩
        exact k Hc Ic ps' ts' st run' hh' (by omega)
    · obtain ⟨p, ms, d, el, hp, M, eE, hE, hne⟩ := hrun.moves hR (by omega)
      have bdg : Bd I1 H1 (L2.start N__law_deed [rv, .ref g, .ref kk, .int cell]) [.no, .gm C g kl pl R.d (ps.map Place.d) (ts.map strD), .no, .no, .no, .no, .no, .no] I1 H1 := bd_mk s1.s (.cons trivial (.cons st1.l.slot (.cons trivial (.cons trivial (.cons trivial (.cons trivial (.cons trivial (.cons trivial .nil)))))))) rfl
      have hot : ∃ b : Bool, dIsNot d .none = some (.bool b) ∧ (b = false → d = .none) := by
        cases hE with
        | on => exact ⟨false, rfl, fun _ => rfl⟩
        | mated => exact ⟨true, rfl, fun z => nomatch z⟩
        | stuck => exact ⟨true, rfl, fun z => nomatch z⟩
        | rep => exact ⟨true, rfl, fun z => nomatch z⟩
        | calm => exact ⟨true, rfl, fun z => nomatch z⟩
      obtain ⟨b, eb, hb⟩ := hot
      refine ⟨_, I1, b, by simp [eE, eb], bdg, fun H2 I2 s2 => ?_⟩
      have st2 := st1.step s2
      cases b with
      | true => exact iteT (k H2 I2 ps ts st2 hrun rfl (by omega))
      | false =>
        refine iteF ?_
        have hd := hb rfl
        subst hd
        have hon : OnG R ps := eE
        obtain ⟨ws, hws, dws⟩ := st2.k.k
        obtain ⟨wl, ewl, dwl⟩ := ends dws el
        have i02 : Same I I2 := st2.c.i
        refine ⟨rv, rfl, .ref kk, rfl, 1, rfl, .inl ⟨kk, ws, -1, wl, rfl, rfl, SqL.of hws, ewl, ?_⟩⟩
        refine ⟨I2, [R.d, p.d], _, rfl, s2.s, .cons (dv_mono i02 dr) (dvs_one dwl), m_listed_eq hR hp M, fun lv H3 I3 s3 d3 => ?_⟩
        have st3 := st2.step s3
        obtain ⟨ws3, hws3, dws3⟩ := st3.k.k
        obtain ⟨i, m, eC, em⟩ := m_chosen_ex hR hrun.ok el M (hne rfl) (cell / 2)
        refine ⟨rv, rfl, .ref kk, rfl, lv, rfl, .int cell, rfl, cell, 2, rfl, rfl, ⟨by decide, by decide⟩, ?_⟩
        have sk : Same I3 (upd I3 kk (.lst ws3)) := same_upd st3.k.ik
        have sh : Same (upd I3 kk (.lst ws3)) H3 := fun a o e => by
          by_cases ha : a = kk
          · subst ha; rw [upd_same] at e; cases e; exact hws3
          · rw [upd_ne ha] at e; exact s3.s _ _ e
        refine ⟨upd I3 kk (.lst ws3), [R.d, .list (ps.map Place.d), .list (ms.map (listD R p)), .int (cell / 2)], _, rfl, sh, .cons (dv_mono ((i02.trans s3.i).trans sk) dr) (.cons (.lst upd_same (dvs_mono sk dws3)) (.cons (dv_mono sk d3) (dvs_one (.int _)))), eC, fun av H4 I4 s4 d4 => ?_⟩
        have eav := dv_int d4
        subst eav
        have s34 : Step I3 H3 I3 H4 := ⟨s4.h, Same.refl _, (sk.trans s4.i).trans s4.s, fun _ h _ => h⟩
        have st4 := st3.step s34
        have hm := List.mem_of_getElem? em
        obtain ⟨q, hpl, eA⟩ := Plays.full hR hon el hp M hm
        have e1 : dAt (.list (ms.map (listD R p))) (.int (i : Int)) = some (listD R p m) := at_list (by rw [List.getElem?_map, em]; rfl)
        have e2 : dAt (listD R p m) (.int 1) = some (.list ((fL R p m).map strD)) := rfl
        have e3 : dAt (listD R p m) (.int 0) = some (mvD m) := rfl
        have e4 := full_at R p m
        have e5 := m_lshort_eq hR hp M em
        have bdl : ∀ {I H : Hp} {o0 o1 o2 o3 o4 o5 : Option V}, Same I3 I → Same I H → Bd I H [o0, o1, o2, o3, o4, o5, some lv, some (.int (i : Int))] [.no, .no, .no, .no, .no, .no, .im (.list (ms.map (listD R p))), .im (.int (i : Int))] I H := fun i s => bd_mk s (.cons trivial (.cons trivial (.cons trivial (.cons trivial (.cons trivial (.cons trivial (.cons ⟨_, rfl, dv_mono i d3⟩ (.cons ⟨_, rfl, .int _⟩ .nil)))))))) rfl
        refine ⟨.ref g, rfl, g, dx, _, rfl, st4.l.og, rfl, _, I3, strD (fullL R p m), ?_, bdl (Same.refl _) st4.c.s, fun tv H5 I5 s5 d5 => ?_⟩
        · simp [e1, e2, e4]
        have etv := dv_str d5
        subst etv
        have st5 := st4.step s5
        refine m1 (play_go hR st5.l st5.c.s hpl (by omega) (by have := hrun.len; omega) fun H6 I6 c6 L6 => ?_)
        have st6 := st5.chg c6 L6
        have i36 : Same I3 I6 := s5.i.trans c6.i
        refine ⟨_, I6, strD (shortL R p ms m), ?_, bdl i36 st6.c.s, fun uv H7 I7 s7 d7 => ?_⟩
        · simp [e5]
        have euv := dv_str d7
        subst euv
        have st7 := st6.step s7
        refine ⟨rfl, _, rfl, iteD ?_⟩
        obtain ⟨ws7, hws7, dws7⟩ := st7.k.k
        obtain ⟨wm, ewm, dwm⟩ := ends dws7 el
        have i37 : Same I3 I7 := i36.trans s7.i
        have hwl7 : ws7.length < sizeLine := by rw [dvs_len dws7, List.length_map]; exact lt_sig _ (by omega)
        refine ⟨.ref kk, rfl, .inl ⟨rfl, _, SqL.of hws7⟩, rv, rfl, .ref kk, rfl, 1, rfl, .inl ⟨kk, ws7, -1, wm, rfl, rfl, SqL.of hws7, ewm, ?_⟩⟩
        refine ⟨_, I7, mvD m, ?_, bdl i37 st7.c.s, fun mv H8 I8 s8 d8 => ?_⟩
        · simp [e1, e3]
        have st8 := st7.step s8
        refine ⟨I8, [R.d, p.d, mvD m], _, rfl, s8.s, .cons (dv_mono (((i02.trans s3.i).trans i37).trans s8.i) dr) (.cons (dv_mono s8.i dwm) (dvs_one d8)), eA, fun qv H9 I9 s9 d9 => ?_⟩
        have st9 := st8.step s9
        refine ⟨kk, ws7, qv, rfl, rfl, s9.h _ _ (s8.h _ _ hws7), hwl7, ?_⟩
        have st10 := st9.keep (ks' := ps ++ [q]) (ws := ws7 ++ [qv]) (by rw [List.map_append]; exact dvs_app (dvs_mono (s8.i.trans s9.i) dws7) (dvs_one d9))
        have elq : (ps ++ [q]).getLast? = some q := by simp
        have hq := hpl.ok
        have oq : okD q.d = true := hq.good.ok (by decide)
        refine ⟨.ref g, rfl, g, dx, _, rfl, st10.l.og, rfl, m0 (place_go st10.l st10.c.s elq fun pv11 H11 I11 s11 d11 => ?_)⟩
        have st11 := st10.step s11
        obtain ⟨w11, hw11, dw11⟩ := st11.k.k
        obtain ⟨we, ewe, dwe⟩ := ends dw11 elq
        refine ⟨.ref kk, rfl, 1, rfl, .inl ⟨kk, w11, -1, we, rfl, rfl, SqL.of hw11, ewe, ?_⟩⟩
        refine ⟨q.d, q.d, dp_of (dv_mono s11.s d11) (okD_p oq), dp_of (dv_mono s11.s dwe) (okD_p oq), okD_s oq, okD_s oq, ?_⟩
        rw [eqv_refl q.d (okD_p oq)]
        exact k H11 I11 (ps ++ [q]) _ st11 (.step hrun hpl) (head_snoc hrun.ne) (by rw [List.length_append, List.length_singleton]; omega)
end
end
end RB
set_option Elab.async false
set_option linter.all false
set_option maxRecDepth 100000
set_option maxHeartbeats 4000000
set_option autoImplicit false
/-! PG11: law. -/
namespace RB
open PySem PySem.Spec L2
noncomputable section
/-- where a game of the law and its kept places stand -/
structure Ga where
  g : Addr
  dx : Addr
  kl : Addr
  pl : Addr
  kk : Addr
  rv : V
structure One (C : Addr) (R : Rules) (p0 : Place) (n : Nat) (I H : Hp) (a : Ga) (ps : List Place) (ts : List (List Nat)) : Prop where
  l : GS C I H a.g a.dx a.kl a.pl a.rv R ps ts
  k : KG I H a.kk a.kl a.pl ps
  run : Run R ps ts
  hd : ps.head? = some p0
  len : ps.length ≤ n
structure Apart (a b : Ga) : Prop where
  h1 : b.kl ≠ a.kl
  h2 : b.kl ≠ a.pl
  h3 : b.kl ≠ a.kk
  h4 : b.pl ≠ a.kl
  h5 : b.pl ≠ a.pl
  h6 : b.pl ≠ a.kk
  h7 : b.kk ≠ a.kl
  h8 : b.kk ≠ a.pl
  h9 : b.kk ≠ a.kk
theorem Apart.symm {a b : Ga} (h : Apart a b) : Apart b a := ⟨h.h1.symm, h.h4.symm, h.h7.symm, h.h2.symm, h.h5.symm, h.h8.symm, h.h3.symm, h.h6.symm, h.h9.symm⟩
/-- a list object that no game holds -/
structure Off (x : Addr) (a : Ga) : Prop where
  kl : x ≠ a.kl
  pl : x ≠ a.pl
  kk : x ≠ a.kk
section
variable {C : Addr} {R : Rules} {p0 : Place} {n n' : Nat} {I H I' H' : Hp} {a b : Ga} {ps qs ps' : List Place} {ts us ts' : List (List Nat)}
theorem One.step (o : One C R p0 n I H a ps ts) (s : Step I H I' H') : One C R p0 n I' H' a ps ts :=
  ⟨LG.step (L := o.l) s, o.k.chg (.of_step s), o.run, o.hd, o.len⟩
theorem One.other (o : One C R p0 n I H b qs us) (x : One C R p0 n' I H a ps ts) (A : Apart a b) (c : Chg3 a.kl a.pl a.kk I H I' H') : One C R p0 n I' H' b qs us := by
  obtain ⟨vs, e1, d1⟩ := o.l.ok
  obtain ⟨ws, e2, d2⟩ := o.l.op
  obtain ⟨ks, e3, d3⟩ := o.k.k
  obtain ⟨v', f1, _⟩ := x.l.ok
  obtain ⟨w', f2, _⟩ := x.l.op
  obtain ⟨k', f3, _⟩ := x.k.k
  have og := c.k _ _ (ne_of o.l.og f1 (by intro q; cases q)) (ne_of o.l.og f2 (by intro q; cases q)) (ne_of o.l.og f3 (by intro q; cases q)) o.l.og
  exact ⟨⟨og, ⟨vs, c.k _ _ A.h1 A.h2 A.h3 e1, dvs_mono c.i d1⟩, ⟨ws, c.k _ _ A.h4 A.h5 A.h6 e2, dvs_mono c.i d2⟩, dv_mono c.i o.l.dr, c.n _ o.l.ig (by rw [o.l.og]; simp), c.n _ o.l.ik (by rw [e1]; simp), c.n _ o.l.ip (by rw [e2]; simp), o.l.ne⟩,
    ⟨⟨ks, c.k _ _ A.h7 A.h8 A.h9 e3, dvs_mono c.i d3⟩, c.n _ o.k.ik (by rw [e3]; simp), o.k.nk, o.k.np⟩, o.run, o.hd, o.len⟩
theorem One.more (o : One C R p0 n I H a ps ts) (h : n ≤ n') : One C R p0 n' I H a ps ts := ⟨o.l, o.k, o.run, o.hd, Nat.le_trans o.len h⟩
end
/-- both games, their lists, the data, as the loops keep them -/
structure Two (C : Addr) (R : Rules) (p0 : Place) (ns : List Int) (a GL KL : Addr) (rv pv : V) (x y : Ga) (n : Nat) (I H : Hp) : Prop where
  s : Same I H
  ds : Dv I (.ref a) (scrD ns)
  dr : Dv I rv R.d
  dp : Dv I pv p0.d
  gl : H GL = some (.lst [.ref x.g, .ref y.g])
  kl : H KL = some (.lst [.ref x.kk, .ref y.kk])
  ox : ∃ ps ts, One C R p0 n I H x ps ts
  oy : ∃ ps ts, One C R p0 n I H y ps ts
section
variable {C : Addr} {R : Rules} {p0 : Place} {ns : List Int} {a GL KL : Addr} {rv pv : V} {x y : Ga} {n n' : Nat} {I H I' H' : Hp}
theorem Two.step (t : Two C R p0 ns a GL KL rv pv x y n I H) (s : Step I H I' H') : Two C R p0 ns a GL KL rv pv x y n I' H' := by
  obtain ⟨ps, ts, ox⟩ := t.ox
  obtain ⟨qs, us, oy⟩ := t.oy
  exact ⟨s.s, dv_mono s.i t.ds, dv_mono s.i t.dr, dv_mono s.i t.dp, s.h _ _ t.gl, s.h _ _ t.kl, ⟨ps, ts, ox.step s⟩, ⟨qs, us, oy.step s⟩⟩
theorem Two.more (t : Two C R p0 ns a GL KL rv pv x y n I H) (h : n ≤ n') : Two C R p0 ns a GL KL rv pv x y n' I H := by
  obtain ⟨ps, ts, ox⟩ := t.ox
  obtain ⟨qs, us, oy⟩ := t.oy
  exact ⟨t.s, t.ds, t.dr, t.dp, t.gl, t.kl, ⟨ps, ts, ox.more h⟩, ⟨qs, us, oy.more h⟩⟩
theorem Two.setX (t : Two C R p0 ns a GL KL rv pv x y n I H) (A : Apart x y) (g1 : Off GL x) (k1 : Off KL x) {ps : List Place} {ts : List (List Nat)} (c : Chg3 x.kl x.pl x.kk I H I' H') (o : One C R p0 n I' H' x ps ts) : Two C R p0 ns a GL KL rv pv x y n I' H' := by
  obtain ⟨ps', ts', ox⟩ := t.ox
  obtain ⟨qs, us, oy⟩ := t.oy
  exact ⟨c.s, dv_mono c.i t.ds, dv_mono c.i t.dr, dv_mono c.i t.dp, c.k _ _ g1.kl g1.pl g1.kk t.gl, c.k _ _ k1.kl k1.pl k1.kk t.kl, ⟨ps, ts, o⟩, ⟨qs, us, oy.other ox A c⟩⟩
theorem Two.setY (t : Two C R p0 ns a GL KL rv pv x y n I H) (A : Apart x y) (g1 : Off GL y) (k1 : Off KL y) {ps : List Place} {ts : List (List Nat)} (c : Chg3 y.kl y.pl y.kk I H I' H') (o : One C R p0 n I' H' y ps ts) : Two C R p0 ns a GL KL rv pv x y n I' H' := by
  obtain ⟨ps', ts', ox⟩ := t.ox
  obtain ⟨qs, us, oy⟩ := t.oy
  exact ⟨c.s, dv_mono c.i t.ds, dv_mono c.i t.dr, dv_mono c.i t.dp, c.k _ _ g1.kl g1.pl g1.kk t.gl, c.k _ _ k1.kl k1.pl k1.kk t.kl, ⟨ps', ts', ox.other oy A.symm c⟩, ⟨ps, ts, o⟩⟩
/-- one of the two, by its number -/
structure Pick (C : Addr) (R : Rules) (p0 : Place) (ns : List Int) (a GL KL : Addr) (rv pv : V) (x y : Ga) (n : Nat) (I H : Hp) (s : Int) (z : Ga) : Prop where
  g : atI [V.ref x.g, V.ref y.g] s = some (.ref z.g)
  k : atI [V.ref x.kk, V.ref y.kk] s = some (.ref z.kk)
  o : ∃ ps ts, One C R p0 n I H z ps ts
  go : ∀ {n' : Nat} {I' H' : Hp} {ps : List Place} {ts : List (List Nat)}, n ≤ n' → Chg3 z.kl z.pl z.kk I H I' H' → One C R p0 n' I' H' z ps ts → Two C R p0 ns a GL KL rv pv x y n' I' H'
theorem Two.pick (t : Two C R p0 ns a GL KL rv pv x y n I H) (A : Apart x y) (g1 : Off GL x) (k1 : Off KL x) (g2 : Off GL y) (k2 : Off KL y) {s : Int} (hs : s = 0 ∨ s = 1) : ∃ z, (z = x ∨ z = y) ∧ Pick C R p0 ns a GL KL rv pv x y n I H s z := by
  rcases hs with e | e
  · subst e
    exact ⟨x, .inl rfl, rfl, rfl, t.ox, fun h c o => (t.more h).setX A g1 k1 c o⟩
  · subst e
    exact ⟨y, .inr rfl, rfl, rfl, t.oy, fun h c o => (t.more h).setY A g2 k2 c o⟩
end
def spLaw : Sp := fun vs H Q _ => ∃ (a : Addr) (ns : List Int), vs = [.ref a] ∧ Rd H a (.lst (ns.map V.int)) ∧ ScrOk ns ∧ ∀ H', Q (.bl true) H'
theorem iteN {A B : Prop} (h : B) : if (!true) = true then A else B := iteF h
section
variable {P : Program} {w : World} {K : KF} {mg : Str → Option Value} {base : Heap} {C : Addr}
abbrev s_law : Stmt := top 89
abbrev N_law : List Str := ["_law_script", "_law_rules_here", "_law_place_here", "_law_games", "_law_kept", "_law_k", "_law_cell_here", "_law_side"]
theorem sc_law : FnScope N_law ["_law_script"] (defScope s_law) := ⟨rfl, rfl, rfl, by decide +kernel, rfl, by decide +kernel, by decide +kernel⟩
theorem ok_law (T : Txt K w mg) (G : GFn P w K mg base C) (C__law_cell : CallD P w K mg base 1 "_law_cell" 2 m__law_cell) (C__law_rules : CallD P w K mg base 3 "_law_rules" 1 m__law_rules) (C__law_place : CallD P w K mg base 4 "_law_place" 3 m__law_place)
    (D : FDo P w K mg base 15 "_law_deed" (spDeed C)) (B : FDo P w K mg base 15 "_law_there_and_back" (spTB C)) (N : FDo P w K mg base 16 "_law_as_anew" (spAnew C)) {f : Addr} {fd : FuncData} (F : FnP K "law" s_law f fd) : FnOk P w K mg base CX0 17 f fd ["_law_script"] spLaw := by
  obtain ⟨fq, fqd, pqs, FQ, MQ, BQ⟩ := G.place
  obtain ⟨fe, fed, pes, FE, gE, kE, BE⟩ := D
  obtain ⟨fb, fbd, pbs, FB, gB, kB, BB⟩ := B
  obtain ⟨fn, fnd, pns, FN, gN, kN, BN⟩ := N
  refine F.ok (CX := CX0) sc_law (fun vs H Q E h => ?_) (fun cdv A outer s H vs Q E hr h => ?_)
  · obtain ⟨a, ns, rfl, _⟩ := h
    rfl
  · obtain ⟨a, ns, rfl, hS, hok, k⟩ := h
    obtain ⟨R, eR, hR⟩ := m_rules_ex hok
    obtain ⟨p, eP, hp⟩ := m_place_ex hok hR
    have op' : okD p.d = true := hp.good.ok (by decide)
    refine ⟨_, PSs.nox (pss_cons (ps_set (i := 1) sc_law.nd rfl (.inl rfl) (DE.any (de_call C__law_rules (hr.mono (by decide)) (by rfl) (da_cons (de_var 0) da_nil))))
      (pss_cons (ps_set (i := 2) sc_law.nd rfl (.inl rfl) (DE.any (de_call C__law_place (hr.mono (by decide)) (by rfl) (da_cons (de_var 0) (da_cons de_int (da_cons (de_var 1) da_nil))))))
      (pss_cons (ps_set (i := 3) sc_law.nd rfl (.inl rfl) (pe_lst (pa_cons (pe_newG G.new (hr.mono (by decide)) (by rfl) (da_cons (de_var 1) (da_cons (de_var 2) da_nil))) (pa_cons (pe_newG G.new (hr.mono (by decide)) (by rfl) (da_cons (de_var 1) (da_cons (de_var 2) da_nil))) pa_nil))))
      (pss_cons (ps_set (i := 4) sc_law.nd rfl (.inl rfl) (pe_lst (pa_cons (pe_lst (pa_cons (pv 2) pa_nil)) (pa_cons (pe_lst (pa_cons (pv 2) pa_nil)) pa_nil))))
      (pss_cons (ps_for PassesOwn.never rfl (pi_range2 (by rfl) T.range (pa_cons pe_int (pa_cons pe_int pa_nil))) (pg_name (i := 5) sc_law.nd rfl (.inl rfl))
        (pss_cons (ps_set (i := 6) sc_law.nd rfl (.inl rfl) (DE.any (de_call C__law_cell (hr.mono (by decide)) (by rfl) (da_cons (de_var 0) (da_cons (de_var 5) da_nil)))))
        (pss_cons (ps_set (i := 7) sc_law.nd rfl (.inl rfl) (pe_op op_mod (pv 6) pe_int))
        (pss_cons (ps_if (pt_not (pt_val (pe_call FE (hr.mono (by decide)) (by rfl) gE kE BE .nil pass0 (pa_cons (pv 1) (pa_cons (pe_ix ix_seq (pv 3) (pv 7) (fun _ _ => rfl)) (pa_cons (pe_ix ix_seq (pv 4) (pv 7) (fun _ _ => rfl)) (pa_cons (pv 6) pa_nil))))))) pss_never pss_nil)
        (pss_one (ps_if (pt_not (pt_val (pe_call FB (hr.mono (by decide)) (by rfl) gB kB BB .nil pass0 (pa_cons (pv 1) (pa_cons (pe_ix ix_seq (pv 3) (pv 7) (fun _ _ => rfl)) pa_nil))))) pss_never pss_nil))))))
      (pss_cons (ps_for PassesOwn.never rfl (pi_range1 (by rfl) T.range (pa_cons pe_int pa_nil)) (pg_name (i := 7) sc_law.nd rfl (.inl rfl))
        (pss_one (ps_if (PW.pt (pw_or (pt_not (pt_val (pe_call FN (hr.mono (by decide)) (by rfl) gN kN BN .nil pass0 (pa_cons (pv 1) (pa_cons (pv 2) (pa_cons (pe_ix ix_seq (pv 3) (pv 7) (fun _ _ => rfl)) pa_nil)))))) (pw_or1 (pt_cmpR (op_neD hr.units) (pe_meth0 (pe_ix ix_seq (pv 3) (pv 7) (fun _ _ => rfl)) G.g.cl MQ FQ (hr.mono (by decide)) BQ .nil pass0) (pe_ix ix_seq (pe_ix ix_seq (pv 4) (pv 7) (fun _ _ => rfl)) (pe_un un_neg pe_int) (fun _ _ => rfl)) (nomark _))))) pss_never pss_nil)))
      (pss_one (ps_ret pe_bl)))))))), ?_⟩
    have dS : ∀ {I : Hp}, Same H I → Dv I (.ref a) (scrD ns) := fun i => dv_mono i (.scr hS)
    refine ⟨[.im (scrD ns), .no, .no, .no, .no, .no, .no, .no], H, R.d, by simp [eR], bd_mk (Same.refl _) (.cons ⟨_, rfl, .scr hS⟩ (.cons trivial (.cons trivial (.cons trivial (.cons trivial (.cons trivial (.cons trivial (.cons trivial .nil)))))))) rfl, fun rv H1 I1 s1 dr1 => ?_⟩
    refine ⟨[.im (scrD ns), .im R.d, .no, .no, .no, .no, .no, .no], I1, p.d, by simp [eP], bd_mk s1.s (.cons ⟨_, rfl, dS s1.i⟩ (.cons ⟨rv, rfl, dr1⟩ (.cons trivial (.cons trivial (.cons trivial (.cons trivial (.cons trivial (.cons trivial .nil)))))))) rfl, fun pv' H2 I2 s2 dp2 => ?_⟩
    have dr2 := dv_mono s2.i dr1
    refine ⟨[.no, .im R.d, .im p.d, .no, .no, .no, .no, .no], I2, R.d, p.d, by simp, bd_mk s2.s (.cons trivial (.cons ⟨rv, rfl, dr2⟩ (.cons ⟨pv', rfl, dp2⟩ (.cons trivial (.cons trivial (.cons trivial (.cons trivial (.cons trivial .nil)))))))) rfl, fun g0 dx0 kl0 pl0 rv0 H3 I3 s3 L3 hg0 hk0 hp0 => ?_⟩
    have dr3 := dv_mono s3.i dr2
    have dp3 := dv_mono s3.i dp2
    refine ⟨[.no, .im R.d, .im p.d, .no, .no, .no, .no, .no], I3, R.d, p.d, by simp, bd_mk s3.s (.cons trivial (.cons ⟨rv, rfl, dr3⟩ (.cons ⟨pv', rfl, dp3⟩ (.cons trivial (.cons trivial (.cons trivial (.cons trivial (.cons trivial .nil)))))))) rfl, fun g1 dx1 kl1 pl1 rv1 H4 I4 s4 L4 hg1 hk1 hp1 => ?_⟩
    have L3' := LG.step (L := L3) s4
    refine ⟨by show 2 ≤ sizeLine; decide, fun GL hGL => ?_⟩
    refine ⟨pv', rfl, by show 1 ≤ sizeLine; decide, fun kk0 hkk0 => ⟨pv', rfl, by show 1 ≤ sizeLine; decide, fun kk1 hkk1 => ⟨by show 2 ≤ sizeLine; decide, fun KL hKL => ?_⟩⟩⟩
    have s5 := step_list (o := .lst [V.ref g0, V.ref g1]) s4.s hGL
    have s6 := step_list (o := .lst [pv']) s5.s hkk0
    have s7 := step_list (o := .lst [pv']) s6.s hkk1
    have s8 := step_list (o := .lst [V.ref kk0, V.ref kk1]) s7.s hKL
    have fr : ∀ {H H' : Hp} {b c : Addr}, H b ≠ none → H c = none → b ≠ c := fun h1 h2 z => h1 (by rw [z]; exact h2)
    have up : ∀ {H : Hp} {c : Addr} {o : HO}, (upd H c o) c ≠ none := fun {H c o} => by rw [upd_same]; simp
    have n5 : ∀ {b : Addr}, H4 b ≠ none → (upd H4 GL (.lst [V.ref g0, V.ref g1])) b ≠ none := fun h => same_ne s5.h h
    have n6 : ∀ {b : Addr}, (upd H4 GL (.lst [V.ref g0, V.ref g1])) b ≠ none → _ := fun {b} h => same_ne s6.h h
    have n7 : ∀ {b : Addr}, (upd (upd H4 GL (.lst [V.ref g0, V.ref g1])) kk0 (.lst [pv'])) b ≠ none → _ := fun {b} h => same_ne s7.h h
    let x : Ga := ⟨g0, dx0, kl0, pl0, kk0, rv0⟩
    let y : Ga := ⟨g1, dx1, kl1, pl1, kk1, rv1⟩
    have Axy : Apart x y := ⟨(fr (H' := H) L3.hk hk1).symm, (fr (H' := H) L3.hp hk1).symm, fr (H' := H) (n5 L4.hk) hkk0, (fr (H' := H) L3.hk hp1).symm, (fr (H' := H) L3.hp hp1).symm, fr (H' := H) (n5 L4.hp) hkk0,
      (fr (H' := H) (n6 (n5 L3'.hk)) hkk1).symm, (fr (H' := H) (n6 (n5 L3'.hp)) hkk1).symm, (fr (H' := H) up hkk1).symm⟩
    have gx : Off GL x := ⟨(fr (H' := H) L3'.hk hGL).symm, (fr (H' := H) L3'.hp hGL).symm, fr (H' := H) up hkk0⟩
    have gy : Off GL y := ⟨(fr (H' := H) L4.hk hGL).symm, (fr (H' := H) L4.hp hGL).symm, fr (H' := H) (n6 up) hkk1⟩
    have kx : Off KL x := ⟨(fr (H' := H) (n7 (n6 (n5 L3'.hk))) hKL).symm, (fr (H' := H) (n7 (n6 (n5 L3'.hp))) hKL).symm, (fr (H' := H) (n7 up) hKL).symm⟩
    have ky : Off KL y := ⟨(fr (H' := H) (n7 (n6 (n5 L4.hk))) hKL).symm, (fr (H' := H) (n7 (n6 (n5 L4.hp))) hKL).symm, (fr (H' := H) up hKL).symm⟩
    have s48 := ((s5.trans s6).trans s7).trans s8
    have dr4 := dv_mono s4.i dr3
    have dp4 := dv_mono s4.i dp3
    have i04 : Same H I4 := ((s1.i.trans s2.i).trans s3.i).trans s4.i
    have t0 : Two C R p ns a GL KL rv pv' x y 1 I4 _ := ⟨s48.s, dS i04, dr4, dp4, (s6.trans (s7.trans s8)).h _ _ upd_same, upd_same,
      ⟨[p], [], LG.step (L := L3') s48, ⟨⟨[pv'], (s7.trans s8).h _ _ upd_same, dvs_one dp4⟩, s5.s.free hkk0, fr (H' := H) up hkk0 |> fun _ => (fr (H' := H) (n5 L3'.hk) hkk0).symm, (fr (H' := H) (n5 L3'.hp) hkk0).symm⟩, .start hp, rfl, Nat.le_refl _⟩,
      ⟨[p], [], LG.step (L := L4) s48, ⟨⟨[pv'], s8.h _ _ upd_same, dvs_one dp4⟩, s6.s.free hkk1, (fr (H' := H) (n6 (n5 L4.hk)) hkk1).symm, (fr (H' := H) (n6 (n5 L4.hp)) hkk1).symm⟩, .start hp, rfl, Nat.le_refl _⟩⟩
    refine ⟨24, 32, rfl, by decide, ?_⟩
    refine for_range (n := 8) (fun i σ Hc => ∃ (Ic : Hp) (o5 o6 o7 : Option V), σ = [some (.ref a), some rv, some pv', some (.ref GL), some (.ref KL), o5, o6, o7] ∧ Two C R p ns a GL KL rv pv' x y (i + 1) Ic Hc) ⟨I4, none, none, none, rfl, t0⟩ ?_ ?_
    · rintro i σ Hc hi ⟨Ic, o5, o6, o7, rfl, t⟩
      obtain ⟨cell, ec⟩ := m_cell_ex hok (k := 24 + i) (by omega)
      have ec' : m__law_cell [scrD ns, .int (24 + (i : Int))] = some (.int cell) := by
        have : ((24 + i : Nat) : Int) = 24 + (i : Int) := by omega
        rw [← this]; exact ec
      refine ⟨[.im (scrD ns), .no, .no, .no, .no, .im (.int (24 + (i : Int))), .no, .no], Ic, .int cell, by simp [ec'], bd_mk t.s (.cons ⟨_, rfl, t.ds⟩ (.cons trivial (.cons trivial (.cons trivial (.cons trivial (.cons ⟨_, rfl, .int _⟩ (.cons trivial (.cons trivial .nil)))))))) rfl, fun cv H5 I5 s5 d5 => ?_⟩
      have ecv := dv_int d5
      subst ecv
      have t5 := t.step s5
      refine ⟨.int cell, rfl, cell, 2, rfl, rfl, (by show (0 : Int) < 2; decide), ?_⟩
      obtain ⟨z, _, pk⟩ := t5.pick Axy gx kx gy ky (s := cell % 2) (by omega)
      obtain ⟨ps, ts, o⟩ := pk.o
      refine ⟨rv, rfl, .ref GL, rfl, .int (cell % 2), rfl, .inl ⟨GL, _, _, _, rfl, rfl, SqL.of t5.gl, pk.g, .ref KL, rfl, .int (cell % 2), rfl, .inl ⟨KL, _, _, _, rfl, rfl, SqL.of t5.kl, pk.k, .int cell, rfl, ?_⟩⟩⟩
      refine ⟨I5, R, ps, ts, rv, z.rv, z.g, z.dx, z.kl, z.pl, z.kk, cell, rfl, hR, o.run, by have := o.len; omega, t5.s, t5.dr, o.l, o.k, fun H6 I6 ps' ts' st run' hh' hl' => ?_⟩
      have o6 : One C R p (i + 1 + 1) I6 H6 z ps' ts' := ⟨st.l, st.k, run', by rw [hh']; exact o.hd, by have := o.len; omega⟩
      have t6 := pk.go (Nat.le_succ _) st.c o6
      refine ⟨true, rfl, iteN ?_⟩
      refine ⟨rv, rfl, .ref GL, rfl, .int (cell % 2), rfl, .inl ⟨GL, _, _, _, rfl, rfl, SqL.of t6.gl, pk.g, ?_⟩⟩
      refine ⟨I6, R, ps', ts', rv, z.rv, z.g, z.dx, z.kl, z.pl, rfl, hR, run', by have := o6.len; omega, t6.s, t6.dr, st.l, fun H7 I7 c7 L7 => ?_⟩
      have c57 := st.c.trans st.l.hk st.l.hp st.k.hk c7.c3
      have t7 := pk.go (Nat.le_succ _) c57 (n' := i + 1 + 1) ⟨L7, st.k.chg c7, run', o6.hd, o6.len⟩
      exact ⟨true, rfl, iteN ⟨I7, _, _, _, rfl, t7⟩⟩
    · rintro σ Hc ⟨Ic, o5, o6, o7, rfl, t⟩
      refine ⟨2, rfl, by decide, by decide, ?_⟩
      refine for_range (n := 2) (fun i σ Hc => ∃ (Ic : Hp) (o5 o6 o7 : Option V), σ = [some (.ref a), some rv, some pv', some (.ref GL), some (.ref KL), o5, o6, o7] ∧ Two C R p ns a GL KL rv pv' x y 9 Ic Hc) ⟨Ic, _, _, _, rfl, t⟩ ?_ ?_
      · rintro i σ Hc hi ⟨Ic, o5, o6, o7, rfl, t⟩
        obtain ⟨z, _, pk⟩ := t.pick Axy gx kx gy ky (s := 0 + (i : Int)) (by omega)
        obtain ⟨ps, ts, o⟩ := pk.o
        refine ⟨rv, rfl, pv', rfl, .ref GL, rfl, .int (0 + (i : Int)), rfl, .inl ⟨GL, _, _, _, rfl, rfl, SqL.of t.gl, pk.g, ?_⟩⟩
        refine ⟨Ic, R, p, ps, ts, rv, pv', z.rv, z.g, z.dx, z.kl, z.pl, rfl, hR, o.run, o.hd, by have := o.len; omega, t.s, t.dr, t.dp, o.l, fun H5 I5 s5 => ?_⟩
        refine ⟨true, rfl, iteN ?_⟩
        have t5 := t.step s5
        have o5 := o.step s5
        obtain ⟨q, el, hq⟩ := o.run.last
        have oq : okD q.d = true := hq.good.ok (by decide)
        refine ⟨.ref GL, rfl, .int (0 + (i : Int)), rfl, .inl ⟨GL, _, _, _, rfl, rfl, SqL.of t5.gl, pk.g, z.g, z.dx, _, rfl, o5.l.og, rfl, m0 (place_go o5.l t5.s el fun v6 H6 I6 s6 d6 => ?_)⟩⟩
        have t6 := t5.step s6
        have o6 := o5.step s6
        obtain ⟨ws, hws, dws⟩ := o6.k.k
        obtain ⟨wl, ewl, dwl⟩ := at_dv dws (last_at el)
        refine ⟨.ref KL, rfl, .int (0 + (i : Int)), rfl, .inl ⟨KL, _, _, _, rfl, rfl, SqL.of t6.kl, pk.k, 1, rfl, .inl ⟨z.kk, ws, -1, wl, rfl, rfl, SqL.of hws, ewl, ?_⟩⟩⟩
        refine ⟨q.d, q.d, dp_of (dv_mono s6.s d6) (okD_p oq), dp_of (dv_mono s6.s dwl) (okD_p oq), okD_s oq, okD_s oq, _, rfl, iteE oq ?_⟩
        exact ⟨I6, _, _, _, rfl, t6⟩
      · rintro σ Hc ⟨Ic, o5, o6, o7, rfl, t⟩
        exact k Hc
end
end
end RB
set_option Elab.async false
set_option linter.all false
set_option maxRecDepth 100000
set_option maxHeartbeats 2000000
set_option autoImplicit false
/-! PH1: the law's end with the script's bits. -/
namespace RB
open PySem PySem.Spec PyProof.Rows L2
theorem rd_script {K : KF} {H : Hp} {a : Addr} {xs : List V} (no : NoList K) (h : SqL K H a xs) : Rd H a (.lst xs) := by
  rcases h with h | ⟨o, its, n, hk, hc, _⟩
  · exact h
  · exact absurd hc (no a o hk)
theorem scr_ok {ns : List Int} (hl : ns.length ≤ 63) (hb : ∀ z ∈ ns, Builtin.Int.intBits z ≤ 1048576) : ScrOk ns := ⟨hl, fun n hn => by
  have h := hb n hn
  unfold Builtin.Int.intBits at h
  split at h
  · rename_i h0
    have : n.natAbs = 0 := by simpa using h0
    rw [this]; simp
  · omega⟩
/-- the end of a law whose promise knows the script's bits, the written part chosen behind the head -/
theorem walk_N {l : PySem.W.OpenLaw} {n k : Nat} {q : Program} {loose : List Str} {XP : (Str → Option Value) → Heap → Prop} {YP : World → Heap → Prop} {d : DefRec} {x : Str}
    (hn : l.most = some n) (hn2 : n ≤ sizeLine) (hdf : d.params.defaults = []) (hr : Room k callerA)
    (F : ∀ (w : World) (mg : Str → Option Value) (fa : Addr) (h : Heap), YP w h → h.Ns mainGlobals mg → mg d.name = some (.ref fa) → ∃ (K : KF) (fd : FuncData) (sp : Sp), K.In h ∧ (∀ (s : Shared) (u : Value), BindsTo s fd ⟨[u], []⟩ [(x, u)]) ∧
        (∀ (H : Hp) (a : Addr) (ns : List Int), ns.length ≤ n → (∀ z ∈ ns, Builtin.Int.intBits z ≤ 1048576) → SqL K H a (ns.map V.int) → sp [.ref a] H (fun v _ => v = .bl true) fun _ _ _ => False) ∧
        ∀ base : Heap, K.In base → base.Ns mainGlobals mg → FnOk l.prog w K mg base CX0 k fa fd [x] sp) : PySem.W.WalkO q loose XP YP l.row.toRowW d [] (fun f vs => PySem.call f vs) := by
  refine Att.attach_callB hn hdf fun w s₀ s₁ mg mb fa o pm cd doc a vs ns G Y ho hd hcd hmg hobj hints hlen hbits hgen => ?_
  obtain ⟨K, fd, sp, inK, hb, hsp, hF⟩ := F w mg fa _ Y G.T.g hmg
  exact law_call inK G.T.g G.T.b G.T.builtins G.T.nolimit hgen hobj hints (Nat.le_trans hlen hn2) hr hF hb (fun H _ hS => hsp H a ns hlen hbits hS) fun _ _ _ z => z
end RB
set_option Elab.async false
set_option linter.all false
set_option maxRecDepth 100000
set_option maxHeartbeats 4000000
set_option autoImplicit false
/-! printed by gen2.py: from the facts to the law -/
namespace RB
open PySem PySem.Spec PyProof.Rows L2
noncomputable section
theorem CallD.mono {P : Program} {w : World} {K : KF} {mg : Str → Option Value} {base : Heap} {j k : Nat} {x : Str} {n : Nat} {g : List D → Option D} (h : CallD P w K mg base j x n g) (hj : j ≤ k) : CallD P w K mg base k x n g := by
  obtain ⟨fa, fd, ps, F, hm, hk, hb⟩ := h
  exact ⟨fa, fd, ps, F.mono hj, hm, hk, hb⟩
/-- a def with one default, all its arguments given -/
theorem binds_last {K : KF} {x qual : Str} {pa : Arguments} {bd : List Stmt} {sc : Scope} {v : V} {f : Addr} {fd : FuncData} {ps : List Str} (F : FunD K x qual pa bd sc [v] [] f fd)
    (h : ∀ (T : Addr) (kV doc pm : Value) (an : Option Addr) (cdv ct : Value) (us its : List Value), us.length = ps.length → its.length = 1 →
      ∃ k, bindArgs (PySem.W.fnOf x qual pa bd sc (.ref T) kV doc pm an cdv ct) ⟨us, []⟩ = seqItems? (.ref T) >>= k ∧ k (some its.toArray) = pure (ps.zip (us ++ its.drop 1))) : Binds K fd ps [] := by
  obtain ⟨ds, hv, hb⟩ := F.binds1 ps.length 1 (by simp) (by simp) h
  cases hv
  exact hb
/-- the defs over data -/
structure Lib (P : Program) (w : World) (K : KF) (mg : Str → Option Value) (base : Heap) : Prop where
  f_squares_of : CallD P w K mg base 1 "squares_of" 1 m_squares_of
  f_bits_of : CallD P w K mg base 1 "bits_of" 1 m_bits_of
  f_square_at : CallD P w K mg base 1 "square_at" 3 m_square_at
  f_name_of : CallD P w K mg base 1 "name_of" 2 m_name_of
  f_steps : CallD P w K mg base 1 "steps" 2 m_steps
  f_is_ride_once : CallD P w K mg base 1 "is_ride_once" 1 m_is_ride_once
  f_kind_of : CallD P w K mg base 1 "kind_of" 2 m_kind_of
  f_full : CallD P w K mg base 2 "full" 1 m_full
  f_pieces : CallD P w K mg base 2 "pieces" 2 m_pieces
  f_reach : CallD P w K mg base 5 "reach" 3 m_reach
  f_attacks : CallD P w K mg base 6 "attacks" 4 m_attacks
  f_signs_of : CallD P w K mg base 1 "signs_of" 2 m_signs_of
  f_letters_for : CallD P w K mg base 1 "letters_for" 4 m_letters_for
  f_words_for : CallD P w K mg base 1 "words_for" 4 m_words_for
  f_partner : CallD P w K mg base 1 "partner" 4 m_partner
  f_pair_fits : CallD P w K mg base 7 "pair_fits" 4 m_pair_fits
  f_bare_from : CallD P w K mg base 8 "bare_from" 3 m_bare_from
  f_bare : CallD P w K mg base 9 "bare" 2 m_bare
  f_with_sign : CallD P w K mg base 1 "with_sign" 3 m_with_sign
  f_left_behind : CallD P w K mg base 2 "left_behind" 3 m_left_behind
  f_after : CallD P w K mg base 3 "after" 3 m_after
  f_is_safe : CallD P w K mg base 7 "is_safe" 3 m_is_safe
  f_moves : CallD P w K mg base 10 "moves" 2 m_moves
  f_forms : CallD P w K mg base 2 "forms" 3 m_forms
  f_all_forms : CallD P w K mg base 11 "all_forms" 2 m_all_forms
  f_told_by : CallD P w K mg base 1 "told_by" 2 m_told_by
  f_short : CallD P w K mg base 12 "short" 3 m_short
  f_read_short : CallD P w K mg base 12 "read_short" 3 m_read_short
  f_royals : CallD P w K mg base 3 "royals" 3 m_royals
  f_attacks_on : CallD P w K mg base 7 "attacks_on" 3 m_attacks_on
  f_verdict : CallD P w K mg base 11 "verdict" 2 m_verdict
  f__law_cell : CallD P w K mg base 1 "_law_cell" 2 m__law_cell
  f__law_mixed : CallD P w K mg base 1 "_law_mixed" 2 m__law_mixed
  f__law_board : CallD P w K mg base 2 "_law_board" 1 m__law_board
  f__law_way : CallD P w K mg base 1 "_law_way" 1 m__law_way
  f__law_strong : CallD P w K mg base 1 "_law_strong" 2 m__law_strong
  f__law_kind : CallD P w K mg base 2 "_law_kind" 5 m__law_kind
  f__law_rules : CallD P w K mg base 3 "_law_rules" 1 m__law_rules
  f__law_cells : CallD P w K mg base 2 "_law_cells" 3 m__law_cells
  f__law_may : CallD P w K mg base 1 "_law_may" 2 m__law_may
  f__law_steps : CallD P w K mg base 1 "_law_steps" 2 m__law_steps
  f__law_spot : CallD P w K mg base 1 "_law_spot" 3 m__law_spot
  f__law_over_by : CallD P w K mg base 2 "_law_over_by" 5 m__law_over_by
  f__law_own : CallD P w K mg base 1 "_law_own" 2 m__law_own
  f__law_over : CallD P w K mg base 3 "_law_over" 4 m__law_over
  f__law_royals : CallD P w K mg base 2 "_law_royals" 3 m__law_royals
  f__law_place : CallD P w K mg base 4 "_law_place" 3 m__law_place
  f__law_forms : CallD P w K mg base 1 "_law_forms" 3 m__law_forms
  f__law_listed : CallD P w K mg base 11 "_law_listed" 2 m__law_listed
  f__law_alone : CallD P w K mg base 1 "_law_alone" 2 m__law_alone
  f__law_short : CallD P w K mg base 2 "_law_short" 2 m__law_short
  f__law_mine : CallD P w K mg base 2 "_law_mine" 2 m__law_mine
  f__law_chosen : CallD P w K mg base 4 "_law_chosen" 4 m__law_chosen
section
variable {P : Program} {w : World} {K : KF} {mg : Str → Option Value} {base h : Heap}
theorem txt_of (X : K.In h) (G : h.Ns mainGlobals mg) (c : SaysN faL fnL tsL exL w K) : Txt K w mg where
  len := He.free_ok X G (c.t.d.fact 99 (f := .free "len") rfl)
  abs := He.free_ok X G (c.t.d.fact 100 (f := .free "abs") rfl)
  min := He.free_ok X G (c.t.d.fact 101 (f := .free "min") rfl)
  int := He.free_ok X G (c.t.d.fact 102 (f := .free "int") rfl)
  tuple := He.free_ok X G (c.t.d.fact 103 (f := .free "tuple") rfl)
  list := He.free_ok X G (c.t.d.fact 104 (f := .free "list") rfl)
  sorted := He.free_ok X G (c.t.d.fact 105 (f := .free "sorted") rfl)
  set := He.free_ok X G (c.t.d.fact 106 (f := .free "set") rfl)
  isinstance := He.free_ok X G (c.t.d.fact 107 (f := .free "isinstance") rfl)
  str := He.free_ok X G (c.t.d.fact 108 (f := .free "str") rfl)
  range := He.free_ok X G (c.t.d.fact 109 (f := .free "range") rfl)
  enumerate := He.free_ok X G (c.t.d.fact 110 (f := .free "enumerate") rfl)
  COLUMNS := He.str_ok X G (c.t.d.fact 111 (f := .str "COLUMNS" "abcdefgh") rfl)
  ROWS := He.str_ok X G (c.t.d.fact 112 (f := .str "ROWS" "12345678") rfl)
  LETTERS := He.str_ok X G (c.t.d.fact 113 (f := .str "LETTERS" "abcdefghijklmnopqrstuvwxyz") rfl)
  GREAT := He.str_ok X G (c.t.d.fact 114 (f := .str "GREAT" "ABCDEFGHIJKLMNOPQRSTUVWXYZ") rfl)
  MARKS := by
    obtain ⟨es, n, hl, hk, _⟩ := c.t.tab 0 (t := (fun K => He.ga K "MARKS", ["go", "take", "pass", "pair"])) rfl
    have hv : He.valsB K (He.ga K "MARKS") marksV = true := c.x 4 (e := fun K => He.valsB K (He.ga K "MARKS") marksV) rfl
    have one : ∀ r ∈ marksV, KDct K w (He.ga K "MARKS") r.1 (r.2.v K) := fun r hr => by
      obtain ⟨u, e, rv⟩ := He.valsB_ok hv hr
      exact ⟨es, n, u, hl, hk, e, rv⟩
    exact ⟨_, (He.glo_ok X G (c.t.d.fact 115 (f := .glo "MARKS") rfl)), one ("go", .str "") (by unfold marksV; simp), one ("take", .str "x") (by unfold marksV; simp), one ("pass", .str "x") (by unfold marksV; simp), one ("pair", .str "&") (by unfold marksV; simp)⟩
theorem call_square_at (T : Txt K w mg) (X : K.In h) (G : h.Ns mainGlobals mg) (c : SaysN faL fnL tsL exL w K) : CallD P w K mg base 1 "square_at" 3 m_square_at := by
  obtain ⟨_, F⟩ := c.t.d.def_ 2 (d := d_2) rfl
  exact ⟨_, _, _, ok_square_at T F, (He.glo_ok X G (c.t.d.fact 2 (f := .glo "square_at") rfl)), F.kp, (F.bindsN (ps := ["board", "column", "row"]) fun _ _ _ _ _ _ us hl => match us, hl with | [_, _, _], _ => rfl)⟩
theorem lines_of (T : Txt K w mg) (X : K.In h) (G : h.Ns mainGlobals mg) (c : SaysN faL fnL tsL exL w K) : LinesD P w K mg base 4 := by
  have C_square_at : CallD P w K mg base 1 "square_at" 3 m_square_at := call_square_at T X G c
  let cs : List Addr := [He.ga K "Leap", He.ga K "Ride", He.ga K "Hop"]
  have cl : ∀ C ∈ cs, Cls K C := fun C hC => by
    rcases List.mem_cons.mp hC with e | hC
    · rw [e]; exact He.cls_ok (c.t.d.fact 61 (f := .cls "Leap") rfl)
    rcases List.mem_cons.mp hC with e | hC
    · rw [e]; exact He.cls_ok (c.t.d.fact 70 (f := .cls "Ride") rfl)
    · rw [List.mem_singleton.mp hC]; exact He.cls_ok (c.t.d.fact 79 (f := .cls "Hop") rfl)
  have nx : ∀ C ∈ cs, NoAttr K C "dx" := fun C hC => by
    rcases List.mem_cons.mp hC with e | hC
    · rw [e]; exact He.noat_ok (c.t.d.fact 63 (f := .noat "Leap" "dx") rfl)
    rcases List.mem_cons.mp hC with e | hC
    · rw [e]; exact He.noat_ok (c.t.d.fact 72 (f := .noat "Ride" "dx") rfl)
    · rw [List.mem_singleton.mp hC]; exact He.noat_ok (c.t.d.fact 81 (f := .noat "Hop" "dx") rfl)
  have ny : ∀ C ∈ cs, NoAttr K C "dy" := fun C hC => by
    rcases List.mem_cons.mp hC with e | hC
    · rw [e]; exact He.noat_ok (c.t.d.fact 64 (f := .noat "Leap" "dy") rfl)
    rcases List.mem_cons.mp hC with e | hC
    · rw [e]; exact He.noat_ok (c.t.d.fact 73 (f := .noat "Ride" "dy") rfl)
    · rw [List.mem_singleton.mp hC]; exact He.noat_ok (c.t.d.fact 82 (f := .noat "Hop" "dy") rfl)
  have nm : ∀ C ∈ cs, NoAttr K C "most" := fun C hC => by
    rcases List.mem_cons.mp hC with e | hC
    · rw [e]; exact He.noat_ok (c.t.d.fact 65 (f := .noat "Leap" "most") rfl)
    rcases List.mem_cons.mp hC with e | hC
    · rw [e]; exact He.noat_ok (c.t.d.fact 74 (f := .noat "Ride" "most") rfl)
    · rw [List.mem_singleton.mp hC]; exact He.noat_ok (c.t.d.fact 83 (f := .noat "Hop" "most") rfl)
  have M : MovT K cs := ⟨cl, nx, ny, nm⟩
  obtain ⟨_, F_ahead⟩ := c.t.d.def_ 66 (d := d_66) rfl
  have e_Ride_ahead : He.ma K (He.ga K "Leap") "ahead" = He.ma K (He.ga K "Ride") "ahead" := of_decide_eq_true (c.x 0 (e := fun K => decide (He.ma K (He.ga K "Leap") "ahead" = He.ma K (He.ga K "Ride") "ahead")) rfl)
  have e_Hop_ahead : He.ma K (He.ga K "Leap") "ahead" = He.ma K (He.ga K "Hop") "ahead" := of_decide_eq_true (c.x 1 (e := fun K => decide (He.ma K (He.ga K "Leap") "ahead" = He.ma K (He.ga K "Hop") "ahead")) rfl)
  have m_ahead : ∀ C ∈ cs, Meth K C "ahead" (He.ma K (He.ga K "Leap") "ahead") := fun C hC => by
    rcases List.mem_cons.mp hC with e | hC
    · rw [e]; exact He.meth_ok (c.t.d.fact 66 (f := .meth "Leap" "ahead") rfl)
    rcases List.mem_cons.mp hC with e | hC
    · rw [e, e_Ride_ahead]; exact He.meth_ok (c.t.d.fact 75 (f := .meth "Ride" "ahead") rfl)
    · rw [List.mem_singleton.mp hC, e_Hop_ahead]; exact He.meth_ok (c.t.d.fact 84 (f := .meth "Hop" "ahead") rfl)
  have C_ahead : MethD P w K mg base cs 2 "ahead" 3 (RB.m_ahead cs) := ⟨_, _, _, ok_ahead T M C_square_at F_ahead, m_ahead, (F_ahead.bindsN (ps := ["self", "board", "at"]) fun _ _ _ _ _ _ us hl => match us, hl with | [_, _, _], _ => rfl)⟩
  obtain ⟨_, F_goes_on⟩ := c.t.d.def_ 67 (d := d_67) rfl
  have e_Ride_goes_on : He.ma K (He.ga K "Leap") "goes_on" = He.ma K (He.ga K "Ride") "goes_on" := of_decide_eq_true (c.x 2 (e := fun K => decide (He.ma K (He.ga K "Leap") "goes_on" = He.ma K (He.ga K "Ride") "goes_on")) rfl)
  have e_Hop_goes_on : He.ma K (He.ga K "Leap") "goes_on" = He.ma K (He.ga K "Hop") "goes_on" := of_decide_eq_true (c.x 3 (e := fun K => decide (He.ma K (He.ga K "Leap") "goes_on" = He.ma K (He.ga K "Hop") "goes_on")) rfl)
  have m_goes_on : ∀ C ∈ cs, Meth K C "goes_on" (He.ma K (He.ga K "Leap") "goes_on") := fun C hC => by
    rcases List.mem_cons.mp hC with e | hC
    · rw [e]; exact He.meth_ok (c.t.d.fact 67 (f := .meth "Leap" "goes_on") rfl)
    rcases List.mem_cons.mp hC with e | hC
    · rw [e, e_Ride_goes_on]; exact He.meth_ok (c.t.d.fact 76 (f := .meth "Ride" "goes_on") rfl)
    · rw [List.mem_singleton.mp hC, e_Hop_goes_on]; exact He.meth_ok (c.t.d.fact 85 (f := .meth "Hop" "goes_on") rfl)
  have C_goes_on : MethD P w K mg base cs 1 "goes_on" 2 (RB.m_goes_on cs) := ⟨_, _, _, ok_goes_on T M F_goes_on, m_goes_on, (F_goes_on.bindsN (ps := ["self", "line"]) fun _ _ _ _ _ _ us hl => match us, hl with | [_, _], _ => rfl)⟩
  obtain ⟨_, I_Leap⟩ := c.t.d.def_ 60 (d := d_60) rfl
  have N_Leap : NewD P w K mg base cs "Leap" (He.ga K "Leap") := ⟨_, _, _, He.mkr_ok (c.t.d.fact 62 (f := .mkr "Leap") rfl), ok_init I_Leap M, (He.glo_ok X G (c.t.d.fact 60 (f := .glo "Leap") rfl)), binds_last (ps := ["self", "dx", "dy", "most"]) I_Leap (fun _ _ _ _ _ _ _ us its h1 h2 => match us, h1, its, h2 with | [_, _, _, _], _, [_], _ => ⟨_, rfl, rfl⟩)⟩
  obtain ⟨_, L_Leap⟩ := c.t.d.def_ 61 (d := d_61) rfl
  have O_Leap : LinesOf P w K mg base (He.ga K "Leap") (m_leap cs) := ⟨_, _, _, ok_leap T M C_ahead L_Leap, He.meth_ok (c.t.d.fact 68 (f := .meth "Leap" "lines") rfl), (L_Leap.bindsN (ps := ["self", "board", "full", "at"]) fun _ _ _ _ _ _ us hl => match us, hl with | [_, _, _, _], _ => rfl)⟩
  have hCL : He.ga K "Leap" ∈ cs := by simp [cs]
  obtain ⟨_, I_Ride⟩ := c.t.d.def_ 62 (d := d_62) rfl
  have N_Ride : NewD P w K mg base cs "Ride" (He.ga K "Ride") := ⟨_, _, _, He.mkr_ok (c.t.d.fact 71 (f := .mkr "Ride") rfl), ok_init I_Ride M, (He.glo_ok X G (c.t.d.fact 69 (f := .glo "Ride") rfl)), binds_last (ps := ["self", "dx", "dy", "most"]) I_Ride (fun _ _ _ _ _ _ _ us its h1 h2 => match us, h1, its, h2 with | [_, _, _, _], _, [_], _ => ⟨_, rfl, rfl⟩)⟩
  obtain ⟨_, L_Ride⟩ := c.t.d.def_ 63 (d := d_63) rfl
  have O_Ride : LinesOf P w K mg base (He.ga K "Ride") (m_ride cs) := ⟨_, _, _, ok_ride T M C_goes_on C_ahead L_Ride, He.meth_ok (c.t.d.fact 77 (f := .meth "Ride" "lines") rfl), (L_Ride.bindsN (ps := ["self", "board", "full", "at"]) fun _ _ _ _ _ _ us hl => match us, hl with | [_, _, _, _], _ => rfl)⟩
  have hCR : He.ga K "Ride" ∈ cs := by simp [cs]
  obtain ⟨_, I_Hop⟩ := c.t.d.def_ 64 (d := d_64) rfl
  have N_Hop : NewD P w K mg base cs "Hop" (He.ga K "Hop") := ⟨_, _, _, He.mkr_ok (c.t.d.fact 80 (f := .mkr "Hop") rfl), ok_init I_Hop M, (He.glo_ok X G (c.t.d.fact 78 (f := .glo "Hop") rfl)), binds_last (ps := ["self", "dx", "dy", "most"]) I_Hop (fun _ _ _ _ _ _ _ us its h1 h2 => match us, h1, its, h2 with | [_, _, _, _], _, [_], _ => ⟨_, rfl, rfl⟩)⟩
  obtain ⟨_, L_Hop⟩ := c.t.d.def_ 65 (d := d_65) rfl
  have O_Hop : LinesOf P w K mg base (He.ga K "Hop") (m_hop cs) := ⟨_, _, _, ok_hop T M C_goes_on C_ahead L_Hop, He.meth_ok (c.t.d.fact 86 (f := .meth "Hop" "lines") rfl), (L_Hop.bindsN (ps := ["self", "board", "full", "at"]) fun _ _ _ _ _ _ us hl => match us, hl with | [_, _, _, _], _ => rfl)⟩
  have hCH : He.ga K "Hop" ∈ cs := by simp [cs]
  obtain ⟨_, F_mover⟩ := c.t.d.def_ 59 (d := d_59) rfl
  have C_mover : CallD P w K mg base 3 "mover" 4 (m_mover (He.ga K "Leap") (He.ga K "Ride") (He.ga K "Hop")) := ⟨_, _, _, ok_mover T hCL hCR hCH N_Leap N_Ride N_Hop F_mover, (He.glo_ok X G (c.t.d.fact 59 (f := .glo "mover") rfl)), F_mover.kp, binds_last (ps := ["word", "dx", "dy", "most"]) F_mover (fun _ _ _ _ _ _ _ us its h1 h2 => match us, h1, its, h2 with | [_, _, _, _], _, [_], _ => ⟨_, rfl, rfl⟩)⟩
  exact ⟨by decide, cs, _, _, _, M, hCL, hCR, hCH, C_mover, O_Leap, O_Ride, O_Hop⟩
theorem lib_of (T : Txt K w mg) (X : K.In h) (G : h.Ns mainGlobals mg) (c : SaysN faL fnL tsL exL w K) (C_LINES : LinesD P w K mg base 4) : Lib P w K mg base := by
  obtain ⟨_, F_squares_of⟩ := c.t.d.def_ 0 (d := d_0) rfl
  have C_squares_of : CallD P w K mg base 1 "squares_of" 1 m_squares_of := ⟨_, _, _, ok_squares_of T  F_squares_of, (He.glo_ok X G (c.t.d.fact 0 (f := .glo "squares_of") rfl)), F_squares_of.kp, (F_squares_of.bindsN (ps := ["bits"]) fun _ _ _ _ _ _ us hl => match us, hl with | [_], _ => rfl)⟩
  obtain ⟨_, F_bits_of⟩ := c.t.d.def_ 1 (d := d_1) rfl
  have C_bits_of : CallD P w K mg base 1 "bits_of" 1 m_bits_of := ⟨_, _, _, ok_bits_of T  F_bits_of, (He.glo_ok X G (c.t.d.fact 1 (f := .glo "bits_of") rfl)), F_bits_of.kp, (F_bits_of.bindsN (ps := ["spots"]) fun _ _ _ _ _ _ us hl => match us, hl with | [_], _ => rfl)⟩
  have C_square_at : CallD P w K mg base 1 "square_at" 3 m_square_at := call_square_at T X G c
  obtain ⟨_, F_name_of⟩ := c.t.d.def_ 3 (d := d_3) rfl
  have C_name_of : CallD P w K mg base 1 "name_of" 2 m_name_of := ⟨_, _, _, ok_name_of T  F_name_of, (He.glo_ok X G (c.t.d.fact 3 (f := .glo "name_of") rfl)), F_name_of.kp, (F_name_of.bindsN (ps := ["board", "square"]) fun _ _ _ _ _ _ us hl => match us, hl with | [_, _], _ => rfl)⟩
  obtain ⟨_, F_steps⟩ := c.t.d.def_ 4 (d := d_4) rfl
  have C_steps : CallD P w K mg base 1 "steps" 2 m_steps := ⟨_, _, _, ok_steps T  F_steps, (He.glo_ok X G (c.t.d.fact 4 (f := .glo "steps") rfl)), F_steps.kp, (F_steps.bindsN (ps := ["way", "side"]) fun _ _ _ _ _ _ us hl => match us, hl with | [_, _], _ => rfl)⟩
  obtain ⟨_, F_is_ride_once⟩ := c.t.d.def_ 5 (d := d_5) rfl
  have C_is_ride_once : CallD P w K mg base 1 "is_ride_once" 1 m_is_ride_once := ⟨_, _, _, ok_is_ride_once T  F_is_ride_once, (He.glo_ok X G (c.t.d.fact 5 (f := .glo "is_ride_once") rfl)), F_is_ride_once.kp, (F_is_ride_once.bindsN (ps := ["way"]) fun _ _ _ _ _ _ us hl => match us, hl with | [_], _ => rfl)⟩
  obtain ⟨_, F_kind_of⟩ := c.t.d.def_ 6 (d := d_6) rfl
  have C_kind_of : CallD P w K mg base 1 "kind_of" 2 m_kind_of := ⟨_, _, _, ok_kind_of T  F_kind_of, (He.glo_ok X G (c.t.d.fact 6 (f := .glo "kind_of") rfl)), F_kind_of.kp, (F_kind_of.bindsN (ps := ["rules", "sign"]) fun _ _ _ _ _ _ us hl => match us, hl with | [_, _], _ => rfl)⟩
  obtain ⟨_, F_full⟩ := c.t.d.def_ 7 (d := d_7) rfl
  have C_full : CallD P w K mg base 2 "full" 1 m_full := ⟨_, _, _, ok_full T C_bits_of F_full, (He.glo_ok X G (c.t.d.fact 7 (f := .glo "full") rfl)), F_full.kp, (F_full.bindsN (ps := ["place"]) fun _ _ _ _ _ _ us hl => match us, hl with | [_], _ => rfl)⟩
  obtain ⟨_, F_pieces⟩ := c.t.d.def_ 8 (d := d_8) rfl
  have C_pieces : CallD P w K mg base 2 "pieces" 2 m_pieces := ⟨_, _, _, ok_pieces T C_bits_of F_pieces, (He.glo_ok X G (c.t.d.fact 8 (f := .glo "pieces") rfl)), F_pieces.kp, (F_pieces.bindsN (ps := ["place", "side"]) fun _ _ _ _ _ _ us hl => match us, hl with | [_, _], _ => rfl)⟩
  obtain ⟨_, F_reach⟩ := c.t.d.def_ 9 (d := d_9) rfl
  have C_reach : CallD P w K mg base 5 "reach" 3 m_reach := ⟨_, _, _, ok_reach T C_full C_kind_of C_steps C_LINES F_reach, (He.glo_ok X G (c.t.d.fact 9 (f := .glo "reach") rfl)), F_reach.kp, (F_reach.bindsN (ps := ["rules", "place", "at"]) fun _ _ _ _ _ _ us hl => match us, hl with | [_, _, _], _ => rfl)⟩
  obtain ⟨_, F_attacks⟩ := c.t.d.def_ 10 (d := d_10) rfl
  have C_attacks : CallD P w K mg base 6 "attacks" 4 m_attacks := ⟨_, _, _, ok_attacks T C_pieces C_squares_of C_reach F_attacks, (He.glo_ok X G (c.t.d.fact 10 (f := .glo "attacks") rfl)), F_attacks.kp, (F_attacks.bindsN (ps := ["rules", "place", "side", "square"]) fun _ _ _ _ _ _ us hl => match us, hl with | [_, _, _, _], _ => rfl)⟩
  obtain ⟨_, F_signs_of⟩ := c.t.d.def_ 11 (d := d_11) rfl
  have C_signs_of : CallD P w K mg base 1 "signs_of" 2 m_signs_of := ⟨_, _, _, ok_signs_of T  F_signs_of, (He.glo_ok X G (c.t.d.fact 11 (f := .glo "signs_of") rfl)), F_signs_of.kp, (F_signs_of.bindsN (ps := ["side", "letter"]) fun _ _ _ _ _ _ us hl => match us, hl with | [_, _], _ => rfl)⟩
  obtain ⟨_, F_letters_for⟩ := c.t.d.def_ 12 (d := d_12) rfl
  have C_letters_for : CallD P w K mg base 1 "letters_for" 4 m_letters_for := ⟨_, _, _, ok_letters_for T  F_letters_for, (He.glo_ok X G (c.t.d.fact 12 (f := .glo "letters_for") rfl)), F_letters_for.kp, (F_letters_for.bindsN (ps := ["rules", "kind", "side", "to"]) fun _ _ _ _ _ _ us hl => match us, hl with | [_, _, _, _], _ => rfl)⟩
  obtain ⟨_, F_words_for⟩ := c.t.d.def_ 13 (d := d_13) rfl
  have C_words_for : CallD P w K mg base 1 "words_for" 4 m_words_for := ⟨_, _, _, ok_words_for T  F_words_for, (He.glo_ok X G (c.t.d.fact 13 (f := .glo "words_for") rfl)), F_words_for.kp, (F_words_for.bindsN (ps := ["place", "kind", "line", "use"]) fun _ _ _ _ _ _ us hl => match us, hl with | [_, _, _, _], _ => rfl)⟩
  obtain ⟨_, F_partner⟩ := c.t.d.def_ 14 (d := d_14) rfl
  have C_partner : CallD P w K mg base 1 "partner" 4 m_partner := ⟨_, _, _, ok_partner T  F_partner, (He.glo_ok X G (c.t.d.fact 14 (f := .glo "partner") rfl)), F_partner.kp, (F_partner.bindsN (ps := ["rules", "place", "at", "way"]) fun _ _ _ _ _ _ us hl => match us, hl with | [_, _, _, _], _ => rfl)⟩
  obtain ⟨_, F_pair_fits⟩ := c.t.d.def_ 15 (d := d_15) rfl
  have C_pair_fits : CallD P w K mg base 7 "pair_fits" 4 m_pair_fits := ⟨_, _, _, ok_pair_fits T C_partner C_kind_of C_attacks F_pair_fits, (He.glo_ok X G (c.t.d.fact 15 (f := .glo "pair_fits") rfl)), F_pair_fits.kp, (F_pair_fits.bindsN (ps := ["rules", "place", "at", "way"]) fun _ _ _ _ _ _ us hl => match us, hl with | [_, _, _, _], _ => rfl)⟩
  obtain ⟨_, F_bare_from⟩ := c.t.d.def_ 16 (d := d_16) rfl
  have C_bare_from : CallD P w K mg base 8 "bare_from" 3 m_bare_from := ⟨_, _, _, ok_bare_from T C_kind_of C_reach C_words_for C_letters_for C_pair_fits F_bare_from, (He.glo_ok X G (c.t.d.fact 16 (f := .glo "bare_from") rfl)), F_bare_from.kp, (F_bare_from.bindsN (ps := ["rules", "place", "at"]) fun _ _ _ _ _ _ us hl => match us, hl with | [_, _, _], _ => rfl)⟩
  obtain ⟨_, F_bare⟩ := c.t.d.def_ 17 (d := d_17) rfl
  have C_bare : CallD P w K mg base 9 "bare" 2 m_bare := ⟨_, _, _, ok_bare T C_pieces C_squares_of C_bare_from F_bare, (He.glo_ok X G (c.t.d.fact 17 (f := .glo "bare") rfl)), F_bare.kp, (F_bare.bindsN (ps := ["rules", "place"]) fun _ _ _ _ _ _ us hl => match us, hl with | [_, _], _ => rfl)⟩
  obtain ⟨_, F_with_sign⟩ := c.t.d.def_ 18 (d := d_18) rfl
  have C_with_sign : CallD P w K mg base 1 "with_sign" 3 m_with_sign := ⟨_, _, _, ok_with_sign T  F_with_sign, (He.glo_ok X G (c.t.d.fact 18 (f := .glo "with_sign") rfl)), F_with_sign.kp, (F_with_sign.bindsN (ps := ["cells", "square", "sign"]) fun _ _ _ _ _ _ us hl => match us, hl with | [_, _, _], _ => rfl)⟩
  obtain ⟨_, F_left_behind⟩ := c.t.d.def_ 19 (d := d_19) rfl
  have C_left_behind : CallD P w K mg base 2 "left_behind" 3 m_left_behind := ⟨_, _, _, ok_left_behind T C_kind_of C_steps C_is_ride_once F_left_behind, (He.glo_ok X G (c.t.d.fact 19 (f := .glo "left_behind") rfl)), F_left_behind.kp, (F_left_behind.bindsN (ps := ["rules", "place", "move"]) fun _ _ _ _ _ _ us hl => match us, hl with | [_, _, _], _ => rfl)⟩
  obtain ⟨_, F_after⟩ := c.t.d.def_ 20 (d := d_20) rfl
  have C_after : CallD P w K mg base 3 "after" 3 m_after := ⟨_, _, _, ok_after T C_with_sign C_partner C_signs_of C_left_behind F_after, (He.glo_ok X G (c.t.d.fact 20 (f := .glo "after") rfl)), F_after.kp, (F_after.bindsN (ps := ["rules", "place", "move"]) fun _ _ _ _ _ _ us hl => match us, hl with | [_, _, _], _ => rfl)⟩
  obtain ⟨_, F_is_safe⟩ := c.t.d.def_ 21 (d := d_21) rfl
  have C_is_safe : CallD P w K mg base 7 "is_safe" 3 m_is_safe := ⟨_, _, _, ok_is_safe T C_pieces C_squares_of C_attacks C_kind_of F_is_safe, (He.glo_ok X G (c.t.d.fact 21 (f := .glo "is_safe") rfl)), F_is_safe.kp, (F_is_safe.bindsN (ps := ["rules", "place", "side"]) fun _ _ _ _ _ _ us hl => match us, hl with | [_, _, _], _ => rfl)⟩
  obtain ⟨_, F_moves⟩ := c.t.d.def_ 22 (d := d_22) rfl
  have C_moves : CallD P w K mg base 10 "moves" 2 m_moves := ⟨_, _, _, ok_moves T C_bare C_after C_is_safe F_moves, (He.glo_ok X G (c.t.d.fact 22 (f := .glo "moves") rfl)), F_moves.kp, (F_moves.bindsN (ps := ["rules", "place"]) fun _ _ _ _ _ _ us hl => match us, hl with | [_, _], _ => rfl)⟩
  obtain ⟨_, F_forms⟩ := c.t.d.def_ 23 (d := d_23) rfl
  have C_forms : CallD P w K mg base 2 "forms" 3 m_forms := ⟨_, _, _, ok_forms T C_name_of F_forms, (He.glo_ok X G (c.t.d.fact 23 (f := .glo "forms") rfl)), F_forms.kp, (F_forms.bindsN (ps := ["rules", "place", "move"]) fun _ _ _ _ _ _ us hl => match us, hl with | [_, _, _], _ => rfl)⟩
  obtain ⟨_, F_all_forms⟩ := c.t.d.def_ 24 (d := d_24) rfl
  have C_all_forms : CallD P w K mg base 11 "all_forms" 2 m_all_forms := ⟨_, _, _, ok_all_forms T C_moves C_forms F_all_forms, (He.glo_ok X G (c.t.d.fact 24 (f := .glo "all_forms") rfl)), F_all_forms.kp, (F_all_forms.bindsN (ps := ["rules", "place"]) fun _ _ _ _ _ _ us hl => match us, hl with | [_, _], _ => rfl)⟩
  obtain ⟨_, F_told_by⟩ := c.t.d.def_ 25 (d := d_25) rfl
  have C_told_by : CallD P w K mg base 1 "told_by" 2 m_told_by := ⟨_, _, _, ok_told_by T  F_told_by, (He.glo_ok X G (c.t.d.fact 25 (f := .glo "told_by") rfl)), F_told_by.kp, (F_told_by.bindsN (ps := ["listed", "thing"]) fun _ _ _ _ _ _ us hl => match us, hl with | [_, _], _ => rfl)⟩
  obtain ⟨_, F_short⟩ := c.t.d.def_ 26 (d := d_26) rfl
  have C_short : CallD P w K mg base 12 "short" 3 m_short := ⟨_, _, _, ok_short T C_all_forms C_forms C_told_by F_short, (He.glo_ok X G (c.t.d.fact 26 (f := .glo "short") rfl)), F_short.kp, (F_short.bindsN (ps := ["rules", "place", "move"]) fun _ _ _ _ _ _ us hl => match us, hl with | [_, _, _], _ => rfl)⟩
  obtain ⟨_, F_read_short⟩ := c.t.d.def_ 27 (d := d_27) rfl
  have C_read_short : CallD P w K mg base 12 "read_short" 3 m_read_short := ⟨_, _, _, ok_read_short T C_all_forms C_told_by F_read_short, (He.glo_ok X G (c.t.d.fact 27 (f := .glo "read_short") rfl)), F_read_short.kp, (F_read_short.bindsN (ps := ["rules", "place", "thing"]) fun _ _ _ _ _ _ us hl => match us, hl with | [_, _, _], _ => rfl)⟩
  obtain ⟨_, F_royals⟩ := c.t.d.def_ 28 (d := d_28) rfl
  have C_royals : CallD P w K mg base 3 "royals" 3 m_royals := ⟨_, _, _, ok_royals T C_pieces C_squares_of C_kind_of F_royals, (He.glo_ok X G (c.t.d.fact 28 (f := .glo "royals") rfl)), F_royals.kp, (F_royals.bindsN (ps := ["rules", "place", "side"]) fun _ _ _ _ _ _ us hl => match us, hl with | [_, _, _], _ => rfl)⟩
  obtain ⟨_, F_attacks_on⟩ := c.t.d.def_ 29 (d := d_29) rfl
  have C_attacks_on : CallD P w K mg base 7 "attacks_on" 3 m_attacks_on := ⟨_, _, _, ok_attacks_on T C_royals C_attacks F_attacks_on, (He.glo_ok X G (c.t.d.fact 29 (f := .glo "attacks_on") rfl)), F_attacks_on.kp, (F_attacks_on.bindsN (ps := ["rules", "place", "side"]) fun _ _ _ _ _ _ us hl => match us, hl with | [_, _, _], _ => rfl)⟩
  obtain ⟨_, F_verdict⟩ := c.t.d.def_ 30 (d := d_30) rfl
  have C_verdict : CallD P w K mg base 11 "verdict" 2 m_verdict := ⟨_, _, _, ok_verdict T C_moves C_bare C_after C_attacks_on F_verdict, (He.glo_ok X G (c.t.d.fact 30 (f := .glo "verdict") rfl)), F_verdict.kp, (F_verdict.bindsN (ps := ["rules", "place"]) fun _ _ _ _ _ _ us hl => match us, hl with | [_, _], _ => rfl)⟩
  obtain ⟨_, F__law_cell⟩ := c.t.d.def_ 31 (d := d_31) rfl
  have C__law_cell : CallD P w K mg base 1 "_law_cell" 2 m__law_cell := ⟨_, _, _, ok__law_cell T  F__law_cell, (He.glo_ok X G (c.t.d.fact 31 (f := .glo "_law_cell") rfl)), F__law_cell.kp, (F__law_cell.bindsN (ps := ["_law_script", "_law_k"]) fun _ _ _ _ _ _ us hl => match us, hl with | [_, _], _ => rfl)⟩
  obtain ⟨_, F__law_mixed⟩ := c.t.d.def_ 32 (d := d_32) rfl
  have C__law_mixed : CallD P w K mg base 1 "_law_mixed" 2 m__law_mixed := ⟨_, _, _, ok__law_mixed T  F__law_mixed, (He.glo_ok X G (c.t.d.fact 32 (f := .glo "_law_mixed") rfl)), F__law_mixed.kp, (F__law_mixed.bindsN (ps := ["_law_cell_here", "_law_k"]) fun _ _ _ _ _ _ us hl => match us, hl with | [_, _], _ => rfl)⟩
  obtain ⟨_, F__law_board⟩ := c.t.d.def_ 33 (d := d_33) rfl
  have C__law_board : CallD P w K mg base 2 "_law_board" 1 m__law_board := ⟨_, _, _, ok__law_board T C__law_mixed F__law_board, (He.glo_ok X G (c.t.d.fact 33 (f := .glo "_law_board") rfl)), F__law_board.kp, (F__law_board.bindsN (ps := ["_law_cell_here"]) fun _ _ _ _ _ _ us hl => match us, hl with | [_], _ => rfl)⟩
  obtain ⟨_, F__law_way⟩ := c.t.d.def_ 34 (d := d_34) rfl
  have C__law_way : CallD P w K mg base 1 "_law_way" 1 m__law_way := ⟨_, _, _, ok__law_way T  F__law_way, (He.glo_ok X G (c.t.d.fact 34 (f := .glo "_law_way") rfl)), F__law_way.kp, (F__law_way.bindsN (ps := ["_law_number"]) fun _ _ _ _ _ _ us hl => match us, hl with | [_], _ => rfl)⟩
  obtain ⟨_, F__law_strong⟩ := c.t.d.def_ 35 (d := d_35) rfl
  have C__law_strong : CallD P w K mg base 1 "_law_strong" 2 m__law_strong := ⟨_, _, _, ok__law_strong T  F__law_strong, (He.glo_ok X G (c.t.d.fact 35 (f := .glo "_law_strong") rfl)), F__law_strong.kp, (F__law_strong.bindsN (ps := ["_law_k", "_law_number"]) fun _ _ _ _ _ _ us hl => match us, hl with | [_, _], _ => rfl)⟩
  obtain ⟨_, F__law_kind⟩ := c.t.d.def_ 36 (d := d_36) rfl
  have C__law_kind : CallD P w K mg base 2 "_law_kind" 5 m__law_kind := ⟨_, _, _, ok__law_kind T C__law_mixed C__law_way C__law_strong F__law_kind, (He.glo_ok X G (c.t.d.fact 36 (f := .glo "_law_kind") rfl)), F__law_kind.kp, (F__law_kind.bindsN (ps := ["_law_k", "_law_cell_here", "_law_letters", "_law_high", "_law_strong_here"]) fun _ _ _ _ _ _ us hl => match us, hl with | [_, _, _, _, _], _ => rfl)⟩
  obtain ⟨_, F__law_rules⟩ := c.t.d.def_ 37 (d := d_37) rfl
  have C__law_rules : CallD P w K mg base 3 "_law_rules" 1 m__law_rules := ⟨_, _, _, ok__law_rules T C__law_cell C__law_board C__law_mixed C__law_kind F__law_rules, (He.glo_ok X G (c.t.d.fact 37 (f := .glo "_law_rules") rfl)), F__law_rules.kp, (F__law_rules.bindsN (ps := ["_law_script"]) fun _ _ _ _ _ _ us hl => match us, hl with | [_], _ => rfl)⟩
  obtain ⟨_, F__law_cells⟩ := c.t.d.def_ 38 (d := d_38) rfl
  have C__law_cells : CallD P w K mg base 2 "_law_cells" 3 m__law_cells := ⟨_, _, _, ok__law_cells T C__law_cell C__law_mixed F__law_cells, (He.glo_ok X G (c.t.d.fact 38 (f := .glo "_law_cells") rfl)), F__law_cells.kp, (F__law_cells.bindsN (ps := ["_law_script", "_law_start", "_law_rules_here"]) fun _ _ _ _ _ _ us hl => match us, hl with | [_, _, _], _ => rfl)⟩
  obtain ⟨_, F__law_may⟩ := c.t.d.def_ 39 (d := d_39) rfl
  have C__law_may : CallD P w K mg base 1 "_law_may" 2 m__law_may := ⟨_, _, _, ok__law_may T  F__law_may, (He.glo_ok X G (c.t.d.fact 39 (f := .glo "_law_may") rfl)), F__law_may.kp, (F__law_may.bindsN (ps := ["_law_rules_here", "_law_sign"]) fun _ _ _ _ _ _ us hl => match us, hl with | [_, _], _ => rfl)⟩
  obtain ⟨_, F__law_steps⟩ := c.t.d.def_ 40 (d := d_40) rfl
  have C__law_steps : CallD P w K mg base 1 "_law_steps" 2 m__law_steps := ⟨_, _, _, ok__law_steps T  F__law_steps, (He.glo_ok X G (c.t.d.fact 40 (f := .glo "_law_steps") rfl)), F__law_steps.kp, (F__law_steps.bindsN (ps := ["_law_way_here", "_law_side"]) fun _ _ _ _ _ _ us hl => match us, hl with | [_, _], _ => rfl)⟩
  obtain ⟨_, F__law_spot⟩ := c.t.d.def_ 41 (d := d_41) rfl
  have C__law_spot : CallD P w K mg base 1 "_law_spot" 3 m__law_spot := ⟨_, _, _, ok__law_spot T  F__law_spot, (He.glo_ok X G (c.t.d.fact 41 (f := .glo "_law_spot") rfl)), F__law_spot.kp, (F__law_spot.bindsN (ps := ["_law_rules_here", "_law_column", "_law_row"]) fun _ _ _ _ _ _ us hl => match us, hl with | [_, _, _], _ => rfl)⟩
  obtain ⟨_, F__law_over_by⟩ := c.t.d.def_ 42 (d := d_42) rfl
  have C__law_over_by : CallD P w K mg base 2 "_law_over_by" 5 m__law_over_by := ⟨_, _, _, ok__law_over_by T C__law_steps C__law_spot F__law_over_by, (He.glo_ok X G (c.t.d.fact 42 (f := .glo "_law_over_by") rfl)), F__law_over_by.kp, (F__law_over_by.bindsN (ps := ["_law_rules_here", "_law_cells_here", "_law_between", "_law_at", "_law_side"]) fun _ _ _ _ _ _ us hl => match us, hl with | [_, _, _, _, _], _ => rfl)⟩
  obtain ⟨_, F__law_own⟩ := c.t.d.def_ 43 (d := d_43) rfl
  have C__law_own : CallD P w K mg base 1 "_law_own" 2 m__law_own := ⟨_, _, _, ok__law_own T  F__law_own, (He.glo_ok X G (c.t.d.fact 43 (f := .glo "_law_own") rfl)), F__law_own.kp, (F__law_own.bindsN (ps := ["_law_cells_here", "_law_side"]) fun _ _ _ _ _ _ us hl => match us, hl with | [_, _], _ => rfl)⟩
  obtain ⟨_, F__law_over⟩ := c.t.d.def_ 44 (d := d_44) rfl
  have C__law_over : CallD P w K mg base 3 "_law_over" 4 m__law_over := ⟨_, _, _, ok__law_over T C__law_own C__law_over_by F__law_over, (He.glo_ok X G (c.t.d.fact 44 (f := .glo "_law_over") rfl)), F__law_over.kp, (F__law_over.bindsN (ps := ["_law_rules_here", "_law_cells_here", "_law_side", "_law_fresh"]) fun _ _ _ _ _ _ us hl => match us, hl with | [_, _, _, _], _ => rfl)⟩
  obtain ⟨_, F__law_royals⟩ := c.t.d.def_ 45 (d := d_45) rfl
  have C__law_royals : CallD P w K mg base 2 "_law_royals" 3 m__law_royals := ⟨_, _, _, ok__law_royals T C__law_own F__law_royals, (He.glo_ok X G (c.t.d.fact 45 (f := .glo "_law_royals") rfl)), F__law_royals.kp, (F__law_royals.bindsN (ps := ["_law_rules_here", "_law_cells_here", "_law_side"]) fun _ _ _ _ _ _ us hl => match us, hl with | [_, _, _], _ => rfl)⟩
  obtain ⟨_, F__law_place⟩ := c.t.d.def_ 46 (d := d_46) rfl
  have C__law_place : CallD P w K mg base 4 "_law_place" 3 m__law_place := ⟨_, _, _, ok__law_place T C__law_cells C__law_cell C__law_own C__law_royals C__law_mixed C__law_may C__law_over F__law_place, (He.glo_ok X G (c.t.d.fact 46 (f := .glo "_law_place") rfl)), F__law_place.kp, (F__law_place.bindsN (ps := ["_law_script", "_law_start", "_law_rules_here"]) fun _ _ _ _ _ _ us hl => match us, hl with | [_, _, _], _ => rfl)⟩
  obtain ⟨_, F__law_forms⟩ := c.t.d.def_ 47 (d := d_47) rfl
  have C__law_forms : CallD P w K mg base 1 "_law_forms" 3 m__law_forms := ⟨_, _, _, ok__law_forms T  F__law_forms, (He.glo_ok X G (c.t.d.fact 47 (f := .glo "_law_forms") rfl)), F__law_forms.kp, (F__law_forms.bindsN (ps := ["_law_rules_here", "_law_place_here", "_law_move"]) fun _ _ _ _ _ _ us hl => match us, hl with | [_, _, _], _ => rfl)⟩
  obtain ⟨_, F__law_listed⟩ := c.t.d.def_ 48 (d := d_48) rfl
  have C__law_listed : CallD P w K mg base 11 "_law_listed" 2 m__law_listed := ⟨_, _, _, ok__law_listed T C_moves C__law_forms F__law_listed, (He.glo_ok X G (c.t.d.fact 48 (f := .glo "_law_listed") rfl)), F__law_listed.kp, (F__law_listed.bindsN (ps := ["_law_rules_here", "_law_place_here"]) fun _ _ _ _ _ _ us hl => match us, hl with | [_, _], _ => rfl)⟩
  obtain ⟨_, F__law_alone⟩ := c.t.d.def_ 49 (d := d_49) rfl
  have C__law_alone : CallD P w K mg base 1 "_law_alone" 2 m__law_alone := ⟨_, _, _, ok__law_alone T  F__law_alone, (He.glo_ok X G (c.t.d.fact 49 (f := .glo "_law_alone") rfl)), F__law_alone.kp, (F__law_alone.bindsN (ps := ["_law_listed_here", "_law_text_here"]) fun _ _ _ _ _ _ us hl => match us, hl with | [_, _], _ => rfl)⟩
  obtain ⟨_, F__law_short⟩ := c.t.d.def_ 50 (d := d_50) rfl
  have C__law_short : CallD P w K mg base 2 "_law_short" 2 m__law_short := ⟨_, _, _, ok__law_short T C__law_alone F__law_short, (He.glo_ok X G (c.t.d.fact 50 (f := .glo "_law_short") rfl)), F__law_short.kp, (F__law_short.bindsN (ps := ["_law_listed_here", "_law_at"]) fun _ _ _ _ _ _ us hl => match us, hl with | [_, _], _ => rfl)⟩
  obtain ⟨_, F__law_mine⟩ := c.t.d.def_ 51 (d := d_51) rfl
  have C__law_mine : CallD P w K mg base 2 "_law_mine" 2 m__law_mine := ⟨_, _, _, ok__law_mine T C__law_own F__law_mine, (He.glo_ok X G (c.t.d.fact 51 (f := .glo "_law_mine") rfl)), F__law_mine.kp, (F__law_mine.bindsN (ps := ["_law_cells_here", "_law_side"]) fun _ _ _ _ _ _ us hl => match us, hl with | [_, _], _ => rfl)⟩
  obtain ⟨_, F__law_chosen⟩ := c.t.d.def_ 52 (d := d_52) rfl
  have C__law_chosen : CallD P w K mg base 4 "_law_chosen" 4 m__law_chosen := ⟨_, _, _, ok__law_chosen T C_after C__law_mine F__law_chosen, (He.glo_ok X G (c.t.d.fact 52 (f := .glo "_law_chosen") rfl)), F__law_chosen.kp, (F__law_chosen.bindsN (ps := ["_law_rules_here", "_law_kept", "_law_listed_here", "_law_cell_here"]) fun _ _ _ _ _ _ us hl => match us, hl with | [_, _, _, _], _ => rfl)⟩
  exact ⟨C_squares_of, C_bits_of, C_square_at, C_name_of, C_steps, C_is_ride_once, C_kind_of, C_full, C_pieces, C_reach, C_attacks, C_signs_of, C_letters_for, C_words_for, C_partner, C_pair_fits, C_bare_from, C_bare, C_with_sign, C_left_behind, C_after, C_is_safe, C_moves, C_forms, C_all_forms, C_told_by, C_short, C_read_short, C_royals, C_attacks_on, C_verdict, C__law_cell, C__law_mixed, C__law_board, C__law_way, C__law_strong, C__law_kind, C__law_rules, C__law_cells, C__law_may, C__law_steps, C__law_spot, C__law_over_by, C__law_own, C__law_over, C__law_royals, C__law_place, C__law_forms, C__law_listed, C__law_alone, C__law_short, C__law_mine, C__law_chosen⟩
theorem games_of (T : Txt K w mg) (X : K.In h) (G : h.Ns mainGlobals mg) (c : SaysN faL fnL tsL exL w K) (L : Lib P w K mg base) : GFn P w K mg base (He.ga K "Game") := by
  have A : GameT K (He.ga K "Game") := ⟨He.cls_ok (c.t.d.fact 94 (f := .cls "Game") rfl), He.noat_ok (c.t.d.fact 96 (f := .noat "Game" "rules") rfl), He.noat_ok (c.t.d.fact 97 (f := .noat "Game" "kept") rfl), He.noat_ok (c.t.d.fact 98 (f := .noat "Game" "played") rfl)⟩
  obtain ⟨_, Finit⟩ := c.t.d.def_ 68 (d := d_68) rfl
  obtain ⟨_, Fplace⟩ := c.t.d.def_ 69 (d := d_69) rfl
  obtain ⟨_, Ftexts⟩ := c.t.d.def_ 70 (d := d_70) rfl
  obtain ⟨_, Fended⟩ := c.t.d.def_ 71 (d := d_71) rfl
  obtain ⟨_, Fresult⟩ := c.t.d.def_ 72 (d := d_72) rfl
  obtain ⟨_, Fplay⟩ := c.t.d.def_ 73 (d := d_73) rfl
  obtain ⟨_, Fback⟩ := c.t.d.def_ 74 (d := d_74) rfl
  have Mplace : GMeth P w K mg base (He.ga K "Game") 1 "place" 0 (mg_place (He.ga K "Game")) := ⟨_, _, _, okg_place T A Fplace, He.meth_ok (c.t.d.fact 87 (f := .meth "Game" "place") rfl), (Fplace.bindsN (ps := ["self"]) fun _ _ _ _ _ _ us hl => match us, hl with | [_], _ => rfl)⟩
  have Mtexts : GMeth P w K mg base (He.ga K "Game") 1 "texts" 0 (mg_texts (He.ga K "Game")) := ⟨_, _, _, okg_texts T A Ftexts, He.meth_ok (c.t.d.fact 88 (f := .meth "Game" "texts") rfl), (Ftexts.bindsN (ps := ["self"]) fun _ _ _ _ _ _ us hl => match us, hl with | [_], _ => rfl)⟩
  have Mended : GMeth P w K mg base (He.ga K "Game") 12 "ended" 0 (mg_ended (He.ga K "Game")) := ⟨_, _, _, okg_ended T A L.f_verdict Fended, He.meth_ok (c.t.d.fact 89 (f := .meth "Game" "ended") rfl), (Fended.bindsN (ps := ["self"]) fun _ _ _ _ _ _ us hl => match us, hl with | [_], _ => rfl)⟩
  have Mresult : GMeth P w K mg base (He.ga K "Game") 13 "result" 0 (mg_result (He.ga K "Game")) := ⟨_, _, _, okg_result T A Mended Fresult, He.meth_ok (c.t.d.fact 90 (f := .meth "Game" "result") rfl), (Fresult.bindsN (ps := ["self"]) fun _ _ _ _ _ _ us hl => match us, hl with | [_], _ => rfl)⟩
  have Mplay : GDo P w K mg base (He.ga K "Game") 14 "play" (spPlay (He.ga K "Game")) := ⟨_, _, _, ok_play T A Mended (L.f_read_short.mono (by decide)) (L.f_short.mono (by decide)) (L.f_after.mono (by decide)) Fplay, He.meth_ok (c.t.d.fact 91 (f := .meth "Game" "play") rfl), (Fplay.bindsN (ps := ["self", "thing"]) fun _ _ _ _ _ _ us hl => match us, hl with | [_, _], _ => rfl)⟩
  have Mback : GDo P w K mg base (He.ga K "Game") 1 "back" (spBack (He.ga K "Game")) := ⟨_, _, _, ok_back T A Fback, He.meth_ok (c.t.d.fact 92 (f := .meth "Game" "back") rfl), (Fback.bindsN (ps := ["self"]) fun _ _ _ _ _ _ us hl => match us, hl with | [_], _ => rfl)⟩
  exact ⟨A, Mplace, Mtexts, Mended, Mresult, Mplay, Mback, ⟨_, _, _, He.mkr_ok (c.t.d.fact 95 (f := .mkr "Game") rfl), ok_ginit A Finit, (He.glo_ok X G (c.t.d.fact 93 (f := .glo "Game") rfl)), (Finit.bindsN (ps := ["self", "rules", "place"]) fun _ _ _ _ _ _ us hl => match us, hl with | [_, _, _], _ => rfl)⟩⟩
theorem law_of (X : K.In h) (G : h.Ns mainGlobals mg) (c : SaysN faL fnL tsL exL w K) {f : Addr} {fd : FuncData} (F : FnP K "law" s_law f fd) : FnOk P w K mg base CX0 17 f fd ["_law_script"] spLaw := by
  have T := txt_of X G c
  have L : Lib P w K mg base := lib_of T X G c (lines_of T X G c)
  have A := games_of T X G c L
  obtain ⟨_, F_read_game⟩ := c.t.d.def_ 53 (d := d_53) rfl
  have C_read_game : FDo P w K mg base 15 "read_game" (spRead (He.ga K "Game")) := ⟨_, _, _, ok_rgame T A F_read_game, (He.glo_ok X G (c.t.d.fact 53 (f := .glo "read_game") rfl)), F_read_game.kp, (F_read_game.bindsN (ps := ["rules", "place", "text"]) fun _ _ _ _ _ _ us hl => match us, hl with | [_, _, _], _ => rfl)⟩
  obtain ⟨_, F__law_places⟩ := c.t.d.def_ 54 (d := d_54) rfl
  have C__law_places : FDo P w K mg base 15 "_law_places" (spPlaces (He.ga K "Game")) := ⟨_, _, _, ok_lplaces T A F__law_places, (He.glo_ok X G (c.t.d.fact 54 (f := .glo "_law_places") rfl)), F__law_places.kp, (F__law_places.bindsN (ps := ["_law_rules_here", "_law_place_here", "_law_texts"]) fun _ _ _ _ _ _ us hl => match us, hl with | [_, _, _], _ => rfl)⟩
  obtain ⟨_, F__law_as_anew⟩ := c.t.d.def_ 55 (d := d_55) rfl
  have C__law_as_anew : FDo P w K mg base 16 "_law_as_anew" (spAnew (He.ga K "Game")) := ⟨_, _, _, ok__law_as_anew T A C__law_places C_read_game F__law_as_anew, (He.glo_ok X G (c.t.d.fact 55 (f := .glo "_law_as_anew") rfl)), F__law_as_anew.kp, (F__law_as_anew.bindsN (ps := ["_law_rules_here", "_law_place_here", "_law_game"]) fun _ _ _ _ _ _ us hl => match us, hl with | [_, _, _], _ => rfl)⟩
  obtain ⟨_, F__law_there_and_back⟩ := c.t.d.def_ 56 (d := d_56) rfl
  have C__law_there_and_back : FDo P w K mg base 15 "_law_there_and_back" (spTB (He.ga K "Game")) := ⟨_, _, _, ok__law_tb T A L.f_moves L.f_short L.f_after F__law_there_and_back, (He.glo_ok X G (c.t.d.fact 56 (f := .glo "_law_there_and_back") rfl)), F__law_there_and_back.kp, (F__law_there_and_back.bindsN (ps := ["_law_rules_here", "_law_game"]) fun _ _ _ _ _ _ us hl => match us, hl with | [_, _], _ => rfl)⟩
  obtain ⟨_, F__law_deed⟩ := c.t.d.def_ 57 (d := d_57) rfl
  have C__law_deed : FDo P w K mg base 15 "_law_deed" (spDeed (He.ga K "Game")) := ⟨_, _, _, ok__law_deed T A L.f__law_listed L.f__law_chosen L.f__law_short L.f_after F__law_deed, (He.glo_ok X G (c.t.d.fact 57 (f := .glo "_law_deed") rfl)), F__law_deed.kp, (F__law_deed.bindsN (ps := ["_law_rules_here", "_law_game", "_law_kept", "_law_cell_here"]) fun _ _ _ _ _ _ us hl => match us, hl with | [_, _, _, _], _ => rfl)⟩
  exact ok_law T A L.f__law_cell L.f__law_rules L.f__law_place C__law_deed C__law_there_and_back C__law_as_anew F
theorem facts (X : K.In h) (G : h.Ns mainGlobals mg) {f : Addr} (hf : mg ("law" : Str) = some (.ref f)) (c : SaysN faL fnL tsL exL w K) :
    ∃ fd : FuncData, (∀ (s : Shared) (v : Value), BindsTo s fd ⟨[v], []⟩ [("_law_script", v)]) ∧ ∀ base : Heap, K.In base → base.Ns mainGlobals mg → FnOk P w K mg base CX0 17 f fd ["_law_script"] spLaw := by
  obtain ⟨fd, F⟩ := c.t.d.def_ 58 (d := d_58) rfl
  have e := hf.symm.trans (He.glo_ok X G (c.t.d.fact 58 (f := .glo "law") rfl))
  cases e
  have b := FunD.bindsA (ps := ["_law_script"]) F fun _ _ _ _ _ _ us hl => match us, hl with | [_], _ => rfl
  exact ⟨fd, fun s v => b s [v] rfl, fun base _ _ => law_of X G c F⟩
end
end
end RB
set_option Elab.async false
set_option linter.all false
set_option maxRecDepth 100000
set_option maxHeartbeats 0
/-! PF2: the law holds. -/
open PySem PySem.W PySem.Calls PyProof.Rows
theorem PySem.Challenge.cw_riderboard_k48_whole_games_anew_holds : PySem.Challenge.rw_riderboard_k48_whole_games_anew.Holds := by
  w_on; o_law
  refine HandSHeadRun.head_any (r := RB.rowL) (q := RB.qv) (H := RB.hk) (ob := RB.obL) (M := 6000) (loose := RB.names) (d := HandSHeadRun.topDef RB.rowL.prog 89) (kwd := []) RB.obL_eq
    (by kernel_rfl) (fun s => by kernel_rfl) RB.run (by kernel_rfl) (by kernel_rfl) (by kernel_rfl) (by rfl) (by first | assumption | decide +kernel) (by decide +kernel) ⟨rfl, rfl, rfl, rfl, rfl, by decide +kernel⟩ ?hw ?hc
  case hw => w_witness2
  case hc =>
    refine RB.walk_N (l := PySem.Challenge.rw_riderboard_k48_whole_games_anew) (n := 63) (k := 17) (x := "_law_script") rfl (by decide) (by kernel_rfl) ⟨rfl, by decide, by decide⟩ ?F
    intro w mg fa h Y G hmg0
    obtain ⟨K, KX, no, c⟩ := Y
    have hmg : mg ("law" : PySem.Str) = some (.ref fa) := by
      have e : (HandSHeadRun.topDef RB.rowL.prog 89).name = ("law" : PySem.Str) := by kernel_rfl
      rw [← e]
      exact hmg0
    obtain ⟨fd, hb, hF⟩ := RB.facts (P := (PySem.Challenge.rw_riderboard_k48_whole_games_anew).prog) (w := w) KX G hmg c
    exact ⟨K, fd, RB.spLaw, KX, hb, fun H a ns hl hbits hS => ⟨a, ns, rfl, RB.rd_script no hS, RB.scr_ok hl hbits, fun _ => rfl⟩, hF⟩
