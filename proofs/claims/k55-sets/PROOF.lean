import PyProof.Rows.All
import Wide.All
import OpenK.AllK
import Wide.FinOn
import HandS.ForMost
import HandS.TupAny
import HandS.Walk
import HandS.Zip
import HandS.SortKw
import KE.SortKeyHeap
import HandS.Style
import PySem.Challenge.RW_streamsure_k55_whole_sets
set_option Elab.async false
set_option maxRecDepth 100000
set_option maxHeartbeats 4000000
set_option linter.all false
/-! Readings over plain data: data D, what represents them, frames with owned lists. -/
namespace Y
open PySem L2
/-- plain data -/
inductive D where
  | non | bl (b : Bool) | int (i : Int) | str (s : Str)
  | tup (xs : List D) | lst (xs : List D) | dct (kvs : List (Key × D)) | ins (C : Addr) (fs : List (Str × D))
mutual
/-- v represents d in the heap H -/
def R (K : PySem.W.Frag) (H : Hp) : D → V → Prop
  | .non, v => v = .non
  | .bl b, v => v = .bl b
  | .int i, v => v = .int i
  | .str s, v => v = .str s
  | .tup ds, v => ∃ a vs, v = .ref a ∧ SqT K H a vs ∧ RL K H ds vs
  | .lst ds, v => ∃ a vs, v = .ref a ∧ H a = some (.lst vs) ∧ RL K H ds vs
  | .dct kvs, v => ∃ a ws, v = .ref a ∧ H a = some (.dK ws) ∧ RK K H kvs ws
  | .ins C fs, v => ∃ a dx ws, v = .ref a ∧ H a = some (.ins C dx ws) ∧ RF K H fs ws
def RL (K : PySem.W.Frag) (H : Hp) : List D → List V → Prop
  | [], vs => vs = []
  | d :: ds, vs => ∃ v r, vs = v :: r ∧ R K H d v ∧ RL K H ds r
def RK (K : PySem.W.Frag) (H : Hp) : List (Key × D) → List (Key × V) → Prop
  | [], ws => ws = []
  | (k, d) :: ds, ws => ∃ v r, ws = (k, v) :: r ∧ R K H d v ∧ RK K H ds r
def RF (K : PySem.W.Frag) (H : Hp) : List (Str × D) → List (Str × V) → Prop
  | [], ws => ws = []
  | (k, d) :: ds, ws => ∃ v r, ws = (k, v) :: r ∧ R K H d v ∧ RF K H ds r
end
section
variable {K : PySem.W.Frag} {H H' : Hp}
theorem sqt_same {a : Addr} {xs : List V} (e : Same H H') (h : SqT K H a xs) : SqT K H' a xs := by
  rcases h with (h | ⟨o, h⟩) | h
  · exact .inl (.inl (e _ _ h))
  · exact .inl (.inr ⟨o, e _ _ h⟩)
  · exact .inr h
mutual
theorem R.mono (e : Same H H') : ∀ (d : D) (v : V), R K H d v → R K H' d v
  | .non, _, h => h
  | .bl _, _, h => h
  | .int _, _, h => h
  | .str _, _, h => h
  | .tup ds, v, h => by
    unfold R at h ⊢
    obtain ⟨a, vs, rfl, h1, h2⟩ := h
    exact ⟨a, vs, rfl, sqt_same e h1, RL.mono e ds vs h2⟩
  | .lst ds, v, h => by
    unfold R at h ⊢
    obtain ⟨a, vs, rfl, h1, h2⟩ := h
    exact ⟨a, vs, rfl, e _ _ h1, RL.mono e ds vs h2⟩
  | .dct kvs, v, h => by
    unfold R at h ⊢
    obtain ⟨a, vs, rfl, h1, h2⟩ := h
    exact ⟨a, vs, rfl, e _ _ h1, RK.mono e kvs vs h2⟩
  | .ins C fs, v, h => by
    unfold R at h ⊢
    obtain ⟨a, dx, vs, rfl, h1, h2⟩ := h
    exact ⟨a, dx, vs, rfl, e _ _ h1, RF.mono e fs vs h2⟩
theorem RL.mono (e : Same H H') : ∀ (ds : List D) (vs : List V), RL K H ds vs → RL K H' ds vs
  | [], _, h => h
  | d :: ds, vs, h => by
    unfold RL at h ⊢
    obtain ⟨v, r, rfl, h1, h2⟩ := h
    exact ⟨v, r, rfl, R.mono e d v h1, RL.mono e ds r h2⟩
theorem RK.mono (e : Same H H') : ∀ (ds : List (Key × D)) (vs : List (Key × V)), RK K H ds vs → RK K H' ds vs
  | [], _, h => h
  | (k, d) :: ds, vs, h => by
    unfold RK at h ⊢
    obtain ⟨v, r, rfl, h1, h2⟩ := h
    exact ⟨v, r, rfl, R.mono e d v h1, RK.mono e ds r h2⟩
theorem RF.mono (e : Same H H') : ∀ (ds : List (Str × D)) (vs : List (Str × V)), RF K H ds vs → RF K H' ds vs
  | [], _, h => h
  | (k, d) :: ds, vs, h => by
    unfold RF at h ⊢
    obtain ⟨v, r, rfl, h1, h2⟩ := h
    exact ⟨v, r, rfl, R.mono e d v h1, RF.mono e ds r h2⟩
end
theorem RL.length : ∀ {ds : List D} {vs : List V}, RL K H ds vs → vs.length = ds.length
  | [], _, h => by unfold RL at h; rw [h]; rfl
  | d :: ds, vs, h => by
    unfold RL at h
    obtain ⟨v, r, rfl, _, h2⟩ := h
    rw [List.length_cons, List.length_cons, RL.length h2]
theorem RL.get : ∀ {ds : List D} {vs : List V} {i : Nat} {d : D}, RL K H ds vs → ds[i]? = some d → ∃ v, vs[i]? = some v ∧ R K H d v
  | [], _, _, _, _, e => by simp at e
  | d :: ds, vs, 0, x, h, e => by
    unfold RL at h
    obtain ⟨v, r, rfl, h1, _⟩ := h
    simp at e; subst e
    exact ⟨v, rfl, h1⟩
  | d :: ds, vs, i + 1, x, h, e => by
    unfold RL at h
    obtain ⟨v, r, rfl, _, h2⟩ := h
    obtain ⟨u, h3, h4⟩ := RL.get (i := i) h2 (by simpa using e)
    exact ⟨u, by simpa using h3, h4⟩
theorem RL.get' : ∀ {ds : List D} {vs : List V} {i : Nat} {v : V}, RL K H ds vs → vs[i]? = some v → ∃ d, ds[i]? = some d ∧ R K H d v := by
  intro ds vs i v h e
  have hl := h.length
  have hi : i < vs.length := (List.getElem?_eq_some_iff.mp e).1
  obtain ⟨u, h1, h2⟩ := h.get (i := i) (List.getElem?_eq_getElem (hl ▸ hi))
  rw [e] at h1
  cases h1
  exact ⟨_, List.getElem?_eq_getElem (hl ▸ hi), h2⟩
theorem RL.append : ∀ {ds es : List D} {vs us : List V}, RL K H ds vs → RL K H es us → RL K H (ds ++ es) (vs ++ us)
  | [], _, _, _, h, g => by unfold RL at h; subst h; exact g
  | d :: ds, es, vs, us, h, g => by
    unfold RL at h
    obtain ⟨v, r, rfl, h1, h2⟩ := h
    show RL K H (d :: (ds ++ es)) (v :: (r ++ us))
    unfold RL
    exact ⟨v, _, rfl, h1, RL.append h2 g⟩
theorem RL.nil : RL K H [] [] := by unfold RL; rfl
theorem RL.cons {d : D} {v : V} {ds : List D} {vs : List V} (h : R K H d v) (g : RL K H ds vs) : RL K H (d :: ds) (v :: vs) := by unfold RL; exact ⟨v, vs, rfl, h, g⟩
theorem RL.one {d : D} {v : V} (h : R K H d v) : RL K H [d] [v] := .cons h .nil
theorem RL.snoc {ds : List D} {vs : List V} {d : D} {v : V} (h : RL K H ds vs) (g : R K H d v) : RL K H (ds ++ [d]) (vs ++ [v]) := h.append (.one g)
theorem RL.drop : ∀ {ds : List D} {vs : List V} (n : Nat), RL K H ds vs → RL K H (ds.drop n) (vs.drop n)
  | _, _, 0, h => h
  | [], _, n + 1, h => by unfold RL at h; subst h; exact .nil
  | d :: ds, vs, n + 1, h => by
    unfold RL at h
    obtain ⟨v, r, rfl, _, h2⟩ := h
    exact RL.drop n h2
theorem RL.take : ∀ {ds : List D} {vs : List V} (n : Nat), RL K H ds vs → RL K H (ds.take n) (vs.take n)
  | _, _, 0, _ => .nil
  | [], _, n + 1, h => by unfold RL at h; subst h; exact .nil
  | d :: ds, vs, n + 1, h => by
    unfold RL at h
    obtain ⟨v, r, rfl, h1, h2⟩ := h
    exact .cons h1 (RL.take n h2)
theorem RL.set {ds : List D} {vs : List V} {d : D} {v : V} (hd : R K H d v) : ∀ (i : Nat), RL K H ds vs → RL K H (ds.set i d) (vs.set i v) := by
  induction ds generalizing vs with
  | nil => intro i h; unfold RL at h; subst h; exact .nil
  | cons x ds ih =>
    intro i h
    unfold RL at h
    obtain ⟨u, r, rfl, h1, h2⟩ := h
    cases i with
    | zero => exact .cons hd h2
    | succ i => exact .cons h1 (ih i h2)
theorem R.tup {a : Addr} {ds : List D} {vs : List V} (h : SqT K H a vs) (g : RL K H ds vs) : R K H (.tup ds) (.ref a) := by unfold R; exact ⟨a, vs, rfl, h, g⟩
theorem R.lst {a : Addr} {ds : List D} {vs : List V} (h : H a = some (.lst vs)) (g : RL K H ds vs) : R K H (.lst ds) (.ref a) := by unfold R; exact ⟨a, vs, rfl, h, g⟩
theorem R.int_ {i : Int} : R K H (.int i) (.int i) := rfl
theorem R.bl_ {i : Bool} : R K H (.bl i) (.bl i) := rfl
theorem R.str_ {i : Str} : R K H (.str i) (.str i) := rfl
theorem R.non_ : R K H .non .non := rfl
theorem R.tupE {ds : List D} {v : V} (h : R K H (.tup ds) v) : ∃ a vs, v = .ref a ∧ SqT K H a vs ∧ RL K H ds vs := by unfold R at h; exact h
theorem R.lstE {ds : List D} {v : V} (h : R K H (.lst ds) v) : ∃ a vs, v = .ref a ∧ H a = some (.lst vs) ∧ RL K H ds vs := by unfold R at h; exact h
theorem RL.consE {d : D} {ds : List D} {vs : List V} (h : RL K H (d :: ds) vs) : ∃ v r, vs = v :: r ∧ R K H d v ∧ RL K H ds r := by unfold RL at h; exact h
theorem RL.nilE {vs : List V} (h : RL K H [] vs) : vs = [] := by unfold RL at h; exact h
end

/-! ### frames -/
/-- a slot: unknown; frozen data; a list of ours, data in it; the draw -/
inductive Sl where
  | no | d (d : D) | ol (xs : List D) | dr
structure Ctx where
  G0 : Hp
  H0 : Hp
  da : Option Addr
/-- the draw's cell -/
def DrC (K : PySem.W.Frag) (G H : Hp) (a : Addr) : Prop := G a = none ∧ ∃ (s : Addr) (n : Int) (ns : List Int), H a = some (.lst [.ref s, .int n]) ∧ SqL K G s (ns.map V.int)
def SlOk (K : PySem.W.Frag) (c : Ctx) (G H : Hp) : Sl → Option V → Prop
  | .no, _ => True
  | .d d, o => ∃ v, o = some v ∧ R K G d v
  | .ol ds, o => ∃ a vs, o = some (.ref a) ∧ H a = some (.lst vs) ∧ RL K G ds vs ∧ G a = none ∧ c.H0 a = none
  | .dr, o => ∃ a, o = some (.ref a) ∧ c.da = some a
def ownAt : Sl → Option V → Option Addr
  | .ol _, some (.ref a) => some a
  | _, _ => none
structure Fr (K : PySem.W.Frag) (c : Ctx) (G H : Hp) (env : List Sl) (σ : St) : Prop where
  hb : ∀ a o, c.H0 a = some o → c.da ≠ some a → H a = some o
  gg : Same c.G0 G
  gh : Same G H
  old : ∀ a o, c.H0 a = some o → c.G0 a = none → G a = none
  dr0 : ∀ a, c.da = some a → ∃ o, c.H0 a = some o
  dr : ∀ a, c.da = some a → DrC K G H a
  len : env.length = σ.length
  sl : ∀ (i : Nat) (s : Sl) (o : Option V), env[i]? = some s → σ[i]? = some o → SlOk K c G H s o
  sep : ∀ (i j : Nat) (a : Addr) (si sj : Sl) (oi oj : Option V), env[i]? = some si → σ[i]? = some oi → env[j]? = some sj → σ[j]? = some oj → ownAt si oi = some a → ownAt sj oj = some a → i = j
/-- how heaps go on -/
structure Gr (K : PySem.W.Frag) (da : Option Addr) (G H G' H' : Hp) : Prop where
  gg : Same G G'
  gh : Same G' H'
  hh : ∀ a o, H a = some o → da ≠ some a → H' a = some o
  old : ∀ a o, H a = some o → G a = none → G' a = none
  dr : ∀ a, da = some a → DrC K G' H' a
section
variable {K : PySem.W.Frag} {c : Ctx} {G H G' H' : Hp} {env : List Sl} {σ : St}
theorem Fr.own_ne (f : Fr K c G H env σ) {a : Addr} (h : c.H0 a = none) : c.da ≠ some a := fun e => by
  obtain ⟨o, q⟩ := f.dr0 a e
  rw [h] at q; cases q
theorem Fr.step (f : Fr K c G H env σ) (g : Gr K c.da G H G' H') : Fr K c G' H' env σ where
  hb := fun a o h n => g.hh a o (f.hb a o h n) n
  gg := f.gg.trans g.gg
  gh := g.gh
  old := fun a o h n => by
    have h1 := f.old a o h n
    by_cases e : c.da = some a
    · obtain ⟨_, s, k, ns, h2, _⟩ := f.dr a e
      exact g.old a _ h2 h1
    · exact g.old a o (f.hb a o h e) h1
  dr0 := f.dr0
  dr := g.dr
  len := f.len
  sl := fun i s o h1 h2 => by
    have q := f.sl i s o h1 h2
    cases s with
    | no => trivial
    | d d => obtain ⟨v, e, r⟩ := q; exact ⟨v, e, r.mono g.gg⟩
    | ol ds =>
      obtain ⟨a, vs, e, e1, r, e2, e3⟩ := q
      exact ⟨a, vs, e, g.hh a _ e1 (f.own_ne e3), RL.mono g.gg _ _ r, g.old a _ e1 e2, e3⟩
    | dr => exact q
  sep := f.sep
theorem Gr.refl (f : Fr K c G H env σ) : Gr K c.da G H G H := ⟨Same.refl G, f.gh, fun _ _ h _ => h, fun _ _ _ h => h, f.dr⟩
theorem DrC.same {a : Addr} (d : DrC K G H a) (gg : Same G G') (n : G' a = none) (hh : ∀ o, H a = some o → H' a = some o) : DrC K G' H' a := by
  obtain ⟨_, s, k, ns, h2, h3⟩ := d
  exact ⟨n, s, k, ns, hh _ h2, gg.seq h3⟩
/-- a new frozen thing -/
theorem Fr.newG (f : Fr K c G H env σ) {p : Addr} {o : HO} (h : H p = none) : Gr K c.da G H (upd G p o) (upd H p o) where
  gg := Same.trans (Same.refl G) (fun b u e => by rw [upd_ne (ne_of_none (f.gh _ _ e) h)]; exact e)
  gh := fun b u e => by
    by_cases q : b = p
    · rw [q, upd_same] at e ⊢; exact e
    · rw [upd_ne q] at e ⊢; exact f.gh _ _ e
  hh := fun a u e _ => by rw [upd_ne (ne_of_none e h)]; exact e
  old := fun a u e n => by rw [upd_ne (ne_of_none e h)]; exact n
  dr := fun a e => by
    obtain ⟨n, s, k, ns, h2, h3⟩ := f.dr a e
    refine ⟨by rw [upd_ne (ne_of_none h2 h)]; exact n, s, k, ns, by rw [upd_ne (ne_of_none h2 h)]; exact h2, ?_⟩
    exact (show Same G (upd G p o) from fun b u e => by rw [upd_ne (ne_of_none (f.gh _ _ e) h)]; exact e).seq h3
/-- a new thing that is not frozen -/
theorem Fr.newH (f : Fr K c G H env σ) {p : Addr} {o : HO} (h : H p = none) : Gr K c.da G H G (upd H p o) where
  gg := Same.refl G
  gh := fun b u e => by rw [upd_ne (ne_of_none (f.gh _ _ e) h)]; exact f.gh _ _ e
  hh := fun a u e _ => by rw [upd_ne (ne_of_none e h)]; exact e
  old := fun _ _ _ n => n
  dr := fun a e => (f.dr a e).same (Same.refl G) (f.dr a e).1 fun o' h' => by rw [upd_ne (ne_of_none h' h)]; exact h'
theorem Fr.gnone (f : Fr K c G H env σ) {p : Addr} (h : H p = none) : G p = none := f.gh.free h
theorem Fr.h0none (f : Fr K c G H env σ) {p : Addr} (h : H p = none) : c.H0 p = none := by
  cases e : c.H0 p with
  | none => rfl
  | some o =>
    by_cases q : c.da = some p
    · obtain ⟨_, s, k, ns, h2, _⟩ := f.dr p q
      rw [h] at h2; cases h2
    · rw [f.hb p o e q] at h; cases h
def NoOwn (env : List Sl) (σ : St) (a : Addr) : Prop := ∀ (j : Nat) (s : Sl) (o : Option V), env[j]? = some s → σ[j]? = some o → ownAt s o ≠ some a
theorem Fr.noOwn (f : Fr K c G H env σ) {p : Addr} (h : H p = none) : NoOwn env σ p := fun j s o h1 h2 e => by
  have q := f.sl j s o h1 h2
  cases s with
  | ol ds =>
    obtain ⟨a, vs, rfl, e1, _⟩ := q
    cases e
    rw [h] at e1; cases e1
  | _ => cases e
theorem len_set {α : Type} (l : List α) (i : Nat) (x : α) : (l.set i x).length = l.length := List.length_set
/-- a slot takes frozen data (or is forgotten) -/
theorem Fr.set (f : Fr K c G H env σ) (i : Nat) {s : Sl} {o : Option V} (h : SlOk K c G H s o) (n : ∀ a, ownAt s o = some a → NoOwn env σ a) : Fr K c G H (env.set i s) (σ.set i o) where
  hb := f.hb
  gg := f.gg
  gh := f.gh
  old := f.old
  dr0 := f.dr0
  dr := f.dr
  len := by rw [List.length_set, List.length_set, f.len]
  sl := fun j s' o' h1 h2 => by
    by_cases e : j = i
    · subst e
      have hj : j < env.length := by have := (List.getElem?_eq_some_iff.mp h1).1; rwa [List.length_set] at this
      rw [List.getElem?_set_self hj] at h1
      rw [List.getElem?_set_self (f.len ▸ hj)] at h2
      cases h1; cases h2; exact h
    · rw [List.getElem?_set_ne (Ne.symm e)] at h1 h2
      exact f.sl j s' o' h1 h2
  sep := fun j k a sj sk oj ok h1 h2 h3 h4 h5 h6 => by
    have get : ∀ (j : Nat) (sj : Sl) (oj : Option V), (env.set i s)[j]? = some sj → (σ.set i o)[j]? = some oj → (j = i ∧ sj = s ∧ oj = o) ∨ (j ≠ i ∧ env[j]? = some sj ∧ σ[j]? = some oj) := by
      intro j sj oj h1 h2
      by_cases e : j = i
      · subst e
        have hj : j < env.length := by have := (List.getElem?_eq_some_iff.mp h1).1; rwa [List.length_set] at this
        rw [List.getElem?_set_self hj] at h1
        rw [List.getElem?_set_self (f.len ▸ hj)] at h2
        cases h1; cases h2
        exact .inl ⟨rfl, rfl, rfl⟩
      · rw [List.getElem?_set_ne (Ne.symm e)] at h1 h2
        exact .inr ⟨e, h1, h2⟩
    rcases get j sj oj h1 h2 with ⟨e1, e2, e3⟩ | ⟨e1, e2, e3⟩
    · rcases get k sk ok h3 h4 with ⟨g1, g2, g3⟩ | ⟨g1, g2, g3⟩
      · rw [e1, g1]
      · subst e2; subst e3
        exact absurd h6 (n a h5 k sk ok g2 g3)
    · rcases get k sk ok h3 h4 with ⟨g1, g2, g3⟩ | ⟨g1, g2, g3⟩
      · subst g2; subst g3
        exact absurd h5 (n a h6 j sj oj e2 e3)
      · exact f.sep j k a sj sk oj ok e2 e3 g2 g3 h5 h6
theorem Fr.setD (f : Fr K c G H env σ) (i : Nat) {d : D} {v : V} (h : R K G d v) : Fr K c G H (env.set i (.d d)) (σ.set i (some v)) := f.set i ⟨v, rfl, h⟩ fun a e => by cases e
theorem Fr.setNo (f : Fr K c G H env σ) (i : Nat) (o : Option V) : Fr K c G H (env.set i .no) (σ.set i o) := f.set i trivial fun a e => by cases e
theorem Fr.get (f : Fr K c G H env σ) {i : Nat} {s : Sl} (h : env[i]? = some s) : ∃ o, σ[i]? = some o ∧ SlOk K c G H s o := by
  have hi : i < env.length := (List.getElem?_eq_some_iff.mp h).1
  have e : σ[i]? = some (σ[i]'(f.len ▸ hi)) := List.getElem?_eq_getElem (f.len ▸ hi)
  exact ⟨_, e, f.sl i s _ h e⟩
theorem Fr.getD (f : Fr K c G H env σ) {i : Nat} {d : D} (h : env[i]? = some (.d d)) : ∃ v, σ[i]? = some (some v) ∧ R K G d v := by
  obtain ⟨o, e, v, rfl, r⟩ := f.get h
  exact ⟨v, e, r⟩
theorem Fr.getO (f : Fr K c G H env σ) {i : Nat} {ds : List D} (h : env[i]? = some (.ol ds)) : ∃ a vs, σ[i]? = some (some (.ref a)) ∧ H a = some (.lst vs) ∧ RL K G ds vs ∧ G a = none ∧ c.H0 a = none := by
  obtain ⟨o, e, a, vs, rfl, q⟩ := f.get h
  exact ⟨a, vs, e, q⟩
/-- an owned list is written -/
theorem Fr.write (f : Fr K c G H env σ) {i : Nat} {ds es : List D} {a : Addr} {us : List V} (h : env[i]? = some (.ol ds)) (ha : σ[i]? = some (some (.ref a))) (r : RL K G es us) : Fr K c G (upd H a (.lst us)) (env.set i (.ol es)) σ := by
  obtain ⟨a', vs, e, h1, h2, h3, h4⟩ := f.getO h
  rw [ha] at e; cases e
  refine ⟨fun b o hb n => ?_, f.gg, fun b o hb => ?_, f.old, f.dr0, fun b e => ?_, by rw [List.length_set]; exact f.len, fun j s o g1 g2 => ?_, fun j k b sj sk oj ok g1 g2 g3 g4 g5 g6 => ?_⟩
  · rw [upd_ne (fun z => by rw [z, h4] at hb; cases hb)]; exact f.hb b o hb n
  · rw [upd_ne (fun z => by rw [z, h3] at hb; cases hb)]; exact f.gh b o hb
  · have nb : b ≠ a := fun z => f.own_ne h4 (z ▸ e)
    exact (f.dr b e).same (Same.refl G) (f.dr b e).1 fun o q => by rw [upd_ne nb]; exact q
  · by_cases e : j = i
    · subst e
      rw [ha] at g2; cases g2
      rw [List.getElem?_set_self (List.getElem?_eq_some_iff.mp h).1] at g1
      cases g1
      exact ⟨a, us, rfl, upd_same, r, h3, h4⟩
    · rw [List.getElem?_set_ne (Ne.symm e)] at g1
      have q := f.sl j s o g1 g2
      cases s with
      | no => trivial
      | d d => exact q
      | ol xs =>
        obtain ⟨b, ws, rfl, e1, r', e2, e3⟩ := q
        have nb : b ≠ a := fun z => e (f.sep j i b _ _ _ _ g1 g2 h ha rfl (by rw [z]; rfl))
        exact ⟨b, ws, rfl, by rw [upd_ne nb]; exact e1, r', e2, e3⟩
      | dr => exact q
  · have get : ∀ (j : Nat) (sj : Sl) (oj : Option V), (env.set i (.ol es))[j]? = some sj → σ[j]? = some oj → ownAt sj oj = some b → ∃ s', env[j]? = some s' ∧ ownAt s' oj = some b := by
      intro j sj oj g1 g2 g5
      by_cases e : j = i
      · subst e
        rw [List.getElem?_set_self (List.getElem?_eq_some_iff.mp h).1] at g1
        cases g1
        refine ⟨_, h, ?_⟩
        cases oj with
        | none => cases g5
        | some v => cases v <;> first | exact g5 | cases g5
      · rw [List.getElem?_set_ne (Ne.symm e)] at g1
        exact ⟨_, g1, g5⟩
    obtain ⟨s1, k1, k2⟩ := get j sj oj g1 g2 g5
    obtain ⟨s2, k3, k4⟩ := get k sk ok g3 g4 g6
    exact f.sep j k b _ _ _ _ k1 g2 k3 g4 k2 k4
/-- an owned list is frozen -/
theorem Fr.freeze (f : Fr K c G H env σ) {i : Nat} {ds : List D} (h : env[i]? = some (.ol ds)) : ∃ a vs, σ[i]? = some (some (.ref a)) ∧ H a = some (.lst vs) ∧ RL K G ds vs ∧ Same G (upd G a (.lst vs)) ∧ Fr K c (upd G a (.lst vs)) H (env.set i (.d (.lst ds))) σ := by
  obtain ⟨a, vs, ha, h1, h2, h3, h4⟩ := f.getO h
  have sm : Same G (upd G a (.lst vs)) := fun b o hb => by rw [upd_ne (ne_of_none hb h3)]; exact hb
  refine ⟨a, vs, ha, h1, h2, sm, f.hb, f.gg.trans sm, fun b o hb => ?_, fun b o hb n => ?_, f.dr0, fun b e => ?_, by rw [List.length_set]; exact f.len, fun j s o g1 g2 => ?_, fun j k b sj sk oj ok g1 g2 g3 g4 g5 g6 => ?_⟩
  · by_cases e : b = a
    · rw [e, upd_same] at hb; cases hb; rw [e]; exact h1
    · rw [upd_ne e] at hb; exact f.gh b o hb
  · rw [upd_ne (fun z => by rw [z, h4] at hb; cases hb)]; exact f.old b o hb n
  · have nb : b ≠ a := fun z => f.own_ne h4 (z ▸ e)
    exact (f.dr b e).same sm (by rw [upd_ne nb]; exact (f.dr b e).1) fun o q => q
  · by_cases e : j = i
    · subst e
      rw [ha] at g2; cases g2
      rw [List.getElem?_set_self (List.getElem?_eq_some_iff.mp h).1] at g1
      cases g1
      exact ⟨.ref a, rfl, .lst upd_same (RL.mono sm _ _ h2)⟩
    · rw [List.getElem?_set_ne (Ne.symm e)] at g1
      have q := f.sl j s o g1 g2
      cases s with
      | no => trivial
      | d d => obtain ⟨v, e1, r⟩ := q; exact ⟨v, e1, r.mono sm⟩
      | ol xs =>
        obtain ⟨b, ws, rfl, e1, r', e2, e3⟩ := q
        have nb : b ≠ a := fun z => e (f.sep j i b _ _ _ _ g1 g2 h ha rfl (by rw [z]; rfl))
        exact ⟨b, ws, rfl, e1, RL.mono sm _ _ r', by rw [upd_ne nb]; exact e2, e3⟩
      | dr => exact q
  · have get : ∀ (j : Nat) (sj : Sl) (oj : Option V), (env.set i (.d (.lst ds)))[j]? = some sj → σ[j]? = some oj → ownAt sj oj = some b → env[j]? = some sj := by
      intro j sj oj g1 g2 g5
      by_cases e : j = i
      · subst e
        rw [List.getElem?_set_self (List.getElem?_eq_some_iff.mp h).1] at g1
        cases g1
        cases g5
      · rw [List.getElem?_set_ne (Ne.symm e)] at g1
        exact g1
    exact f.sep j k b _ _ _ _ (get j sj oj g1 g2 g5) g2 (get k sk ok g3 g4 g6) g4 g5 g6
theorem Fr.rebase (f : Fr K c G H env σ) : Fr K { c with G0 := G } G H env σ := ⟨f.hb, Same.refl G, f.gh, fun _ _ _ n => n, f.dr0, f.dr, f.len, f.sl, f.sep⟩
theorem Fr.unbase (f0 : Fr K c G H env σ) {G' H' : Hp} {env' : List Sl} {σ' : St} (f : Fr K { c with G0 := G } G' H' env' σ') : Fr K c G' H' env' σ' :=
  ⟨f.hb, f0.gg.trans f.gg, f.gh, fun a o h n => f.old a o h (f0.old a o h n), f.dr0, f.dr, f.len, f.sl, f.sep⟩
theorem Gr.fresh {da : Option Addr} {G H G1 H1 : Hp} (g : Gr K da G H G1 H1) {p : Addr} (h : H1 p = none) : H p = none := by
  cases e : H p with
  | none => rfl
  | some o =>
    by_cases q : da = some p
    · obtain ⟨_, s, k, ns, h2, _⟩ := g.dr p q
      rw [h] at h2; cases h2
    · rw [g.hh p o e q] at h; cases h
theorem Gr.trans {da : Option Addr} {G1 H1 G2 H2 : Hp} (a : Gr K da G H G1 H1) (b : Gr K da G1 H1 G2 H2) : Gr K da G H G2 H2 where
  gg := a.gg.trans b.gg
  gh := b.gh
  hh := fun x o h n => b.hh x o (a.hh x o h n) n
  old := fun x o h n => by
    have h1 := a.old x o h n
    by_cases e : da = some x
    · obtain ⟨_, s, k, ns, h2, _⟩ := a.dr x e
      exact b.old x _ h2 h1
    · exact b.old x o (a.hh x o h e) h1
  dr := b.dr
end
end Y

namespace Y
open PySem L2
abbrev WE := List Sl → (D → Prop) → Prop
abbrev WT := List Sl → (Bool → Prop) → Prop
abbrev WA := List Sl → (List D → Prop) → Prop
/-- a list is read in H, its items in G -/
def RH (K : PySem.W.Frag) (G H : Hp) : D → V → Prop
  | .lst ds, v => ∃ a vs, v = .ref a ∧ H a = some (.lst vs) ∧ RL K G ds vs
  | d, v => R K G d v
theorem RH.of {K : PySem.W.Frag} {G H : Hp} (s : Same G H) {d : D} {v : V} (h : R K G d v) : RH K G H d v := by
  cases d with
  | lst ds => obtain ⟨a, vs, e, h1, h2⟩ := h.lstE; exact ⟨a, vs, e, s _ _ h1, h2⟩
  | _ => exact h
theorem RH.r {K : PySem.W.Frag} {G H : Hp} (s : Same G H) {d : D} {v : V} (h : RH K G H d v) : R K H d v := by
  cases d with
  | lst ds => obtain ⟨a, vs, rfl, h1, h2⟩ := h; exact .lst h1 (RL.mono s _ _ h2)
  | _ => exact R.mono s _ _ h
/-- .. and so it stays while the frame stays -/
def RB (K : PySem.W.Frag) (c : Ctx) (G : Hp) (env : List Sl) (σ : L2.St) (d : D) (v : V) : Prop := ∀ G' H', Fr K c G' H' env σ → Same G G' → RH K G' H' d v
theorem RB.of {K : PySem.W.Frag} {c : Ctx} {G : Hp} {env : List Sl} {σ : L2.St} {d : D} {v : V} (h : R K G d v) : RB K c G env σ d v := fun _ _ f s => .of f.gh (h.mono s)
theorem RB.mono {K : PySem.W.Frag} {c : Ctx} {G G' : Hp} {env : List Sl} {σ : L2.St} {d : D} {v : V} (s : Same G G') (h : RB K c G env σ d v) : RB K c G' env σ d v := fun G2 H2 f s2 => h G2 H2 f (s.trans s2)

def Snd (K : PySem.W.Frag) (t : TE) (w : WE) : Prop := ∀ (c : Ctx) (G H : Hp) (env : List Sl) (σ : L2.St) (Q : VK) (q : D → Prop), Fr K c G H env σ → w env q →
  (∀ v d G' H', Fr K c G' H' env σ → Gr K c.da G H G' H' → R K G' d v → q d → Q v H') → t σ H Q
def SndB (K : PySem.W.Frag) (t : TE) (w : WE) : Prop := ∀ (c : Ctx) (G H : Hp) (env : List Sl) (σ : L2.St) (Q : VK) (q : D → Prop), Fr K c G H env σ → w env q →
  (∀ v d G' H', Fr K c G' H' env σ → Gr K c.da G H G' H' → RB K c G' env σ d v → q d → Q v H') → t σ H Q
/-- a new list of ours -/
def SndN (K : PySem.W.Frag) (t : TE) (w : WA) : Prop := ∀ (c : Ctx) (G H : Hp) (env : List Sl) (σ : L2.St) (Q : VK) (q : List D → Prop), Fr K c G H env σ → w env q →
  (∀ a vs ds G' H', Fr K c G' H' env σ → Gr K c.da G H G' H' → H' a = some (.lst vs) → RL K G' ds vs → G' a = none → c.H0 a = none → H a = none → NoOwn env σ a → q ds → Q (.ref a) H') → t σ H Q
def SndT (K : PySem.W.Frag) (t : TT) (w : WT) : Prop := ∀ (c : Ctx) (G H : Hp) (env : List Sl) (σ : L2.St) (Q : Bool → Hp → Prop) (q : Bool → Prop), Fr K c G H env σ → w env q →
  (∀ b G' H', Fr K c G' H' env σ → Gr K c.da G H G' H' → q b → Q b H') → t σ H Q
def SndA (K : PySem.W.Frag) (t : TA) (w : WA) : Prop := ∀ (c : Ctx) (G H : Hp) (env : List Sl) (σ : L2.St) (Q : List V → Hp → Prop) (q : List D → Prop), Fr K c G H env σ → w env q →
  (∀ vs ds G' H', Fr K c G' H' env σ → Gr K c.da G H G' H' → RL K G' ds vs → q ds → Q vs H') → t σ H Q
structure DE (X : Cx) (e : Expr) (t : TE) (w : WE) : Prop where
  pe : PE X e t
  snd : Snd X.K t w
structure DB (X : Cx) (e : Expr) (t : TE) (w : WE) : Prop where
  pe : PE X e t
  snd : SndB X.K t w
structure DN (X : Cx) (e : Expr) (t : TE) (w : WA) : Prop where
  pe : PE X e t
  snd : SndN X.K t w
structure DT (X : Cx) (e : Expr) (t : TT) (w : WT) : Prop where
  pt : PT X e t
  snd : SndT X.K t w
structure DA (X : Cx) (es : List Expr) (t : TA) (w : WA) : Prop where
  pa : PA X es t
  snd : SndA X.K t w
section
variable {X : Cx} {e a b cnd : Expr} {es : List Expr} {t ta tb tc : TE} {w wa wb wc : WE} {tA : TA} {wA : WA} {tt tt' : TT} {wt wt' : WT} {pos : Pos}
theorem DE.toB (h : DE X e t w) : DB X e t w := ⟨h.pe, fun c G H env σ Q q f hw k => h.snd c G H env σ Q q f hw fun v d G' H' f' s r hq => k v d G' H' f' s (.of r) hq⟩
def wN (w : WA) : WE := fun env q => w env fun ds => q (.lst ds)
/-- a new list is frozen -/
theorem DN.toE {w : WA} (h : DN X e t w) : DE X e t (wN w) := ⟨h.pe, fun c G H env σ Q q f hw k => h.snd c G H env σ Q (fun ds => q (.lst ds)) f hw fun a vs ds G' H' f' s h1 r h2 h3 na no hq => by
  have sm : Same G' (upd G' a (.lst vs)) := fun b o hb => by rw [upd_ne (ne_of_none hb h2)]; exact hb
  have gr : Gr X.K c.da G H (upd G' a (.lst vs)) H' := by
    refine ⟨s.gg.trans sm, fun b o hb => ?_, s.hh, fun x o hx n => by rw [upd_ne (ne_of_none hx na)]; exact s.old x o hx n, fun x e => ?_⟩
    · by_cases e : b = a
      · rw [e, upd_same] at hb; cases hb; rw [e]; exact h1
      · rw [upd_ne e] at hb; exact f'.gh b o hb
    · obtain ⟨_, z, k, ns, h4, _⟩ := f.dr x e
      exact (s.dr x e).same sm (by rw [upd_ne (ne_of_none h4 na)]; exact (s.dr x e).1) fun o q => q
  exact k (.ref a) (.lst ds) (upd G' a (.lst vs)) H' (f.step gr) gr (.lst upd_same (RL.mono sm _ _ r)) hq⟩

/-! ### names, constants -/
def wVar (i : Nat) : WE := fun env q => match env[i]? with | some (.d d) => q d | _ => False
/-- a name, be its list ours -/
def wOwn (i : Nat) : WE := fun env q => match env[i]? with | some (.d d) => q d | some (.ol ds) => q (.lst ds) | _ => False
def wC (d : D) : WE := fun _ q => q d
theorem de_var (i : Nat) {x : Str} (hN : X.N[i]? = some x := by rfl) (hv : Vis X.env.scope x := by first | exact Or.inl rfl | exact Or.inr (Or.inl rfl) | exact Or.inr (Or.inr rfl)) (hd : (x == ("__debug__" : Str)) = false := by decide)
    (hcd : (x == ("__classdict__" : Str)) = false := by decide) : DE X (.Name x pos) (tVar i) (wVar i) := ⟨pe_var hN hv hd hcd, fun c G H env σ Q q f hw k => by
  unfold wVar at hw
  split at hw
  · rename_i d e
    obtain ⟨v, e1, r⟩ := f.getD e
    exact ⟨v, e1, k v d G H f (Gr.refl f) r hw⟩
  · exact hw.elim⟩
theorem db_var (i : Nat) {x : Str} (hN : X.N[i]? = some x := by rfl) (hv : Vis X.env.scope x := by first | exact Or.inl rfl | exact Or.inr (Or.inl rfl) | exact Or.inr (Or.inr rfl)) (hd : (x == ("__debug__" : Str)) = false := by decide)
    (hcd : (x == ("__classdict__" : Str)) = false := by decide) : DB X (.Name x pos) (tVar i) (wOwn i) := ⟨pe_var hN hv hd hcd, fun c G H env σ Q q f hw k => by
  unfold wOwn at hw
  split at hw
  · rename_i d e
    obtain ⟨v, e1, r⟩ := f.getD e
    exact ⟨v, e1, k v d G H f (Gr.refl f) (.of r) hw⟩
  · rename_i ds e
    obtain ⟨a, vs, e1, _⟩ := f.getO e
    refine ⟨.ref a, e1, k _ _ G H f (Gr.refl f) (fun G' H' f' s => ?_) hw⟩
    obtain ⟨a', vs', e2, h1, h2, _⟩ := f'.getO e
    rw [e1] at e2; cases e2
    exact ⟨a, vs', rfl, h1, h2⟩
  · exact hw.elim⟩
theorem de_c {d : D} {v : V} (h : PE X e (tC v)) (r : ∀ G, R X.K G d v) : DE X e (tC v) (wC d) := ⟨h, fun _ G H _ _ _ _ f hw k => k v d G H f (Gr.refl f) (r G) hw⟩
theorem de_int {i j pos} : DE X (.Constant (.int i) j pos) (tC (.int i)) (wC (.int i)) := de_c pe_int fun _ => R.int_
theorem de_bl {i j pos} : DE X (.Constant (.bool i) j pos) (tC (.bl i)) (wC (.bl i)) := de_c pe_bl fun _ => R.bl_
theorem de_non {j pos} : DE X (.Constant .none j pos) (tC .non) (wC .non) := de_c pe_non fun _ => R.non_
theorem de_str {s j pos} : DE X (.Constant (.str s) j pos) (tC (.str s)) (wC (.str s)) := de_c pe_str fun _ => R.str_
theorem de_glob {x : Str} {v : V} {u : Value} {d : D} (hg : Gl X x) (hm : X.mg x = some u) (r : RelV v u) (rd : ∀ G, R X.K G d v) (hd : (x == ("__debug__" : Str)) = false := by decide) : DE X (.Name x pos) (tC v) (wC d) := de_c (pe_glob hg hm r hd) rd

/-! ### two operands -/
abbrev WO := D → D → (D → Prop) → Prop
def SndO (K : PySem.W.Frag) (r : R2) (wo : WO) : Prop := ∀ (c : Ctx) (G H : Hp) (env : List Sl) (σ : L2.St) (x y : V) (d e : D) (Q : VK) (q : D → Prop), Fr K c G H env σ → RH K G H d x → RH K G H e y → wo d e q →
  (∀ v z G' H', Fr K c G' H' env σ → Gr K c.da G H G' H' → R K G' z v → q z → Q v H') → r x y H Q
def wOp2 (wo : WO) (wa wb : WE) : WE := fun env q => wa env fun d => wb env fun e => wo d e q
theorem snd_op {K : PySem.W.Frag} {r : R2} {wo : WO} (ha : SndB K ta wa) (hb : SndB K tb wb) (ho : SndO K r wo) : Snd K (tOp r ta tb) (wOp2 wo wa wb) := fun c G H env σ Q q f hw k =>
  ha c G H env σ _ _ f hw fun x d G1 H1 f1 s1 r1 hw1 => hb c G1 H1 env σ _ _ f1 hw1 fun y e G2 H2 f2 s2 r2 hw2 =>
    ho c G2 H2 env σ x y d e Q q f2 (r1 G2 H2 f2 s2.gg) (r2 G2 H2 f2 (Same.refl _)) hw2 fun v z G3 H3 f3 s3 r3 hq => k v z G3 H3 f3 ((s1.trans s2).trans s3) r3 hq
theorem de_op {op : Operator} {r : R2} {wo : WO} (ho : OpR X (binaryOp op) r) (so : SndO X.K r wo) (ha : DB X a ta wa) (hb : DB X b tb wb) : DE X (.BinOp a op b pos) (tOp r ta tb) (wOp2 wo wa wb) := ⟨pe_op ho ha.pe hb.pe, snd_op ha.snd hb.snd so⟩
theorem de_cmp {op : CmpOp} {r : R2} {wo : WO} (ho : OpR X (compareOp op) r) (so : SndO X.K r wo) (ha : DB X a ta wa) (hb : DB X b tb wb) (hm : behindInMarks op b = false) : DE X (.Compare a [op] [b] pos) (tOp r ta tb) (wOp2 wo wa wb) := ⟨pe_cmpR ho ha.pe hb.pe hm, snd_op ha.snd hb.snd so⟩
/-- a value that is a truth value, as a test -/
def wTest (w : WE) : WT := fun env q => w env fun d => match d with | .bl b => q b | _ => False
theorem snd_test {K : PySem.W.Frag} (h : Snd K t w) : SndT K (tTest t) (wTest w) := fun c G H env σ Q q f hw k => h c G H env σ _ _ f hw fun v d G' H' f' s r hq => by
  cases d with
  | bl b => exact ⟨b, r, k b G' H' f' s hq⟩
  | _ => exact hq.elim
theorem dt_cmp {op : CmpOp} {r : R2} {wo : WO} (ho : OpR X (compareOp op) r) (so : SndO X.K r wo) (ha : DB X a ta wa) (hb : DB X b tb wb) (hm : behindInMarks op b = false) : DT X (.Compare a [op] [b] pos) (tTest (tOp r ta tb)) (wTest (wOp2 wo wa wb)) := ⟨pt_cmpR ho ha.pe hb.pe hm, snd_test (snd_op ha.snd hb.snd so)⟩
theorem dt_val (h : DE X e t w) (he : ∀ whole, isTrue e X.env whole = (do let v ← whole; standAt e.pos; holding [v] (truthy v)) := by intro _; rfl) : DT X e (tB t) (wTest w) := ⟨pt_val h.pe he, snd_test h.snd⟩
/-- chains -/
def wChain (wo wo' : WO) (wa wb wc : WE) : WE := fun env q => wa env fun d => wb env fun e => wo d e fun z => match z with | .bl true => wc env fun g => wo' e g q | .bl false => q (.bl false) | _ => False
theorem snd_chain {K : PySem.W.Frag} {r r' : R2} {wo wo' : WO} (ha : SndB K ta wa) (hb : SndB K tb wb) (hc : SndB K tc wc) (ho : SndO K r wo) (ho' : SndO K r' wo') : Snd K (tChain r r' ta tb tc) (wChain wo wo' wa wb wc) := fun c G H env σ Q q f hw k =>
  ha c G H env σ _ _ f hw fun x d G1 H1 f1 s1 r1 hw1 => hb c G1 H1 env σ _ _ f1 hw1 fun y e G2 H2 f2 s2 r2 hw2 =>
    ho c G2 H2 env σ x y d e _ _ f2 (r1 G2 H2 f2 s2.gg) (r2 G2 H2 f2 (Same.refl _)) hw2 fun v z G3 H3 f3 s3 r3 hq => by
      cases z with
      | bl b =>
        refine ⟨b, r3, ?_⟩
        cases b with
        | true => exact iteT (hc c G3 H3 env σ _ _ f3 hq fun u g G4 H4 f4 s4 r4 hw4 => ho' c G4 H4 env σ y u e g Q q f4 (r2 G4 H4 f4 (s3.trans s4).gg) (r4 G4 H4 f4 (Same.refl _)) hw4 fun v z G5 H5 f5 s5 r5 hq5 => k v z G5 H5 f5 ((((s1.trans s2).trans s3).trans s4).trans s5) r5 hq5)
        | false => exact iteF (k _ _ G3 H3 f3 ((s1.trans s2).trans s3) R.bl_ hq)
      | _ => exact hq.elim
theorem de_chain {op op' : CmpOp} {r r' : R2} {wo wo' : WO} (ho : OpR X (compareOp op) r) (so : SndO X.K r wo) (ho' : OpR X (compareOp op') r') (so' : SndO X.K r' wo') (ha : DB X a ta wa) (hb : DB X b tb wb) (hc : DB X cnd tc wc)
    (hm : lastMarks [op, op'] [b, cnd] = false := by with_unfolding_all rfl) : DE X (.Compare a [op, op'] [b, cnd] pos) (tChain r r' ta tb tc) (wChain wo wo' wa wb wc) := ⟨pe_chain ho ho' ha.pe hb.pe hc.pe hm, snd_chain ha.snd hb.snd hc.snd so so'⟩
theorem dt_chain {op op' : CmpOp} {r r' : R2} {wo wo' : WO} (ho : OpR X (compareOp op) r) (so : SndO X.K r wo) (ho' : OpR X (compareOp op') r') (so' : SndO X.K r' wo') (ha : DB X a ta wa) (hb : DB X b tb wb) (hc : DB X cnd tc wc)
    (hm : lastMarks [op, op'] [b, cnd] = false := by with_unfolding_all rfl) : DT X (.Compare a [op, op'] [b, cnd] pos) (tTest (tChain r r' ta tb tc)) (wTest (wChain wo wo' wa wb wc)) := ⟨pt_chain ho ho' ha.pe hb.pe hc.pe hm, snd_test (snd_chain ha.snd hb.snd hc.snd so so')⟩

/-! ### and, or, not -/
structure DW (X : Cx) (e : Expr) (t : TT) (w : WT) : Prop where
  pw : PW X e t
  snd : SndT X.K t w
def wAndT (w w' : WT) : WT := fun env q => w env fun b => match b with | true => w' env q | false => q false
def wOrT (w w' : WT) : WT := fun env q => w env fun b => match b with | true => q true | false => w' env q
def wNotT (w : WT) : WT := fun env q => w env fun b => q (!b)
variable {rest : List Expr}
theorem dw_and1 (ha : DT X a tt wt) : DW X (.BoolOp .And [a] pos) tt wt := ⟨pw_and1 ha.pt, ha.snd⟩
theorem dw_or1 (ha : DT X a tt wt) : DW X (.BoolOp .Or [a] pos) tt wt := ⟨pw_or1 ha.pt, ha.snd⟩
theorem dw_and (ha : DT X a tt wt) (hb : DW X (.BoolOp .And (b :: rest) pos) tt' wt') : DW X (.BoolOp .And (a :: b :: rest) pos) (tAnd tt tt') (wAndT wt wt') := ⟨pw_and ha.pt hb.pw, fun c G H env σ Q q f hw k =>
  ha.snd c G H env σ _ _ f hw fun b G' H' f' s hq => by
    cases b with
    | true => exact iteT (hb.snd c G' H' env σ Q q f' hq fun b G2 H2 f2 s2 hq2 => k b G2 H2 f2 (s.trans s2) hq2)
    | false => exact iteF (k false G' H' f' s hq)⟩
theorem dw_or (ha : DT X a tt wt) (hb : DW X (.BoolOp .Or (b :: rest) pos) tt' wt') : DW X (.BoolOp .Or (a :: b :: rest) pos) (tOr tt tt') (wOrT wt wt') := ⟨pw_or ha.pt hb.pw, fun c G H env σ Q q f hw k =>
  ha.snd c G H env σ _ _ f hw fun b G' H' f' s hq => by
    cases b with
    | true => exact iteT (k true G' H' f' s hq)
    | false => exact iteF (hb.snd c G' H' env σ Q q f' hq fun b G2 H2 f2 s2 hq2 => k b G2 H2 f2 (s.trans s2) hq2)⟩
theorem DW.dt (h : DW X e tt wt) : DT X e tt wt := ⟨h.pw.pt, h.snd⟩
theorem dt_not (ha : DT X a tt wt) : DT X (.UnaryOp .Not a pos) (tNot tt) (wNotT wt) := ⟨pt_not ha.pt, fun c G H env σ Q q f hw k => ha.snd c G H env σ _ _ f hw fun b G' H' f' s hq => k (!b) G' H' f' s hq⟩
def wAndV (wa wb : WE) : WE := fun env q => wa env fun d => match d with | .bl true => wb env q | .bl false => q (.bl false) | _ => False
def wOrV (wa wb : WE) : WE := fun env q => wa env fun d => match d with | .bl true => q (.bl true) | .bl false => wb env q | _ => False
def wNotV (wa : WE) : WE := fun env q => wa env fun d => match d with | .bl b => q (.bl (!b)) | _ => False
theorem de_one {op} (h : DE X a t w) : DE X (.BoolOp op [a] pos) t w := ⟨pe_one h.pe, h.snd⟩
theorem de_and (ha : DE X a ta wa) (hb : DE X (.BoolOp .And (b :: rest) pos) tb wb) : DE X (.BoolOp .And (a :: b :: rest) pos) (tAndV ta tb) (wAndV wa wb) := ⟨pe_and ha.pe hb.pe, fun c G H env σ Q q f hw k =>
  ha.snd c G H env σ _ _ f hw fun v d G' H' f' s r hq => by
    cases d with
    | bl b =>
      refine ⟨b, r, ?_⟩
      cases b with
      | true => exact iteT (hb.snd c G' H' env σ Q q f' hq fun v d G2 H2 f2 s2 r2 hq2 => k v d G2 H2 f2 (s.trans s2) r2 hq2)
      | false => exact iteF (k _ _ G' H' f' s R.bl_ hq)
    | _ => exact hq.elim⟩
theorem de_or (ha : DE X a ta wa) (hb : DE X (.BoolOp .Or (b :: rest) pos) tb wb) : DE X (.BoolOp .Or (a :: b :: rest) pos) (tOrV ta tb) (wOrV wa wb) := ⟨pe_or ha.pe hb.pe, fun c G H env σ Q q f hw k =>
  ha.snd c G H env σ _ _ f hw fun v d G' H' f' s r hq => by
    cases d with
    | bl b =>
      refine ⟨b, r, ?_⟩
      cases b with
      | true => exact iteT (k _ _ G' H' f' s R.bl_ hq)
      | false => exact iteF (hb.snd c G' H' env σ Q q f' hq fun v d G2 H2 f2 s2 r2 hq2 => k v d G2 H2 f2 (s.trans s2) r2 hq2)
    | _ => exact hq.elim⟩
theorem de_not (ha : DE X a ta wa) : DE X (.UnaryOp .Not a pos) (tNotV ta) (wNotV wa) := ⟨pe_not ha.pe, fun c G H env σ Q q f hw k =>
  ha.snd c G H env σ _ _ f hw fun v d G' H' f' s r hq => by
    cases d with
    | bl b => exact ⟨b, r, k _ _ G' H' f' s R.bl_ hq⟩
    | _ => exact hq.elim⟩
def wIfE (wt : WT) (wa wb : WE) : WE := fun env q => wt env fun b => match b with | true => wa env q | false => wb env q
theorem de_ifE (hc : DT X cnd tt wt) (ha : DE X a ta wa) (hb : DE X b tb wb) : DE X (.IfExp cnd a b pos) (tIf tt ta tb) (wIfE wt wa wb) := ⟨pe_ifExp hc.pt ha.pe hb.pe, fun c G H env σ Q q f hw k =>
  hc.snd c G H env σ _ _ f hw fun x G' H' f' s hq => by
    cases x with
    | true => exact iteT (ha.snd c G' H' env σ Q q f' hq fun v d G2 H2 f2 s2 r2 hq2 => k v d G2 H2 f2 (s.trans s2) r2 hq2)
    | false => exact iteF (hb.snd c G' H' env σ Q q f' hq fun v d G2 H2 f2 s2 r2 hq2 => k v d G2 H2 f2 (s.trans s2) r2 hq2)⟩

/-! ### argument lists, displays -/
def wNil : WA := fun _ q => q []
def wCons (w : WE) (wr : WA) : WA := fun env q => w env fun d => wr env fun ds => q (d :: ds)
theorem da_nil : DA X [] tNil wNil := ⟨pa_nil, fun _ G H _ _ _ _ f hw k => k [] [] G H f (Gr.refl f) .nil hw⟩
theorem da_cons (ha : DE X e t w) (hr : DA X es tA wA) (hs : starEach (e :: es) X.env = (false, eval e X.env) :: starEach es X.env := by rfl) : DA X (e :: es) (tCons t tA) (wCons w wA) := ⟨pa_cons ha.pe hr.pa hs, fun c G H env σ Q q f hw k =>
  ha.snd c G H env σ _ _ f hw fun v d G1 H1 f1 s1 r1 hw1 => hr.snd c G1 H1 env σ _ _ f1 hw1 fun vs ds G2 H2 f2 s2 r2 hq => k (v :: vs) (d :: ds) G2 H2 f2 (s1.trans s2) (.cons (r1.mono s2.gg) r2) hq⟩
def wTup (wA : WA) : WE := fun env q => wA env fun ds => ds.length ≤ sizeLine ∧ q (.tup ds)
def wLst (wA : WA) : WA := fun env q => wA env fun ds => ds.length ≤ sizeLine ∧ q ds
theorem de_tup {x1} (h : DA X es tA wA) : DE X (.Tuple es x1 pos) (tTup tA) (wTup wA) := ⟨pe_tup h.pa, fun c G H env σ Q q f hw k =>
  h.snd c G H env σ _ _ f hw fun vs ds G1 H1 f1 s1 r1 hq => ⟨by rw [r1.length]; exact hq.1, fun p hp => by
    have g := f1.newG (o := .tup vs) hp
    exact k _ _ _ _ (f1.step g) (s1.trans g) (.tup (SqT.of upd_same) (RL.mono g.gg _ _ r1)) hq.2⟩⟩
theorem dn_lst (h : DA X es tA wA) : DN X (.List es pos) (tLst tA) (wLst wA) := ⟨pe_lst h.pa, fun c G H env σ Q q f hw k =>
  h.snd c G H env σ _ _ f hw fun vs ds G1 H1 f1 s1 r1 hq => ⟨by rw [r1.length]; exact hq.1, fun p hp => by
    have g := f1.newH (o := .lst vs) hp
    exact k p vs ds G1 _ (f1.step g) (s1.trans g) upd_same r1 (f1.gnone hp) (f1.h0none hp) (s1.fresh hp) (f1.noOwn hp) hq.2⟩⟩

/-! ### calls of the text's own defs -/
/-- what a def is worth: plain data in, plain data out -/
def spD (K : PySem.W.Frag) (W : List D → (D → Prop) → Prop) : Sp := fun vs H Q _ => ∃ (G : Hp) (ds : List D) (q : D → Prop), Same G H ∧ RL K G ds vs ∧ W ds q ∧
  ∀ v d G' H', Same H H' → Same G G' → Same G' H' → (∀ a o, H a = some o → G a = none → G' a = none) → R K G' d v → q d → Q v H'
/-- the same where the first argument is the draw -/
def spR (K : PySem.W.Frag) (W : List D → (D → Prop) → Prop) : Sp := fun vs H Q _ => ∃ (G : Hp) (a : Addr) (us : List V) (ds : List D) (q : D → Prop), vs = .ref a :: us ∧ Same G H ∧ DrC K G H a ∧ RL K G ds us ∧ W ds q ∧
  ∀ v d G' H', (∀ b o, H b = some o → b ≠ a → H' b = some o) → Same G G' → Same G' H' → (∀ b o, H b = some o → G b = none → G' b = none) → DrC K G' H' a → R K G' d v → q d → Q v H'
theorem gr_call {K : PySem.W.Frag} {c : Ctx} {G H G' H' : Hp} {env : List Sl} {σ : L2.St} (f : Fr K c G H env σ) (h1 : Same H H') (h2 : Same G G') (h3 : Same G' H') (h4 : ∀ a o, H a = some o → G a = none → G' a = none) : Gr K c.da G H G' H' :=
  ⟨h2, h3, fun a o h _ => h1 a o h, h4, fun a e => (f.dr a e).same h2 (by
    obtain ⟨n, s, k, ns, q, _⟩ := f.dr a e
    exact h4 a _ q n) fun o h => h1 a o h⟩
theorem snd_call {K : PySem.W.Frag} {W : List D → (D → Prop) → Prop} (h : SndA K tA wA) : Snd K (tCall (spD K W) [] E0 tA) (fun env q => wA env fun ds => W ds q) := fun c G H env σ Q q f hw k =>
  h c G H env σ _ _ f hw fun vs ds G1 H1 f1 s1 r1 hq => by
    show spD K W (vs ++ []) H1 Q E0
    rw [List.append_nil]
    refine ⟨G1, ds, q, f1.gh, r1, hq, fun v d G' H' h1 h2 h3 h4 r hq' => ?_⟩
    have g := gr_call f1 h1 h2 h3 h4
    exact k v d G' H' (f1.step g) (s1.trans g) r hq'
def wCall (W : List D → (D → Prop) → Prop) (wA : WA) : WE := fun env q => wA env fun ds => W ds q
theorem de_call {k : Nat} {f : Addr} {fd : FuncData} {ps : List Str} {W : List D → (D → Prop) → Prop} {x : Str} {p : Pos} (F : FnOk X.prog X.w X.K X.mg X.base CX0 k f fd ps (spD X.K W)) (hr : Room k X.A) (hg : Gl X x) (hm : X.mg x = some (.ref f)) (hk : PySem.W.keepIn X.K (.ref f) = true) (hb : Binds X.K fd ps [])
    (ha : DA X (e :: es) tA wA) (hdb : (x == ("__debug__" : Str)) = false := by decide) (he : starEach (e :: es) X.env = (false, eval e X.env) :: starEach es X.env := by rfl) (hpl : (backTo pos (starEach es X.env)).any (·.1) = false := by rfl) :
    DE X (.Call (.Name x p) (e :: es) [] pos) (tCall (spD X.K W) [] E0 tA) (wCall W wA) := ⟨pe_call F hr hg hm hk hb .nil pass0 ha.pa hdb he hpl, snd_call ha.snd⟩
/-- the draw's slot as the first argument -/
def isDr (env : List Sl) (i : Nat) : Prop := match env[i]? with | some .dr => True | _ => False
def wCallR (W : List D → (D → Prop) → Prop) (i : Nat) (wA : WA) : WE := fun env q => isDr env i ∧ wA env fun ds => W ds q
theorem snd_callR {K : PySem.W.Frag} {W : List D → (D → Prop) → Prop} {i : Nat} (h : SndA K tA wA) : Snd K (tCall (spR K W) [] E0 (tCons (tVar i) tA)) (wCallR W i wA) := fun c G H env σ Q q f hw k => by
  obtain ⟨hd, hw⟩ := hw
  unfold isDr at hd
  split at hd
  · rename_i e
    obtain ⟨o, e1, a, rfl, e2⟩ := f.get e
    refine ⟨.ref a, e1, ?_⟩
    refine h c G H env σ _ _ f hw fun vs ds G1 H1 f1 s1 r1 hq => ?_
    show spR K W ((.ref a :: vs) ++ []) H1 Q E0
    rw [List.append_nil]
    refine ⟨G1, a, vs, ds, q, rfl, f1.gh, f1.dr a e2, r1, hq, fun v d G' H' h1 h2 h3 h4 h5 r hq' => ?_⟩
    have g : Gr K c.da G1 H1 G' H' := ⟨h2, h3, fun b o hb n => h1 b o hb fun z => n (z ▸ e2), h4, fun b eb => by rw [e2] at eb; cases eb; exact h5⟩
    exact k v d G' H' (f1.step g) (s1.trans g) r hq'
  · exact hd.elim
theorem de_callR (i : Nat) {k : Nat} {f : Addr} {fd : FuncData} {ps : List Str} {W : List D → (D → Prop) → Prop} {x y : Str} {p p2 : Pos} (F : FnOk X.prog X.w X.K X.mg X.base CX0 k f fd ps (spR X.K W)) (hr : Room k X.A) (hg : Gl X x) (hm : X.mg x = some (.ref f)) (hk : PySem.W.keepIn X.K (.ref f) = true) (hb : Binds X.K fd ps [])
    (hv : PE X (.Name y p2) (tVar i)) (ha : DA X es tA wA) (hdb : (x == ("__debug__" : Str)) = false := by decide) (he : starEach (.Name y p2 :: es) X.env = (false, eval (.Name y p2) X.env) :: starEach es X.env := by rfl) (hpl : (backTo pos (starEach es X.env)).any (·.1) = false := by rfl) :
    DE X (.Call (.Name x p) (.Name y p2 :: es) [] pos) (tCall (spR X.K W) [] E0 (tCons (tVar i) tA)) (wCallR W i wA) := ⟨pe_call F hr hg hm hk hb .nil pass0 (pa_cons hv ha.pa he) hdb he hpl, snd_callR ha.snd⟩
end
end Y

namespace Y
open PySem L2
/-! ### ints, texts, tuples, lists under operators -/
def wAdd : WO := fun d e q => match d, e with
  | .int i, .int j => q (.int (i + j))
  | .str s, .str t => s.length + t.length ≤ sizeLine ∧ q (.str (s ++ t))
  | .tup xs, .tup ys => xs.length + ys.length ≤ sizeLine ∧ q (.tup (xs ++ ys))
  | _, _ => False
def wSub : WO := fun d e q => match d, e with | .int i, .int j => q (.int (i - j)) | _, _ => False
/-- a small factor on one side -/
def MulOk (i j : Int) : Prop := (-(2 ^ 64) < i ∧ i < 2 ^ 64) ∨ (-(2 ^ 64) < j ∧ j < 2 ^ 64)
def wMul : WO := fun d e q => match d, e with | .int i, .int j => MulOk i j ∧ q (.int (i * j)) | _, _ => False
def wMod : WO := fun d e q => match d, e with | .int i, .int j => 0 < j ∧ q (.int (i % j)) | _, _ => False
def wFdiv : WO := fun d e q => match d, e with | .int i, .int j => (0 < j ∧ j < 1073741824) ∧ q (.int (i / j)) | _, _ => False
def wPow : WO := fun d e q => match d, e with | .int i, .int j => (0 ≤ j ∧ j ≤ 1000000 ∧ i.natAbs < 2 ^ 64) ∧ q (.int (i ^ j.toNat)) | _, _ => False
def wLt : WO := fun d e q => match d, e with | .int i, .int j => (i < j → q (.bl true)) ∧ (¬ i < j → q (.bl false)) | _, _ => False
def wLe : WO := fun d e q => match d, e with | .int i, .int j => (i ≤ j → q (.bl true)) ∧ (¬ i ≤ j → q (.bl false)) | _, _ => False
def wGt : WO := fun d e q => match d, e with | .int i, .int j => (j < i → q (.bl true)) ∧ (¬ j < i → q (.bl false)) | _, _ => False
def wGe : WO := fun d e q => match d, e with | .int i, .int j => (j ≤ i → q (.bl true)) ∧ (¬ j ≤ i → q (.bl false)) | _, _ => False
def wIsN : WO := fun d e q => match e with | .non => (d = .non → q (.bl true)) ∧ (d ≠ .non → q (.bl false)) | _ => False
def wNotN : WO := fun d e q => match e with | .non => (d = .non → q (.bl false)) ∧ (d ≠ .non → q (.bl true)) | _ => False

section
variable {K : PySem.W.Frag} {X : Cx}
theorem RH.int {G H : Hp} {i : Int} {v : V} (h : RH K G H (.int i) v) : v = .int i := h
theorem RH.bl {G H : Hp} {i : Bool} {v : V} (h : RH K G H (.bl i) v) : v = .bl i := h
theorem RH.str {G H : Hp} {i : Str} {v : V} (h : RH K G H (.str i) v) : v = .str i := h
theorem RH.tup {G H : Hp} {ds : List D} {v : V} (h : RH K G H (.tup ds) v) : ∃ a vs, v = .ref a ∧ SqT K G a vs ∧ RL K G ds vs := R.tupE (show R K G (.tup ds) v from h)
theorem RH.lst {G H : Hp} {ds : List D} {v : V} (h : RH K G H (.lst ds) v) : ∃ a vs, v = .ref a ∧ H a = some (.lst vs) ∧ RL K G ds vs := h
theorem RH.isN {G H : Hp} {d : D} {v : V} (h : RH K G H d v) : v = .non ↔ d = .non := by
  cases d with
  | non => exact ⟨fun _ => rfl, fun _ => h⟩
  | bl b => rw [RH.bl h]; simp
  | int b => rw [RH.int h]; simp
  | str b => rw [RH.str h]; simp
  | tup b => obtain ⟨a, vs, rfl, _⟩ := h.tup; simp
  | lst b => obtain ⟨a, vs, rfl, _⟩ := h.lst; simp
  | dct b => unfold RH R at h; obtain ⟨a, vs, rfl, _⟩ := h; simp
  | ins C b => unfold RH R at h; obtain ⟨a, dx, vs, rfl, _⟩ := h; simp
def rAddU (K : PySem.W.Frag) : R2 := fun x y H Q => (rI0 (fun i j => .int (i + j))) x y H Q ∨ (fun x y (H : Hp) (Q : VK) => ∃ i j, x = .str i ∧ y = .str j ∧ i.length + j.length ≤ sizeLine ∧ Q (.str (i ++ j)) H) x y H Q ∨ rCatA K x y H Q
theorem op_addU : OpR X (binaryOp .Add) (rAddU X.K) := op_add.or (op_add_str.or op_catA)
theorem so_add : SndO K (rAddU K) wAdd := fun c G H env σ x y d e Q q f hx hy hw k => by
  unfold wAdd at hw
  split at hw
  · exact .inl ⟨_, _, hx.int, hy.int, k _ _ G H f (Gr.refl f) R.int_ hw⟩
  · exact .inr (.inl ⟨_, _, hx.str, hy.str, hw.1, k _ _ G H f (Gr.refl f) R.str_ hw.2⟩)
  · obtain ⟨a, vs, rfl, h1, h2⟩ := hx.tup
    obtain ⟨b, us, rfl, h3, h4⟩ := hy.tup
    refine .inr (.inr ⟨a, b, vs, us, rfl, rfl, sqt_same f.gh h1, sqt_same f.gh h3, by rw [h2.length, h4.length]; exact hw.1, fun e => ?_, fun e1 e2 => ?_, fun e1 e2 p hp => ?_⟩)
    · refine k _ _ G H f (Gr.refl f) (.tup h3 ?_) hw.2
      have := h2.append h4
      rw [e] at this
      exact this
    · refine k _ _ G H f (Gr.refl f) (.tup h1 ?_) hw.2
      have := h2.append h4
      rw [e2, List.append_nil] at this
      exact this
    · have g := f.newG (o := .tup (vs ++ us)) hp
      exact k _ _ _ _ (f.step g) g (.tup (SqT.of upd_same) (RL.mono g.gg _ _ (h2.append h4))) hw.2
  · exact hw.elim
theorem so_int {wo : WO} {C : Int → Int → Prop} {g : Int → Int → V} {z : Int → Int → D} (h : ∀ d e q, wo d e q → ∃ i j, d = .int i ∧ e = .int j ∧ C i j ∧ q (z i j)) (r : ∀ G i j, R K G (z i j) (g i j)) : SndO K (rI C g) wo := fun c G H env σ x y d e Q q f hx hy hw k => by
  obtain ⟨i, j, rfl, rfl, hc, hq⟩ := h d e q hw
  exact ⟨i, j, hx.int, hy.int, hc, k _ _ G H f (Gr.refl f) (r G i j) hq⟩
theorem so_sub : SndO K (rI0 fun i j => .int (i - j)) wSub := fun c G H env σ x y d e Q q f hx hy hw k => by
  unfold wSub at hw
  split at hw
  · exact ⟨_, _, hx.int, hy.int, k _ _ G H f (Gr.refl f) R.int_ hw⟩
  · exact hw.elim
theorem so_mul : SndO K (rI CMul fun i j => .int (i * j)) wMul := so_int (z := fun i j => .int (i * j)) (fun d e q hw => by
  unfold wMul at hw
  split at hw
  · exact ⟨_, _, rfl, rfl, hw⟩
  · exact hw.elim) fun _ _ _ => R.int_
theorem so_mod : SndO K (rI (fun _ j => 0 < j) fun i j => .int (i % j)) wMod := so_int (z := fun i j => .int (i % j)) (fun d e q hw => by
  unfold wMod at hw
  split at hw
  · exact ⟨_, _, rfl, rfl, hw⟩
  · exact hw.elim) fun _ _ _ => R.int_
theorem so_fdiv : SndO K (rI CDiv fun i j => .int (i / j)) wFdiv := so_int (z := fun i j => .int (i / j)) (fun d e q hw => by
  unfold wFdiv at hw
  split at hw
  · exact ⟨_, _, rfl, rfl, hw⟩
  · exact hw.elim) fun _ _ _ => R.int_
theorem so_pow : SndO K (rI CPow fun i j => .int (i ^ j.toNat)) wPow := so_int (z := fun i j => .int (i ^ j.toNat)) (fun d e q hw => by
  unfold wPow at hw
  split at hw
  · exact ⟨_, _, rfl, rfl, hw⟩
  · exact hw.elim) fun _ _ _ => R.int_
theorem so_cmp {wo : WO} {p : Int → Int → Prop} [∀ i j, Decidable (p i j)] (h : ∀ d e q, wo d e q → ∃ i j, d = .int i ∧ e = .int j ∧ (p i j → q (.bl true)) ∧ (¬ p i j → q (.bl false))) : SndO K (rI0 fun i j => .bl (decide (p i j))) wo := fun c G H env σ x y d e Q q f hx hy hw k => by
  obtain ⟨i, j, rfl, rfl, h1, h2⟩ := h d e q hw
  refine ⟨i, j, hx.int, hy.int, ?_⟩
  by_cases hp : p i j
  · show Q (V.bl (decide (p i j))) H
    rw [decide_eq_true hp]; exact k _ _ G H f (Gr.refl f) R.bl_ (h1 hp)
  · show Q (V.bl (decide (p i j))) H
    rw [decide_eq_false hp]; exact k _ _ G H f (Gr.refl f) R.bl_ (h2 hp)
theorem so_lt : SndO K (rI0 fun i j => .bl (decide (i < j))) wLt := so_cmp fun d e q hw => by
  unfold wLt at hw
  split at hw
  · exact ⟨_, _, rfl, rfl, hw⟩
  · exact hw.elim
theorem so_le : SndO K (rI0 fun i j => .bl (decide (i ≤ j))) wLe := so_cmp fun d e q hw => by
  unfold wLe at hw
  split at hw
  · exact ⟨_, _, rfl, rfl, hw⟩
  · exact hw.elim
theorem so_gt : SndO K (rI0 fun i j => .bl (decide (j < i))) wGt := so_cmp (p := fun i j => j < i) fun d e q hw => by
  unfold wGt at hw
  split at hw
  · exact ⟨_, _, rfl, rfl, hw⟩
  · exact hw.elim
theorem so_ge : SndO K (rI0 fun i j => .bl (decide (j ≤ i))) wGe := so_cmp (p := fun i j => j ≤ i) fun d e q hw => by
  unfold wGe at hw
  split at hw
  · exact ⟨_, _, rfl, rfl, hw⟩
  · exact hw.elim
theorem so_isN : SndO K (fun x y H Q => y = .non ∧ Q (.bl (decide (x = .non))) H) wIsN := fun c G H env σ x y d e Q q f hx hy hw k => by
  unfold wIsN at hw
  split at hw
  · refine ⟨hy, ?_⟩
    by_cases h : x = .non
    · rw [decide_eq_true h]; exact k _ _ G H f (Gr.refl f) R.bl_ (hw.1 (hx.isN.mp h))
    · rw [decide_eq_false h]; exact k _ _ G H f (Gr.refl f) R.bl_ (hw.2 fun e => h (hx.isN.mpr e))
  · exact hw.elim
theorem so_notN : SndO K (fun x y H Q => y = .non ∧ Q (.bl (!decide (x = .non))) H) wNotN := fun c G H env σ x y d e Q q f hx hy hw k => by
  unfold wNotN at hw
  split at hw
  · refine ⟨hy, ?_⟩
    by_cases h : x = .non
    · rw [decide_eq_true h]; exact k _ _ G H f (Gr.refl f) R.bl_ (hw.1 (hx.isN.mp h))
    · rw [decide_eq_false h]; exact k _ _ G H f (Gr.refl f) R.bl_ (hw.2 fun e => h (hx.isN.mpr e))
  · exact hw.elim
end

/-! ### == of plain data without truth values -/
mutual
def D.py : D → PyData
  | .non => .none
  | .bl b => .bool b
  | .int i => .int i
  | .str s => .str s
  | .tup ds => .tuple (D.pys ds)
  | .lst ds => .list (D.pys ds)
  | .dct _ => .none
  | .ins _ _ => .none
def D.pys : List D → List PyData
  | [] => []
  | d :: ds => d.py :: D.pys ds
end
mutual
/-- no truth value, no object within, at most so deep -/
def Pu : Nat → D → Prop
  | _, .non => True
  | _, .int _ => True
  | _, .str s => PyData.canLay0 (.str s) = true
  | n + 1, .tup ds => PuL n ds
  | n + 1, .lst ds => PuL n ds
  | _, _ => False
def PuL : Nat → List D → Prop
  | _, [] => True
  | n, d :: ds => Pu n d ∧ PuL n ds
end
theorem PuL.map {α : Type} {n : Nat} {g : α → D} : ∀ {xs : List α}, (∀ x ∈ xs, Pu n (g x)) → PuL n (xs.map g)
  | [], _ => by unfold PuL; trivial
  | x :: xs, h => by
    show PuL n (g x :: xs.map g)
    unfold PuL
    exact ⟨h x List.mem_cons_self, PuL.map fun y hy => h y (List.mem_cons_of_mem _ hy)⟩
theorem PuL.append {n : Nat} : ∀ {xs ys : List D}, PuL n xs → PuL n ys → PuL n (xs ++ ys)
  | [], _, _, h => h
  | x :: xs, ys, h, g => by
    unfold PuL at h
    show PuL n (x :: (xs ++ ys))
    unfold PuL
    exact ⟨h.1, PuL.append h.2 g⟩
section
variable {K : PySem.W.Frag} {X : Cx}
mutual
theorem R.dp {H : Hp} : ∀ (n : Nat) (d : D) (v : V), Pu n d → R K H d v → Dp K H v d.py
  | _, .non, v, _, h => by rw [show v = .non from h]; exact .non
  | _, .int i, v, _, h => by rw [show v = .int i from h]; exact .int i
  | _, .str s, v, _, h => by rw [show v = .str s from h]; exact .str s
  | n + 1, .tup ds, v, p, h => by
    obtain ⟨a, vs, rfl, h1, h2⟩ := h.tupE
    exact .tup h1 (RL.dp n ds vs (by unfold Pu at p; exact p) h2)
  | n + 1, .lst ds, v, p, h => by
    obtain ⟨a, vs, rfl, h1, h2⟩ := h.lstE
    exact .lst (SqL.of h1) (RL.dp n ds vs (by unfold Pu at p; exact p) h2)
  | 0, .tup _, _, p, _ => by unfold Pu at p; exact p.elim
  | 0, .lst _, _, p, _ => by unfold Pu at p; exact p.elim
  | _, .bl _, _, p, _ => by unfold Pu at p; exact p.elim
  | _, .dct _, _, p, _ => by unfold Pu at p; exact p.elim
  | _, .ins _ _, _, p, _ => by unfold Pu at p; exact p.elim
theorem RL.dp {H : Hp} : ∀ (n : Nat) (ds : List D) (vs : List V), PuL n ds → RL K H ds vs → DpAll K H vs (D.pys ds)
  | _, [], vs, _, h => by rw [RL.nilE h]; exact .nil
  | n, d :: ds, vs, p, h => by
    obtain ⟨v, r, rfl, h1, h2⟩ := h.consE
    unfold PuL at p
    exact .cons (R.dp n d v p.1 h1) (RL.dp n ds r p.2 h2)
end
mutual
theorem Pu.lay : ∀ (n : Nat) (d : D), Pu n d → PyData.canLay0 d.py = true ∧ PyData.depth d.py ≤ n
  | _, .non, _ => ⟨rfl, Nat.zero_le _⟩
  | _, .int _, _ => ⟨rfl, Nat.zero_le _⟩
  | _, .str s, p => ⟨by unfold Pu at p; exact p, Nat.zero_le _⟩
  | n + 1, .tup ds, p => by
    obtain ⟨h1, h2⟩ := PuL.lay n ds (by unfold Pu at p; exact p)
    exact ⟨h1, Nat.succ_le_succ h2⟩
  | n + 1, .lst ds, p => by
    obtain ⟨h1, h2⟩ := PuL.lay n ds (by unfold Pu at p; exact p)
    exact ⟨h1, Nat.succ_le_succ h2⟩
  | 0, .tup _, p => by unfold Pu at p; exact p.elim
  | 0, .lst _, p => by unfold Pu at p; exact p.elim
  | _, .bl _, p => by unfold Pu at p; exact p.elim
  | _, .dct _, p => by unfold Pu at p; exact p.elim
  | _, .ins _ _, p => by unfold Pu at p; exact p.elim
theorem PuL.lay : ∀ (n : Nat) (ds : List D), PuL n ds → PyData.canLayAll0 (D.pys ds) = true ∧ PyData.depthAll (D.pys ds) ≤ n
  | n, [], _ => ⟨rfl, Nat.zero_le _⟩
  | n, d :: ds, p => by
    unfold PuL at p
    obtain ⟨h1, h2⟩ := Pu.lay n d p.1
    obtain ⟨h3, h4⟩ := PuL.lay n ds p.2
    refine ⟨?_, Nat.max_le.mpr ⟨h2, h4⟩⟩
    show (PyData.canLay0 d.py && PyData.canLayAll0 (D.pys ds)) = true
    rw [h1, h3]; rfl
end
theorem Pu.shaped {d : D} (h : Pu 32 d) : SeqAt.shaped d.py = true := by
  obtain ⟨h1, h2⟩ := Pu.lay 32 d h
  unfold SeqAt.shaped
  rw [Bool.and_eq_true]
  exact ⟨h1, decide_eq_true (Nat.le_trans h2 (by decide))⟩
mutual
theorem Pu.eqv : ∀ (n m : Nat) (d e : D), Pu n d → Pu m e → (PyData.eqv d.py e.py = true ↔ d = e)
  | _, _, .non, .non, _, _ => by simp [D.py, PyData.eqv]
  | _, _, .non, .int _, _, _ => by simp [D.py, PyData.eqv]
  | _, _, .non, .str _, _, _ => by simp [D.py, PyData.eqv]
  | _, _, .non, .tup _, _, _ => by simp [D.py, PyData.eqv]
  | _, _, .non, .lst _, _, _ => by simp [D.py, PyData.eqv]
  | _, _, .int _, .non, _, _ => by simp [D.py, PyData.eqv]
  | _, _, .int _, .int _, _, _ => by simp [D.py, PyData.eqv]
  | _, _, .int _, .str _, _, _ => by simp [D.py, PyData.eqv]
  | _, _, .int _, .tup _, _, _ => by simp [D.py, PyData.eqv]
  | _, _, .int _, .lst _, _, _ => by simp [D.py, PyData.eqv]
  | _, _, .str _, .non, _, _ => by simp [D.py, PyData.eqv]
  | _, _, .str _, .int _, _, _ => by simp [D.py, PyData.eqv]
  | _, _, .str _, .str _, _, _ => by simp [D.py, PyData.eqv]
  | _, _, .str _, .tup _, _, _ => by simp [D.py, PyData.eqv]
  | _, _, .str _, .lst _, _, _ => by simp [D.py, PyData.eqv]
  | _, _, .tup _, .non, _, _ => by simp [D.py, PyData.eqv]
  | _, _, .tup _, .int _, _, _ => by simp [D.py, PyData.eqv]
  | _, _, .tup _, .str _, _, _ => by simp [D.py, PyData.eqv]
  | n + 1, m + 1, .tup ds, .tup es, p, p' => by
    unfold Pu at p p'
    have h := PuL.eqv n m ds es p p'
    show PyData.eqvAll (D.pys ds) (D.pys es) = true ↔ _
    rw [h]; simp
  | _, _, .tup _, .lst _, _, _ => by simp [D.py, PyData.eqv]
  | _, _, .lst _, .non, _, _ => by simp [D.py, PyData.eqv]
  | _, _, .lst _, .int _, _, _ => by simp [D.py, PyData.eqv]
  | _, _, .lst _, .str _, _, _ => by simp [D.py, PyData.eqv]
  | _, _, .lst _, .tup _, _, _ => by simp [D.py, PyData.eqv]
  | n + 1, m + 1, .lst ds, .lst es, p, p' => by
    unfold Pu at p p'
    have h := PuL.eqv n m ds es p p'
    show PyData.eqvAll (D.pys ds) (D.pys es) = true ↔ _
    rw [h]; simp
  | 0, _, .tup _, _, p, _ => by unfold Pu at p; exact p.elim
  | 0, _, .lst _, _, p, _ => by unfold Pu at p; exact p.elim
  | _, 0, _, .tup _, _, p => by unfold Pu at p; exact p.elim
  | _, 0, _, .lst _, _, p => by unfold Pu at p; exact p.elim
  | _, _, .bl _, _, p, _ => by unfold Pu at p; exact p.elim
  | _, _, .dct _, _, p, _ => by unfold Pu at p; exact p.elim
  | _, _, .ins _ _, _, p, _ => by unfold Pu at p; exact p.elim
  | _, _, _, .bl _, _, p => by unfold Pu at p; exact p.elim
  | _, _, _, .dct _, _, p => by unfold Pu at p; exact p.elim
  | _, _, _, .ins _ _, _, p => by unfold Pu at p; exact p.elim
theorem PuL.eqv : ∀ (n m : Nat) (ds es : List D), PuL n ds → PuL m es → (PyData.eqvAll (D.pys ds) (D.pys es) = true ↔ ds = es)
  | _, _, [], [], _, _ => by simp [D.pys, PyData.eqvAll]
  | _, _, [], _ :: _, _, _ => by simp [D.pys, PyData.eqvAll]
  | _, _, _ :: _, [], _, _ => by simp [D.pys, PyData.eqvAll]
  | n, m, d :: ds, e :: es, p, p' => by
    unfold PuL at p p'
    have h1 := Pu.eqv n m d e p.1 p'.1
    have h2 := PuL.eqv n m ds es p.2 p'.2
    show (PyData.eqv d.py e.py && PyData.eqvAll (D.pys ds) (D.pys es)) = true ↔ _
    rw [Bool.and_eq_true, h1, h2]; simp
end
def wEq : WO := fun d e q => (Pu 32 d ∧ Pu 32 e) ∧ (d = e → q (.bl true)) ∧ (d ≠ e → q (.bl false))
def wNe : WO := fun d e q => (Pu 32 d ∧ Pu 32 e) ∧ (d ≠ e → q (.bl true)) ∧ (d = e → q (.bl false))
theorem RH.dp {G H : Hp} {n : Nat} {d : D} {v : V} (s : Same G H) (p : Pu n d) (h : RH K G H d v) : Dp K H v d.py := R.dp n d v p (h.r s)
theorem so_eq : SndO K (rEqD K) wEq := fun c G H env σ x y d e Q q f hx hy hw k => by
  obtain ⟨⟨p1, p2⟩, h1, h2⟩ := hw
  refine ⟨d.py, e.py, hx.dp f.gh p1, hy.dp f.gh p2, p1.shaped, p2.shaped, ?_⟩
  have iff := Pu.eqv 32 32 d e p1 p2
  by_cases h : d = e
  · rw [iff.mpr h]; exact k _ _ G H f (Gr.refl f) R.bl_ (h1 h)
  · rw [show PyData.eqv d.py e.py = false from Bool.eq_false_iff.mpr fun z => h (iff.mp z)]; exact k _ _ G H f (Gr.refl f) R.bl_ (h2 h)
theorem so_ne : SndO K (rNeD K) wNe := fun c G H env σ x y d e Q q f hx hy hw k => by
  obtain ⟨⟨p1, p2⟩, h1, h2⟩ := hw
  refine ⟨d.py, e.py, hx.dp f.gh p1, hy.dp f.gh p2, p1.shaped, p2.shaped, ?_⟩
  have iff := Pu.eqv 32 32 d e p1 p2
  by_cases h : d = e
  · rw [iff.mpr h]; exact k _ _ G H f (Gr.refl f) R.bl_ (h2 h)
  · rw [show PyData.eqv d.py e.py = false from Bool.eq_false_iff.mpr fun z => h (iff.mp z)]; exact k _ _ G H f (Gr.refl f) R.bl_ (h1 h)
/-! ### in, not in a list or tuple of flat things -/
def Flat : D → Prop
  | .non => True | .int _ => True | .str _ => True | _ => False
def items : D → Option (List D)
  | .lst ds => some ds | .tup ds => some ds | _ => none
def wIn : WO := fun d e q => match items e with | some ds => (Flat d ∧ ∀ x ∈ ds, Flat x) ∧ (d ∈ ds → q (.bl true)) ∧ (d ∉ ds → q (.bl false)) | none => False
def wNotIn : WO := fun d e q => match items e with | some ds => (Flat d ∧ ∀ x ∈ ds, Flat x) ∧ (d ∉ ds → q (.bl true)) ∧ (d ∈ ds → q (.bl false)) | none => False
theorem flat_V {H : Hp} {d : D} {v : V} (p : Flat d) (h : R K H d v) : flatV v = true := by
  cases d with
  | non => rw [show v = .non from h]; rfl
  | int i => rw [show v = .int i from h]; rfl
  | str i => rw [show v = .str i from h]; rfl
  | _ => exact p.elim
theorem flat_eq {H : Hp} {d e : D} {v u : V} (p : Flat d) (p' : Flat e) (h : R K H d v) (h' : R K H e u) : eqV v u = true ↔ d = e := by
  cases d with
  | non => rw [show v = .non from h]; cases e with
    | non => rw [show u = .non from h']; simp [eqV]
    | int i => rw [show u = .int i from h']; simp [eqV]
    | str i => rw [show u = .str i from h']; simp [eqV]
    | _ => exact p'.elim
  | int i => rw [show v = .int i from h]; cases e with
    | non => rw [show u = .non from h']; simp [eqV]
    | int i => rw [show u = .int i from h']; simp [eqV]
    | str i => rw [show u = .str i from h']; simp [eqV]
    | _ => exact p'.elim
  | str i => rw [show v = .str i from h]; cases e with
    | non => rw [show u = .non from h']; simp [eqV]
    | int i => rw [show u = .int i from h']; simp [eqV]
    | str i => rw [show u = .str i from h']; simp [eqV]
    | _ => exact p'.elim
  | _ => exact p.elim
theorem flat_all {H : Hp} : ∀ {ds : List D} {vs : List V}, (∀ x ∈ ds, Flat x) → RL K H ds vs → vs.all flatV = true
  | [], _, _, h => by rw [RL.nilE h]; rfl
  | d :: ds, _, p, h => by
    obtain ⟨v, r, rfl, h1, h2⟩ := h.consE
    rw [List.all_cons, flat_V (p d List.mem_cons_self) h1, flat_all (fun x hx => p x (List.mem_cons_of_mem _ hx)) h2]; rfl
theorem flat_in {H : Hp} {d : D} {v : V} (p : Flat d) (h : R K H d v) : ∀ {ds : List D} {vs : List V}, (∀ x ∈ ds, Flat x) → RL K H ds vs → (inV v vs = true ↔ d ∈ ds)
  | [], _, _, g => by rw [RL.nilE g]; simp [inV]
  | e :: ds, _, p', g => by
    obtain ⟨u, r, rfl, h1, h2⟩ := g.consE
    have ih := flat_in p h (fun x hx => p' x (List.mem_cons_of_mem _ hx)) h2
    have e1 := flat_eq (p' e List.mem_cons_self) p h1 h
    show (eqV u v || inV v r) = true ↔ _
    rw [Bool.or_eq_true, e1, ih, List.mem_cons]
    exact ⟨fun z => z.imp Eq.symm id, fun z => z.imp Eq.symm id⟩
theorem RH.seq {G H : Hp} (s : Same G H) {d : D} {v : V} {ds : List D} (h : RH K G H d v) (e : items d = some ds) : ∃ a vs, v = .ref a ∧ (SqL K H a vs ∨ SqT K H a vs) ∧ RL K G ds vs := by
  cases d with
  | lst es => cases e; obtain ⟨a, vs, e1, h1, h2⟩ := h.lst; exact ⟨a, vs, e1, .inl (SqL.of h1), h2⟩
  | tup es => cases e; obtain ⟨a, vs, e1, h1, h2⟩ := h.tup; exact ⟨a, vs, e1, .inr (sqt_same s h1), h2⟩
  | _ => cases e
theorem so_in : SndO K (rIn K false) wIn := fun c G H env σ x y d e Q q f hx hy hw k => by
  unfold wIn at hw
  split at hw
  · rename_i ds he
    obtain ⟨⟨p1, p2⟩, h1, h2⟩ := hw
    obtain ⟨a, vs, rfl, hs, r⟩ := hy.seq f.gh he
    have r' := RL.mono f.gh _ _ r
    have hx' := hx.r f.gh
    have iff := flat_in p1 hx' p2 r'
    refine ⟨a, vs, rfl, hs, flat_V p1 hx', flat_all p2 r', ?_⟩
    show Q (.bl (if false = true then !inV x vs else inV x vs)) H
    rw [if_neg Bool.false_ne_true]
    by_cases h : d ∈ ds
    · rw [iff.mpr h]; exact k _ _ G H f (Gr.refl f) R.bl_ (h1 h)
    · rw [show inV x vs = false from Bool.eq_false_iff.mpr fun z => h (iff.mp z)]; exact k _ _ G H f (Gr.refl f) R.bl_ (h2 h)
  · exact hw.elim
theorem so_notIn : SndO K (rIn K true) wNotIn := fun c G H env σ x y d e Q q f hx hy hw k => by
  unfold wNotIn at hw
  split at hw
  · rename_i ds he
    obtain ⟨⟨p1, p2⟩, h1, h2⟩ := hw
    obtain ⟨a, vs, rfl, hs, r⟩ := hy.seq f.gh he
    have r' := RL.mono f.gh _ _ r
    have hx' := hx.r f.gh
    have iff := flat_in p1 hx' p2 r'
    refine ⟨a, vs, rfl, hs, flat_V p1 hx', flat_all p2 r', ?_⟩
    show Q (.bl (if true = true then !inV x vs else inV x vs)) H
    rw [if_pos rfl]
    by_cases h : d ∈ ds
    · rw [iff.mpr h]; exact k _ _ G H f (Gr.refl f) R.bl_ (h2 h)
    · rw [show inV x vs = false from Bool.eq_false_iff.mpr fun z => h (iff.mp z)]; exact k _ _ G H f (Gr.refl f) R.bl_ (h1 h)
  · exact hw.elim
end
end Y

namespace Y
open PySem L2
/-! ### arguments that may be lists of ours -/
def RBL (K : PySem.W.Frag) (c : Ctx) (G : Hp) (env : List Sl) (σ : L2.St) : List D → List V → Prop
  | [], vs => vs = []
  | d :: ds, vs => ∃ v r, vs = v :: r ∧ RB K c G env σ d v ∧ RBL K c G env σ ds r
def SndAB (K : PySem.W.Frag) (t : TA) (w : WA) : Prop := ∀ (c : Ctx) (G H : Hp) (env : List Sl) (σ : L2.St) (Q : List V → Hp → Prop) (q : List D → Prop), Fr K c G H env σ → w env q →
  (∀ vs ds G' H', Fr K c G' H' env σ → Gr K c.da G H G' H' → RBL K c G' env σ ds vs → q ds → Q vs H') → t σ H Q
structure DAB (X : Cx) (es : List Expr) (t : TA) (w : WA) : Prop where
  pa : PA X es t
  snd : SndAB X.K t w
section
variable {X : Cx} {K : PySem.W.Frag} {e a b cnd : Expr} {es : List Expr} {t ta tb tc : TE} {w wa wb wc : WE} {tA : TA} {wA : WA} {tt tt' : TT} {wt wt' : WT} {pos : Pos}
theorem dab_nil : DAB X [] tNil wNil := ⟨pa_nil, fun _ G H _ _ _ _ f hw k => k [] [] G H f (Gr.refl f) rfl hw⟩
theorem dab_cons (ha : DB X e t w) (hr : DAB X es tA wA) (hs : starEach (e :: es) X.env = (false, eval e X.env) :: starEach es X.env := by rfl) : DAB X (e :: es) (tCons t tA) (wCons w wA) := ⟨pa_cons ha.pe hr.pa hs, fun c G H env σ Q q f hw k =>
  ha.snd c G H env σ _ _ f hw fun v d G1 H1 f1 s1 r1 hw1 => hr.snd c G1 H1 env σ _ _ f1 hw1 fun vs ds G2 H2 f2 s2 r2 hq => k (v :: vs) (d :: ds) G2 H2 f2 (s1.trans s2) ⟨v, vs, rfl, r1.mono s2.gg, r2⟩ hq⟩
/-- a built-in by data -/
abbrev WC := List D → (D → Prop) → Prop
def RHL (K : PySem.W.Frag) (G H : Hp) : List D → List V → Prop
  | [], vs => vs = []
  | d :: ds, vs => ∃ v r, vs = v :: r ∧ RH K G H d v ∧ RHL K G H ds r
theorem RBL.h {c : Ctx} {G G' H' : Hp} {env : List Sl} {σ : L2.St} (f : Fr K c G' H' env σ) (s : Same G G') : ∀ {ds : List D} {vs : List V}, RBL K c G env σ ds vs → RHL K G' H' ds vs
  | [], _, h => h
  | d :: ds, _, ⟨v, r, e, h1, h2⟩ => ⟨v, r, e, h1 G' H' f s, RBL.h f s h2⟩
def SndC (K : PySem.W.Frag) (r : List V → Hp → VK → Prop) (wc : WC) : Prop := ∀ (c : Ctx) (G H : Hp) (env : List Sl) (σ : L2.St) (xs : List V) (ds : List D) (Q : VK) (q : D → Prop), Fr K c G H env σ → RHL K G H ds xs → wc ds q →
  (∀ v z G' H', Fr K c G' H' env σ → Gr K c.da G H G' H' → R K G' z v → q z → Q v H') → r xs H Q
def wCB (wc : WC) (wA : WA) : WE := fun env q => wA env fun ds => wc ds q
theorem snd_cb {r : List V → Hp → VK → Prop} {wc : WC} (ha : SndAB K tA wA) (hc : SndC K r wc) : Snd K (tCB r tA) (wCB wc wA) := fun c G H env σ Q q f hw k =>
  ha c G H env σ _ _ f hw fun vs ds G1 H1 f1 s1 r1 hq => hc c G1 H1 env σ vs ds Q q f1 (RBL.h f1 (Same.refl _) r1) hq fun v z G2 H2 f2 s2 r2 hq2 => k v z G2 H2 f2 (s1.trans s2) r2 hq2
theorem de_cb {id : String} {x : Str} {p : Pos} {r : List V → Hp → VK → Prop} {wc : WC} (hc : CallR X (.builtin id) r) (sc : SndC X.K r wc) (hg : Gl X x) (hm : X.mg x = none) (hv : bootBuiltins x = some (.builtin id)) (ha : DAB X (e :: es) tA wA) (hn : x ≠ "__name__" := by decide) (hdb : (x == ("__debug__" : Str)) = false := by decide)
    (he : starEach (e :: es) X.env = (false, eval e X.env) :: starEach es X.env := by rfl) (hpl : (backTo pos (starEach es X.env)).any (·.1) = false := by rfl) : DE X (.Call (.Name x p) (e :: es) [] pos) (tCB r tA) (wCB wc wA) := ⟨pe_callB hc hg hm hv ha.pa hn hdb he hpl, snd_cb ha.snd sc⟩
theorem de_ty {id : String} {x : Str} {p : Pos} {r : List V → Hp → VK → Prop} {wc : WC} (hc : CallR X (.type id) r) (sc : SndC X.K r wc) (hg : Gl X x) (hm : X.mg x = none) (hv : bootBuiltins x = some (.type id)) (ha : DAB X (e :: es) tA wA) (hn : x ≠ "__name__" := by decide) (hdb : (x == ("__debug__" : Str)) = false := by decide)
    (he : starEach (e :: es) X.env = (false, eval e X.env) :: starEach es X.env := by rfl) (hpl : (backTo pos (starEach es X.env)).any (·.1) = false := by rfl) : DE X (.Call (.Name x p) (e :: es) [] pos) (tCB r tA) (wCB wc wA) := ⟨pe_callTy hc hg hm hv ha.pa hn hdb he hpl, snd_cb ha.snd sc⟩
theorem RHL.one {G H : Hp} {d : D} {xs : List V} (h : RHL K G H [d] xs) : ∃ v, xs = [v] ∧ RH K G H d v := by
  obtain ⟨v, r, rfl, h1, h2⟩ := h
  rw [show r = [] from h2]
  exact ⟨v, rfl, h1⟩
theorem RHL.two {G H : Hp} {d e : D} {xs : List V} (h : RHL K G H [d, e] xs) : ∃ v u, xs = [v, u] ∧ RH K G H d v ∧ RH K G H e u := by
  obtain ⟨v, r, rfl, h1, h2⟩ := h
  obtain ⟨u, rfl, h3⟩ := RHL.one h2
  exact ⟨v, u, rfl, h1, h3⟩
def wLen : WC := fun ds q => match ds with | [.lst xs] => q (.int xs.length) | [.tup xs] => q (.int xs.length) | [.str s] => s.length ≤ sizeLine ∧ q (.int s.length) | _ => False
theorem sc_len : SndC K (fun xs H Q => ∃ x n, xs = [x] ∧ LenV K x H n ∧ Q (.int n) H) wLen := fun c G H env σ xs ds Q q f hx hw k => by
  unfold wLen at hw
  split at hw
  · obtain ⟨v, rfl, h⟩ := hx.one
    obtain ⟨a, vs, rfl, h1, h2⟩ := h.lst
    exact ⟨_, vs.length, rfl, .inl ⟨vs, SqL.of h1, rfl⟩, k _ _ G H f (Gr.refl f) (by rw [h2.length]; exact R.int_) hw⟩
  · obtain ⟨v, rfl, h⟩ := hx.one
    obtain ⟨a, vs, rfl, h1, h2⟩ := h.tup
    exact ⟨_, vs.length, rfl, .inr ⟨vs, sqt_same f.gh h1, rfl⟩, k _ _ G H f (Gr.refl f) (by rw [h2.length]; exact R.int_) hw⟩
  · obtain ⟨v, rfl, h⟩ := hx.one
    rw [h.str]
    exact ⟨_, _, rfl, ⟨hw.1, rfl⟩, k _ _ G H f (Gr.refl f) R.int_ hw.2⟩
  · exact hw.elim
def wTuple : WC := fun ds q => match ds with | [.lst xs] => q (.tup xs) | [.tup xs] => q (.tup xs) | _ => False
theorem sc_tuple : SndC K (fun xs H Q => ∃ p ys, xs = [.ref p] ∧ ((SqL K H p ys ∧ ∀ l, H l = none → Q (.ref l) (upd H l (.tup ys))) ∨ (SqT K H p ys ∧ Q (.ref p) H))) wTuple := fun c G H env σ xs ds Q q f hx hw k => by
  unfold wTuple at hw
  split at hw
  · obtain ⟨v, rfl, h⟩ := hx.one
    obtain ⟨a, vs, rfl, h1, h2⟩ := h.lst
    refine ⟨a, vs, rfl, .inl ⟨SqL.of h1, fun p hp => ?_⟩⟩
    have g := f.newG (o := .tup vs) hp
    exact k _ _ _ _ (f.step g) g (.tup (SqT.of upd_same) (RL.mono g.gg _ _ h2)) hw
  · obtain ⟨v, rfl, h⟩ := hx.one
    obtain ⟨a, vs, rfl, h1, h2⟩ := h.tup
    exact ⟨a, vs, rfl, .inr ⟨sqt_same f.gh h1, k _ _ G H f (Gr.refl f) (.tup h1 h2) hw⟩⟩
  · exact hw.elim
def wInt : WC := fun ds q => match ds with | [.int i] => q (.int i) | [.bl b] => q (.int (if b then 1 else 0)) | _ => False
theorem sc_int : SndC K (fun xs H Q => (∃ i, xs = [.int i] ∧ Q (.int i) H) ∨ ∃ k, xs = [.bl k] ∧ Q (.int (if k then 1 else 0)) H) wInt := fun c G H env σ xs ds Q q f hx hw k => by
  unfold wInt at hw
  split at hw
  · obtain ⟨v, rfl, h⟩ := hx.one
    rw [h.int]
    exact .inl ⟨_, rfl, k _ _ G H f (Gr.refl f) R.int_ hw⟩
  · obtain ⟨v, rfl, h⟩ := hx.one
    rw [h.bl]
    exact .inr ⟨_, rfl, k _ _ G H f (Gr.refl f) R.int_ hw⟩
  · exact hw.elim
def wMax2 : WC := fun ds q => match ds with | [.int i, .int j] => q (.int (max i j)) | _ => False
def wMin2 : WC := fun ds q => match ds with | [.int i, .int j] => q (.int (min i j)) | _ => False
theorem max_eq (i j : Int) : (if j > i then j else i) = max i j := by
  rw [Int.max_def]; split <;> split <;> omega
theorem min_eq (i j : Int) : (if j < i then j else i) = min i j := by
  rw [Int.min_def]; split <;> split <;> omega
theorem sc_max2 : SndC K (fun xs H Q => ∃ i j, xs = [.int i, .int j] ∧ Q (.int (if j > i then j else i)) H) wMax2 := fun c G H env σ xs ds Q q f hx hw k => by
  unfold wMax2 at hw
  split at hw
  · obtain ⟨v, u, rfl, h, h'⟩ := hx.two
    rw [h.int, h'.int]
    exact ⟨_, _, rfl, by rw [max_eq]; exact k _ _ G H f (Gr.refl f) R.int_ hw⟩
  · exact hw.elim
theorem sc_min2 : SndC K (fun xs H Q => ∃ i j, xs = [.int i, .int j] ∧ Q (.int (if j < i then j else i)) H) wMin2 := fun c G H env σ xs ds Q q f hx hw k => by
  unfold wMin2 at hw
  split at hw
  · obtain ⟨v, u, rfl, h, h'⟩ := hx.two
    rw [h.int, h'.int]
    exact ⟨_, _, rfl, by rw [min_eq]; exact k _ _ G H f (Gr.refl f) R.int_ hw⟩
  · exact hw.elim
/-- lists of ints, of truth values -/
def intsOf : List D → Option (List Int)
  | [] => some []
  | .int i :: ds => (intsOf ds).map (i :: ·)
  | _ => none
def bllsOf : List D → Option (List Bool)
  | [] => some []
  | .bl i :: ds => (bllsOf ds).map (i :: ·)
  | _ => none
theorem intsOf_map (ns : List Int) : intsOf (ns.map D.int) = some ns := by
  induction ns with
  | nil => rfl
  | cons n r ih => show (intsOf (r.map D.int)).map (n :: ·) = _; rw [ih]; rfl
theorem bllsOf_map (ns : List Bool) : bllsOf (ns.map D.bl) = some ns := by
  induction ns with
  | nil => rfl
  | cons n r ih => show (bllsOf (r.map D.bl)).map (n :: ·) = _; rw [ih]; rfl
theorem intsOf_rl {H : Hp} : ∀ {ds : List D} {ns : List Int} {vs : List V}, intsOf ds = some ns → RL K H ds vs → vs = ns.map V.int
  | [], _, _, e, h => by cases e; exact RL.nilE h
  | .int i :: ds, ns, vs, e, h => by
    obtain ⟨v, r, rfl, h1, h2⟩ := h.consE
    unfold intsOf at e
    cases q : intsOf ds with
    | none => rw [q] at e; cases e
    | some ms =>
      rw [q] at e; cases e
      rw [show v = .int i from h1, intsOf_rl q h2]; rfl
  | .non :: _, _, _, e, _ => by cases e
  | .bl _ :: _, _, _, e, _ => by cases e
  | .str _ :: _, _, _, e, _ => by cases e
  | .tup _ :: _, _, _, e, _ => by cases e
  | .lst _ :: _, _, _, e, _ => by cases e
  | .dct _ :: _, _, _, e, _ => by cases e
  | .ins _ _ :: _, _, _, e, _ => by cases e
theorem bllsOf_rl {H : Hp} : ∀ {ds : List D} {ns : List Bool} {vs : List V}, bllsOf ds = some ns → RL K H ds vs → vs = ns.map V.bl
  | [], _, _, e, h => by cases e; exact RL.nilE h
  | .bl i :: ds, ns, vs, e, h => by
    obtain ⟨v, r, rfl, h1, h2⟩ := h.consE
    unfold bllsOf at e
    cases q : bllsOf ds with
    | none => rw [q] at e; cases e
    | some ms =>
      rw [q] at e; cases e
      rw [show v = .bl i from h1, bllsOf_rl q h2]; rfl
  | .non :: _, _, _, e, _ => by cases e
  | .int _ :: _, _, _, e, _ => by cases e
  | .str _ :: _, _, _, e, _ => by cases e
  | .tup _ :: _, _, _, e, _ => by cases e
  | .lst _ :: _, _, _, e, _ => by cases e
  | .dct _ :: _, _, _, e, _ => by cases e
  | .ins _ _ :: _, _, _, e, _ => by cases e
def wSum : WC := fun ds q => match ds with | [.lst xs] => (match intsOf xs with | some ns => q (.int ns.sum) | none => False) | _ => False
def wMin1 : WC := fun ds q => match ds with | [.lst xs] => (match intsOf xs with | some ns => 0 < ns.length ∧ ∀ m, m ∈ ns → (∀ y, y ∈ ns → m ≤ y) → q (.int m) | none => False) | _ => False
def wMax1 : WC := fun ds q => match ds with | [.lst xs] => (match intsOf xs with | some ns => 0 < ns.length ∧ ∀ m, m ∈ ns → (∀ y, y ∈ ns → y ≤ m) → q (.int m) | none => False) | _ => False
def wAny : WC := fun ds q => match ds with | [.lst xs] => (match bllsOf xs with | some bs => q (.bl (bs.any id)) | none => False) | _ => False
def wAll : WC := fun ds q => match ds with | [.lst xs] => (match bllsOf xs with | some bs => q (.bl (bs.all id)) | none => False) | _ => False
theorem sc_sum : SndC K (rSum K) wSum := fun c G H env σ xs ds Q q f hx hw k => by
  unfold wSum at hw
  split at hw
  · split at hw
    · rename_i e
      obtain ⟨v, rfl, h⟩ := hx.one
      obtain ⟨a, vs, rfl, h1, h2⟩ := h.lst
      rw [intsOf_rl e h2] at h1
      exact ⟨a, _, rfl, SqL.of h1, k _ _ G H f (Gr.refl f) R.int_ hw⟩
    · exact hw.elim
  · exact hw.elim
theorem sc_min1 : SndC K (rMin K) wMin1 := fun c G H env σ xs ds Q q f hx hw k => by
  unfold wMin1 at hw
  split at hw
  · split at hw
    · rename_i e
      obtain ⟨v, rfl, h⟩ := hx.one
      obtain ⟨a, vs, rfl, h1, h2⟩ := h.lst
      rw [intsOf_rl e h2] at h1
      exact ⟨a, _, rfl, SqL.of h1, hw.1, fun m hm hy => k _ _ G H f (Gr.refl f) R.int_ (hw.2 m hm hy)⟩
    · exact hw.elim
  · exact hw.elim
theorem sc_max1 : SndC K (rMax K) wMax1 := fun c G H env σ xs ds Q q f hx hw k => by
  unfold wMax1 at hw
  split at hw
  · split at hw
    · rename_i e
      obtain ⟨v, rfl, h⟩ := hx.one
      obtain ⟨a, vs, rfl, h1, h2⟩ := h.lst
      rw [intsOf_rl e h2] at h1
      exact ⟨a, _, rfl, SqL.of h1, hw.1, fun m hm hy => k _ _ G H f (Gr.refl f) R.int_ (hw.2 m hm hy)⟩
    · exact hw.elim
  · exact hw.elim
theorem sc_any : SndC K (rAny K) wAny := fun c G H env σ xs ds Q q f hx hw k => by
  unfold wAny at hw
  split at hw
  · split at hw
    · rename_i e
      obtain ⟨v, rfl, h⟩ := hx.one
      obtain ⟨a, vs, rfl, h1, h2⟩ := h.lst
      rw [bllsOf_rl e h2] at h1
      exact ⟨a, _, rfl, SqL.of h1, k _ _ G H f (Gr.refl f) R.bl_ hw⟩
    · exact hw.elim
  · exact hw.elim
theorem sc_all : SndC K (rAll K) wAll := fun c G H env σ xs ds Q q f hx hw k => by
  unfold wAll at hw
  split at hw
  · split at hw
    · rename_i e
      obtain ⟨v, rfl, h⟩ := hx.one
      obtain ⟨a, vs, rfl, h1, h2⟩ := h.lst
      rw [bllsOf_rl e h2] at h1
      exact ⟨a, _, rfl, SqL.of h1, k _ _ G H f (Gr.refl f) R.bl_ hw⟩
    · exact hw.elim
  · exact hw.elim
/-- list(x): a new list of ours -/
def wListN (wA : WA) : WA := fun env q => wA env fun ds => match ds with | [.lst xs] => q xs | [.tup xs] => q xs | _ => False
theorem dn_list {x : Str} {p : Pos} (hg : Gl X x) (hm : X.mg x = none) (hv : bootBuiltins x = some (.type "list")) (ha : DAB X (e :: es) tA wA) (hn : x ≠ "__name__" := by decide) (hdb : (x == ("__debug__" : Str)) = false := by decide)
    (he : starEach (e :: es) X.env = (false, eval e X.env) :: starEach es X.env := by rfl) (hpl : (backTo pos (starEach es X.env)).any (·.1) = false := by rfl) : DN X (.Call (.Name x p) (e :: es) [] pos) (tCB (fun xs H Q => ∃ p ys, xs = [.ref p] ∧ (SqL X.K H p ys ∨ SqT X.K H p ys) ∧ ∀ l, H l = none → Q (.ref l) (upd H l (.lst ys))) tA) (wListN wA) :=
  ⟨pe_callTy call_list_of hg hm hv ha.pa hn hdb he hpl, fun c G H env σ Q q f hw k => ha.snd c G H env σ _ _ f hw fun vs ds G1 H1 f1 s1 r1 hq => by
    have fin : ∀ (ys : List D) (us : List V) (l : Addr), RL X.K G1 ys us → q ys → H1 l = none → Q (.ref l) (upd H1 l (.lst us)) := fun ys us l r hq hl =>
      k l us ys G1 _ (f1.step (f1.newH hl)) (s1.trans (f1.newH hl)) upd_same r (f1.gnone hl) (f1.h0none hl) (s1.fresh hl) (f1.noOwn hl) hq
    have r2 := RBL.h f1 (Same.refl _) r1
    split at hq
    · obtain ⟨v, rfl, h⟩ := r2.one
      obtain ⟨a, us, rfl, h1, h2⟩ := h.lst
      exact ⟨a, us, rfl, .inl (SqL.of h1), fun l hl => fin _ _ _ h2 hq hl⟩
    · obtain ⟨v, rfl, h⟩ := r2.one
      obtain ⟨a, us, rfl, h1, h2⟩ := h.tup
      exact ⟨a, us, rfl, .inr (sqt_same f1.gh h1), fun l hl => fin _ _ _ h2 hq hl⟩
    · exact hq.elim⟩
/-- xs + ys of lists: a new list of ours -/
def wCatN (wa wb : WE) : WA := fun env q => wa env fun d => wb env fun e => match d, e with | .lst xs, .lst ys => xs.length + ys.length ≤ sizeLine ∧ q (xs ++ ys) | _, _ => False
theorem dn_cat (ha : DB X a ta wa) (hb : DB X b tb wb) : DN X (.BinOp a .Add b pos) (tOp rCat ta tb) (wCatN wa wb) := ⟨pe_op op_cat ha.pe hb.pe, fun c G H env σ Q q f hw k =>
  ha.snd c G H env σ _ _ f hw fun x d G1 H1 f1 s1 r1 hw1 => hb.snd c G1 H1 env σ _ _ f1 hw1 fun y e G2 H2 f2 s2 r2 hq => by
    have h1 := r1 G2 H2 f2 s2.gg
    have h2 := r2 G2 H2 f2 (Same.refl _)
    split at hq
    · obtain ⟨l, us, rfl, e1, g1⟩ := h1.lst
      obtain ⟨b, ws, rfl, e2, g2⟩ := h2.lst
      refine ⟨l, b, us, ws, rfl, rfl, e1, e2, by rw [g1.length, g2.length]; exact hq.1, fun p hp => ?_⟩
      exact k p _ _ G2 _ (f2.step (f2.newH hp)) ((s1.trans s2).trans (f2.newH hp)) upd_same (g1.append g2) (f2.gnone hp) (f2.h0none hp) ((s1.trans s2).fresh hp) (f2.noOwn hp) hq.2
    · exact hq.elim⟩

/-! ### items, slices -/
def wIx : WO := fun d e q => match d, e with
  | .lst ds, .int i => (match atI ds i with | some x => q x | none => False)
  | .tup ds, .int i => (match atI ds i with | some x => q x | none => False)
  | .str s, .int i => s.length ≤ sizeLine ∧ (match atI s.cps.toList i with | some c => q (.str ⟨#[c]⟩) | none => False)
  | _, _ => False
theorem atI_rl {H : Hp} {ds : List D} {vs : List V} {i : Int} {d : D} (r : RL K H ds vs) (h : atI ds i = some d) : ∃ v, atI vs i = some v ∧ R K H d v := by
  unfold atI at h ⊢
  rw [r.length]
  cases e : ixN ds.length i with
  | none => rw [e] at h; cases h
  | some j =>
    rw [e] at h
    exact r.get h
theorem so_ix : SndO K (rIx K) wIx := fun c G H env σ x y d e Q q f hx hy hw k => by
  unfold wIx at hw
  split at hw
  · split at hw
    · rename_i z hz
      obtain ⟨a, vs, rfl, h1, h2⟩ := hx.lst
      obtain ⟨v, h3, h4⟩ := atI_rl h2 hz
      exact .inl ⟨a, vs, _, v, rfl, hy.int, SqL.of h1, h3, k _ _ G H f (Gr.refl f) h4 hw⟩
    · exact hw.elim
  · split at hw
    · rename_i z hz
      obtain ⟨a, vs, rfl, h1, h2⟩ := hx.tup
      obtain ⟨v, h3, h4⟩ := atI_rl h2 hz
      exact .inr (.inl ⟨a, vs, _, v, rfl, hy.int, sqt_same f.gh h1, h3, k _ _ G H f (Gr.refl f) h4 hw⟩)
    · exact hw.elim
  · obtain ⟨h0, hw⟩ := hw
    split at hw
    · rename_i z hz
      exact .inr (.inr ⟨_, _, z, hx.str, hy.int, h0, hz, k _ _ G H f (Gr.refl f) R.str_ hw⟩)
    · exact hw.elim
  · exact hw.elim
theorem de_ix (ha : DB X a ta wa) (hb : DB X b tb wb) (hs : PlainIx b) : DE X (.Subscript a b pos) (tOp (rIx X.K) ta tb) (wOp2 wIx wa wb) := ⟨pe_ix ix_seq ha.pe hb.pe hs, snd_op ha.snd hb.snd so_ix⟩
/-- a slice's parts -/
abbrev WP := List Sl → (Option Int → Prop) → Prop
structure DO (X : Cx) (e : Option Expr) (t : TO) (w : WP) : Prop where
  po : PO X e t
  snd : ∀ (c : Ctx) (G H : Hp) (env : List Sl) (σ : L2.St) (Q : Option Int → Hp → Prop) (q : Option Int → Prop), Fr X.K c G H env σ → w env q → (∀ o G' H', Fr X.K c G' H' env σ → Gr X.K c.da G H G' H' → q o → Q o H') → t σ H Q
theorem do_none : DO X none tNoPart (fun _ q => q none) := ⟨po_none, fun c G H env σ Q q f hw k => k none G H f (Gr.refl f) hw⟩
def wPart (w : WE) : WP := fun env q => w env fun d => match d with | .int i => q (some i) | _ => False
theorem do_some (h : DE X e t w) : DO X (some e) (tPart t) (wPart w) := ⟨po_some h.pe, fun c G H env σ Q q f hw k => h.snd c G H env σ _ _ f hw fun v d G' H' f' s r hq => by
  cases d with
  | int i => exact ⟨i, r, k (some i) G' H' f' s hq⟩
  | _ => exact hq.elim⟩
def cutD (ds : List D) (lo hi : Option Int) : List D := (ds.drop (HT.sIx ds.length 0 lo)).take (HT.sIx ds.length ds.length hi - HT.sIx ds.length 0 lo)
theorem cut_rl {H : Hp} {ds : List D} {vs : List V} (lo hi : Option Int) (r : RL K H ds vs) : RL K H (cutD ds lo hi) (cutV vs lo hi) := by
  unfold cutD cutV
  rw [r.length]
  exact (r.drop _).take _
/-- of a list or a tuple: frozen -/
def wSl (wa : WE) (w1 w2 : WP) : WE := fun env q => wa env fun d => w1 env fun lo => w2 env fun hi => match d with
  | .lst ds => q (.lst (cutD ds lo hi)) | .tup ds => q (.tup (cutD ds lo hi)) | .str s => s.length ≤ sizeLine ∧ q (.str (cutS s lo hi)) | _ => False
def rSlU (K : PySem.W.Frag) : V → Option Int → Option Int → Hp → VK → Prop := fun x lo hi H Q => rSlL K x lo hi H Q ∨ rSlA K x lo hi H Q ∨ rSlS x lo hi H Q
theorem sl_U : SlR X (rSlU X.K) := sl_list.or (sl_tupA.or sl_str)
end
end Y

namespace Y
open PySem L2
section
variable {X : Cx} {K : PySem.W.Frag} {e a b cnd tg iter elt : Expr} {es : List Expr} {t ta tb tc te : TE} {w wa wb wc we : WE} {tA : TA} {wA : WA} {tt tt' : TT} {wt wt' : WT} {pos : Pos}
theorem de_slice {lo hi : Option Expr} {tl th : TO} {w1 w2 : WP} {p2 : Pos} (ha : DB X a ta wa) (hl : DO X lo tl w1) (hh : DO X hi th w2) : DE X (.Subscript a (.Slice lo hi none p2) pos) (tSl (rSlU X.K) ta tl th) (wSl wa w1 w2) := ⟨pe_slice sl_U ha.pe hl.po hh.po, fun c G H env σ Q q f hw k =>
  ha.snd c G H env σ _ _ f hw fun x d G1 H1 f1 s1 r1 hw1 => hl.snd c G1 H1 env σ _ _ f1 hw1 fun lo G2 H2 f2 s2 hw2 => hh.snd c G2 H2 env σ _ _ f2 hw2 fun hi G3 H3 f3 s3 hq => by
    have h := r1 G3 H3 f3 (s2.trans s3).gg
    have st := (s1.trans s2).trans s3
    split at hq
    · obtain ⟨a, vs, rfl, h1, h2⟩ := h.lst
      refine .inl ⟨a, vs, rfl, SqL.of h1, fun p hp => ?_⟩
      have g := f3.newG (o := .lst (cutV vs lo hi)) hp
      exact k _ _ _ _ (f3.step g) (st.trans g) (.lst upd_same (RL.mono g.gg _ _ (cut_rl lo hi h2))) hq
    · obtain ⟨a, vs, rfl, h1, h2⟩ := h.tup
      refine .inr (.inl ⟨a, vs, rfl, sqt_same f3.gh h1, fun e => ?_, fun e p hp => ?_⟩)
      · have q := cut_rl lo hi h2
        have e2 : cutV vs lo hi = vs := by
          unfold cutV
          rw [e.1, e.2]
          simp
        rw [e2] at q
        exact k _ _ G3 H3 f3 st (.tup h1 q) hq
      · have g := f3.newG (o := .tup (cutV vs lo hi)) hp
        exact k _ _ _ _ (f3.step g) (st.trans g) (.tup (SqT.of upd_same) (RL.mono g.gg _ _ (cut_rl lo hi h2))) hq
    · rw [h.str]
      exact .inr (.inr ⟨_, rfl, hq.1, k _ _ G3 H3 f3 st R.str_ hq.2⟩)
    · exact hq.elim⟩

/-! ### targets -/
abbrev WG := D → List Sl → (List Sl → Prop) → Prop
abbrev WGs := List D → List Sl → (List Sl → Prop) → Prop
/-- ss: the slots that are written -/
structure DG (X : Cx) (e : Expr) (g : TG) (w : WG) (ss : List Nat) : Prop where
  pg : PG X e g
  snd : ∀ (c : Ctx) (G H : Hp) (env : List Sl) (σ : L2.St) (v : V) (d : D) (Q : L2.St → Hp → Prop) (q : List Sl → Prop), Fr X.K c G H env σ → R X.K G d v → w d env q →
    (∀ env' σ' G' H', Fr X.K c G' H' env' σ' → Gr X.K c.da G H G' H' → (∀ vs, (∀ i ∈ ss, i ∈ vs) → wipe σ' vs = wipe σ vs) → q env' → Q σ' H') → g v σ H Q
structure DGs (X : Cx) (es : List Expr) (g : TGs) (w : WGs) (ss : List Nat) : Prop where
  pg : PGs X es g
  snd : ∀ (c : Ctx) (G H : Hp) (env : List Sl) (σ : L2.St) (vs : List V) (ds : List D) (Q : L2.St → Hp → Prop) (q : List Sl → Prop), Fr X.K c G H env σ → RL X.K G ds vs → w ds env q →
    (∀ env' σ' G' H', Fr X.K c G' H' env' σ' → Gr X.K c.da G H G' H' → (∀ vs, (∀ i ∈ ss, i ∈ vs) → wipe σ' vs = wipe σ vs) → q env' → Q σ' H') → g vs σ H Q
theorem wipe_set {σ : L2.St} {i : Nat} {o : Option V} : ∀ {vs : List Nat}, i ∈ vs → wipe (σ.set i o) vs = wipe σ vs
  | [], h => by cases h
  | v :: vs, h => by
    show (wipe (σ.set i o) vs).set v none = (wipe σ vs).set v none
    by_cases hi : i ∈ vs
    · rw [wipe_set hi]
    · have e : i = v := by
        rcases List.mem_cons.mp h with z | z
        · exact z
        · exact absurd z hi
      subst e
      have aux : ∀ (us : List Nat) (σ : L2.St), i ∉ us → wipe (σ.set i o) us = (wipe σ us).set i o := by
        intro us
        induction us with
        | nil => intro σ _; rfl
        | cons u us ih =>
          intro σ hu
          show (wipe (σ.set i o) us).set u none = ((wipe σ us).set u none).set i o
          rw [ih σ (fun z => hu (List.mem_cons_of_mem _ z)), List.set_comm _ _ (fun z => hu (by rw [z]; exact List.mem_cons_self))]
      rw [aux vs σ hi, List.set_set]
theorem dg_name {i : Nat} {x : Str} (hN : X.N.Nodup) (hi : X.N[i]? = some x) (hx : Loc X.env.scope x) (hf : X.fn x = true ∨ X.env.scope.names.lookup x = some .local := by first | exact .inl rfl | exact .inr rfl | assumption) :
    DG X (.Name x pos) (gName i) (fun d env q => q (env.set i (.d d))) [i] := ⟨pg_name hN hi hx hf, fun c G H env σ v d Q q f r hw k =>
  k _ _ G H (f.setD i r) (Gr.refl f) (fun vs h => wipe_set (h i List.mem_cons_self)) hw⟩
def wgNil : WGs := fun ds env q => match ds with | [] => q env | _ => False
def wgCons (w : WG) (ws : WGs) : WGs := fun ds env q => match ds with | d :: r => w d env fun env' => ws r env' q | _ => False
theorem dgs_nil : DGs X [] gNil wgNil [] := ⟨pgs_nil, fun c G H env σ vs ds Q q f r hw k => by
  unfold wgNil at hw
  split at hw
  · exact ⟨r.nilE, k env σ G H f (Gr.refl f) (fun _ _ => rfl) hw⟩
  · exact hw.elim⟩
theorem dgs_cons {g : TG} {gs : TGs} {w : WG} {ws : WGs} {s1 s2 : List Nat} (h1 : DG X e g w s1) (h2 : DGs X es gs ws s2) (hs : (assignEach (e :: es) X.env).map (·.2) = assign e X.env :: (assignEach es X.env).map (·.2) := by rfl) :
    DGs X (e :: es) (gCons g gs) (wgCons w ws) (s1 ++ s2) := ⟨pgs_cons h1.pg h2.pg hs, fun c G H env σ vs ds Q q f r hw k => by
  unfold wgCons at hw
  split at hw
  · obtain ⟨v, us, rfl, r1, r2⟩ := r.consE
    refine ⟨v, us, rfl, h1.snd c G H env σ v _ _ _ f r1 hw fun env' σ' G' H' f' st wp hq => ?_⟩
    exact h2.snd c G' H' env' σ' us _ Q q f' (RL.mono st.gg _ _ r2) hq fun env2 σ2 G2 H2 f2 st2 wp2 hq2 => k env2 σ2 G2 H2 f2 (st.trans st2) (fun vs h => (wp2 vs fun i hi => h i (List.mem_append_right _ hi)).trans (wp vs fun i hi => h i (List.mem_append_left _ hi))) hq2
  · exact hw.elim⟩
def wgTup (n : Nat) (ws : WGs) : WG := fun d env q => match d with | .tup ds => ds.length = n ∧ ws ds env q | _ => False
theorem dg_tup {k : Nat} {gs : TGs} {ws : WGs} {ss : List Nat} {n : Nat} (hc : X.calm = true) (h : DGs X es gs ws ss) (hn : (assignEach es X.env).length = n := by rfl) (hst : (assignEach es X.env).findIdx? (·.1) = none := by rfl) :
    DG X (.Tuple es k pos) (gTup X.K n gs) (wgTup n ws) ss := ⟨pg_tup hc h.pg hn hst, fun c G H env σ v d Q q f r hw k => by
  unfold wgTup at hw
  split at hw
  · obtain ⟨a, vs, rfl, h1, h2⟩ := r.tupE
    exact ⟨a, vs, rfl, sqt_same f.gh h1, by rw [h2.length]; exact hw.1, h.snd c G H env σ vs _ Q q f h2 hw.2 k⟩
  · exact hw.elim⟩

/-! ### what is walked -/
/-- the items ds, one by one, while P holds of the heaps -/
structure Wk (K : PySem.W.Frag) (da : Option Addr) (P : Hp → Hp → Prop) (J : It) (ds : List D) : Prop where
  go : ∀ G1 H1, P G1 H1 → ∀ i d, ds[i]? = some d → J.go i H1 ∧ ∀ x H2, J.yld i H1 x H2 → ∃ G2, Gr K da G1 H1 G2 H2 ∧ R K G2 d x
  stop : ∀ G1 H1, P G1 H1 → J.stop ds.length H1
/-- any state behind; the same frame behind -/
def PAny (K : PySem.W.Frag) (c : Ctx) (G : Hp) : Hp → Hp → Prop := fun G1 H1 => Same G G1 ∧ ∃ env1 σ1, Fr K c G1 H1 env1 σ1
def PFix (K : PySem.W.Frag) (c : Ctx) (G : Hp) (env : List Sl) (σ : L2.St) : Hp → Hp → Prop := fun G1 H1 => Same G G1 ∧ Fr K c G1 H1 env σ
structure DI (X : Cx) (tg iter : Expr) (wi : TI) (w : WA) : Prop where
  pi : PI X tg iter wi
  snd : ∀ (c : Ctx) (G H : Hp) (env : List Sl) (σ : L2.St) (Rr : It → Hp → Prop) (q : List D → Prop), Fr X.K c G H env σ → w env q →
    (∀ J ds G' H', Fr X.K c G' H' env σ → Gr X.K c.da G H G' H' → Wk X.K c.da (PAny X.K c G') J ds → q ds → Rr J H') → wi σ H Rr
structure DIB (X : Cx) (tg iter : Expr) (wi : TI) (w : WA) : Prop where
  pi : PI X tg iter wi
  snd : ∀ (c : Ctx) (G H : Hp) (env : List Sl) (σ : L2.St) (Rr : It → Hp → Prop) (q : List D → Prop), Fr X.K c G H env σ → w env q →
    (∀ J ds G' H', Fr X.K c G' H' env σ → Gr X.K c.da G H G' H' → Wk X.K c.da (PFix X.K c G' env σ) J ds → q ds → Rr J H') → wi σ H Rr
theorem Wk.imp {da : Option Addr} {P P' : Hp → Hp → Prop} {J : It} {ds : List D} (w : Wk K da P J ds) (h : ∀ G H, P' G H → P G H) : Wk K da P' J ds := ⟨fun G1 H1 p => w.go G1 H1 (h _ _ p), fun G1 H1 p => w.stop G1 H1 (h _ _ p)⟩
theorem DI.toB {wi : TI} (h : DI X tg iter wi wA) : DIB X tg iter wi wA := ⟨h.pi, fun c G H env σ Rr q f hw k => h.snd c G H env σ Rr q f hw fun J ds G' H' f' s wk hq => k J ds G' H' f' s (wk.imp fun _ _ ⟨a, b⟩ => ⟨a, env, σ, b⟩) hq⟩
/-- a list or a tuple as it is -/
def wSeq (w : WE) : WA := fun env q => w env fun d => match d with | .lst ds => q ds | .tup ds => q ds | _ => False
theorem wk_lst {c : Ctx} {P : Hp → Hp → Prop} {ds : List D} {a : Addr} (hP : ∀ G H, P G H → (∃ env σ, Fr K c G H env σ) ∧ ∃ vs, H a = some (.lst vs) ∧ RL K G ds vs) : Wk K c.da P (Itl K a) ds := by
  refine ⟨fun G1 H1 p i d hd => ?_, fun G1 H1 p => ?_⟩
  · obtain ⟨⟨env, σ, f⟩, vs, h1, h2⟩ := hP G1 H1 p
    obtain ⟨v, h3, h4⟩ := h2.get hd
    refine ⟨⟨vs, v, SqL.of h1, h3⟩, fun x H2 y => ?_⟩
    obtain ⟨rfl, y⟩ := y
    have := y vs (SqL.of h1)
    rw [h3] at this; cases this
    exact ⟨G1, Gr.refl f, h4⟩
  · obtain ⟨_, vs, h1, h2⟩ := hP G1 H1 p
    exact ⟨vs, SqL.of h1, by rw [h2.length]; exact Nat.le_refl _⟩
theorem wk_tup {c : Ctx} {P : Hp → Hp → Prop} {ds : List D} {a : Addr} (hP : ∀ G H, P G H → (∃ env σ, Fr K c G H env σ) ∧ ∃ vs, SqT K G a vs ∧ RL K G ds vs) : Wk K c.da P (Itt K a) ds := by
  refine ⟨fun G1 H1 p i d hd => ?_, fun G1 H1 p => ?_⟩
  · obtain ⟨⟨env, σ, f⟩, vs, h1, h2⟩ := hP G1 H1 p
    obtain ⟨v, h3, h4⟩ := h2.get hd
    have h1' := sqt_same f.gh h1
    refine ⟨⟨vs, v, h1', h3⟩, fun x H2 y => ?_⟩
    obtain ⟨rfl, y⟩ := y
    have := y vs h1'
    rw [h3] at this; cases this
    exact ⟨G1, Gr.refl f, h4⟩
  · obtain ⟨⟨env, σ, f⟩, vs, h1, h2⟩ := hP G1 H1 p
    exact ⟨vs, sqt_same f.gh h1, by rw [h2.length]; exact Nat.le_refl _⟩
def iSeq (K : PySem.W.Frag) (t : TE) : TI := fun σ H R => t σ H fun x H1 => ∃ a, x = .ref a ∧ (((∃ xs, SqL K H1 a xs) ∧ R (Itl K a) H1) ∨ ((∃ xs, SqT K H1 a xs) ∧ R (Itt K a) H1))
theorem pi_seq (hp : PE X iter t) : PI X tg iter (iSeq X.K t) := by
  refine ⟨fun pins s σ H R I h => ?_⟩
  refine thn (hp.run pins s σ H _ I h) fun v s1 ⟨x, H1, I1, r1, q1⟩ => ?_
  obtain ⟨a, e, q1⟩ := q1
  subst e
  cases r1
  rcases q1 with ⟨⟨xs, hq⟩, q⟩ | ⟨⟨xs, hq⟩, q⟩
  · obtain ⟨its, rv, p, hz⟩ := I1.list hq
    refine wpAny_pyIter_list p.isList ?_
    refine ⟨s1.heap.objs.size, [s1.heap.objs.size], _, _, H1, rfl, I1.kept (t' := s1.toks) fun b o e => Heap.get?_push_of_some _ e, turn_list a _, ⟨_, Heap.get?_push_size _ rfl, rfl, rfl⟩, fun b hb => ?_, q⟩
    have e : b = s1.heap.objs.size := by simpa using hb
    subst e
    exact I1.fpOk (Nat.le_refl _) (I1.hok.fresh (Nat.le_refl _))
  · obtain ⟨its, rv, p, hz⟩ := I1.tuple hq
    refine wpAny_pyIter_tuple (show s1.heap.IsTuple a its.toArray from p) ?_
    refine ⟨s1.heap.objs.size, [s1.heap.objs.size], _, _, H1, rfl, I1.kept (t' := s1.toks) fun b o e => Heap.get?_push_of_some _ e, turn_tuple a _, ⟨_, Heap.get?_push_size _ rfl, rfl, rfl⟩, fun b hb => ?_, q⟩
    have e : b = s1.heap.objs.size := by simpa using hb
    subst e
    exact I1.fpOk (Nat.le_refl _) (I1.hok.fresh (Nat.le_refl _))
theorem di_seq (h : DE X iter t w) : DI X tg iter (iSeq X.K t) (wSeq w) := ⟨pi_seq h.pe, fun c G H env σ Rr q f hw k => h.snd c G H env σ _ _ f hw fun v d G' H' f' s r hq => by
  split at hq
  · obtain ⟨a, vs, rfl, h1, h2⟩ := r.lstE
    refine ⟨a, rfl, .inl ⟨⟨vs, SqL.of (f'.gh _ _ h1)⟩, k _ _ G' H' f' s (wk_lst fun G1 H1 p => ?_) hq⟩⟩
    obtain ⟨s1, env1, σ1, f1⟩ := p
    exact ⟨⟨env1, σ1, f1⟩, vs, f1.gh _ _ (s1 _ _ h1), RL.mono s1 _ _ h2⟩
  · obtain ⟨a, vs, rfl, h1, h2⟩ := r.tupE
    refine ⟨a, rfl, .inr ⟨⟨vs, sqt_same f'.gh h1⟩, k _ _ G' H' f' s (wk_tup fun G1 H1 p => ?_) hq⟩⟩
    obtain ⟨s1, env1, σ1, f1⟩ := p
    exact ⟨⟨env1, σ1, f1⟩, vs, sqt_same s1 h1, RL.mono s1 _ _ h2⟩
  · exact hq.elim⟩
/-- .. be it a list of ours (within a comprehension) -/
theorem dib_seq (h : DB X iter t w) : DIB X tg iter (iSeq X.K t) (wSeq w) := ⟨pi_seq h.pe, fun c G H env σ Rr q f hw k => h.snd c G H env σ _ _ f hw fun v d G' H' f' s r hq => by
  have rh := r G' H' f' (Same.refl _)
  split at hq
  · obtain ⟨a, vs, rfl, h1, h2⟩ := rh.lst
    refine ⟨a, rfl, .inl ⟨⟨vs, SqL.of h1⟩, k _ _ G' H' f' s (wk_lst fun G1 H1 p => ?_) hq⟩⟩
    obtain ⟨s1, f1⟩ := p
    obtain ⟨a', us, e, g1, g2⟩ := (r G1 H1 f1 s1).lst
    cases e
    exact ⟨⟨env, σ, f1⟩, us, g1, g2⟩
  · obtain ⟨a, vs, rfl, h1, h2⟩ := rh.tup
    refine ⟨a, rfl, .inr ⟨⟨vs, sqt_same f'.gh h1⟩, k _ _ G' H' f' s (wk_tup fun G1 H1 p => ?_) hq⟩⟩
    obtain ⟨s1, f1⟩ := p
    exact ⟨⟨env, σ, f1⟩, vs, sqt_same s1 h1, RL.mono s1 _ _ h2⟩
  · exact hq.elim⟩
/-- lo, lo + 1, .. -/
def intsFrom (lo : Int) (n : Nat) : List D := (List.range n).map fun i => D.int (lo + (i : Nat))
theorem wk_range {c : Ctx} {P : Hp → Hp → Prop} {lo : Int} {n : Nat} (hP : ∀ G H, P G H → ∃ env σ, Fr K c G H env σ) : Wk K c.da P (Itr lo n) (intsFrom lo n) := by
  have hl : (intsFrom lo n).length = n := by unfold intsFrom; rw [List.length_map, List.length_range]
  refine ⟨fun G1 H1 p i d hd => ?_, fun G1 H1 p => by rw [hl]; exact Nat.le_refl _⟩
  have hi : i < n := by have := (List.getElem?_eq_some_iff.mp hd).1; rwa [hl] at this
  have e : d = .int (lo + (i : Nat)) := by
    unfold intsFrom at hd
    rw [List.getElem?_map, List.getElem?_range hi] at hd
    exact (Option.some.inj hd).symm
  subst e
  refine ⟨hi, fun x H2 y => ?_⟩
  obtain ⟨rfl, rfl⟩ := y
  obtain ⟨env, σ, f⟩ := hP G1 _ p
  exact ⟨G1, Gr.refl f, R.int_⟩
def wRange1 (wA : WA) : WA := fun env q => wA env fun ds => match ds with | [.int j] => (-(2 ^ 62) ≤ j ∧ j < 2 ^ 62) ∧ q (intsFrom 0 j.toNat) | _ => False
def wRange2 (wA : WA) : WA := fun env q => wA env fun ds => match ds with | [.int i, .int j] => (-(2 ^ 62) ≤ i ∧ i < 2 ^ 62 ∧ -(2 ^ 62) ≤ j ∧ j < 2 ^ 62) ∧ q (intsFrom i (j - i).toNat) | _ => False
theorem di_range1 {p : Pos} (hg : Gl X "range") (hm : X.mg "range" = none) (ha : DA X [a] tA wA) (hs : starEach [a] X.env = [(false, eval a X.env)] := by rfl) : DI X tg (.Call (.Name "range" p) [a] [] pos) (iRng1 tA) (wRange1 wA) := ⟨pi_range1 hg hm ha.pa hs, fun c G H env σ Rr q f hw k => ha.snd c G H env σ _ _ f hw fun vs ds G' H' f' s r hq => by
  split at hq
  · obtain ⟨v, us, rfl, r1, r2⟩ := r.consE
    rw [r2.nilE]
    exact ⟨_, by rw [show v = .int _ from r1], hq.1.1, hq.1.2, k _ _ G' H' f' s (wk_range fun _ _ p => p.2) hq.2⟩
  · exact hq.elim⟩
theorem di_range2 {p : Pos} (hg : Gl X "range") (hm : X.mg "range" = none) (ha : DA X [a, b] tA wA) (hs : starEach [a, b] X.env = [(false, eval a X.env), (false, eval b X.env)] := by rfl) (hs2 : starEach [b] X.env = [(false, eval b X.env)] := by rfl) : DI X tg (.Call (.Name "range" p) [a, b] [] pos) (iRng2 tA) (wRange2 wA) := ⟨pi_range2 hg hm ha.pa hs hs2, fun c G H env σ Rr q f hw k => ha.snd c G H env σ _ _ f hw fun vs ds G' H' f' s r hq => by
  split at hq
  · obtain ⟨v, us, rfl, r1, r2⟩ := r.consE
    obtain ⟨u, us2, rfl, r3, r4⟩ := r2.consE
    rw [r4.nilE]
    exact ⟨_, _, by rw [show v = .int _ from r1, show u = .int _ from r3], hq.1, k _ _ G' H' f' s (wk_range fun _ _ p => p.2) hq.2⟩
  · exact hq.elim⟩
/-- pairs -/
def zipD : List D → List D → List D
  | x :: xs, y :: ys => .tup [x, y] :: zipD xs ys
  | _, _ => []
theorem zipD_len : ∀ xs ys : List D, (zipD xs ys).length = min xs.length ys.length
  | [], _ => by simp [zipD]
  | _ :: _, [] => by simp [zipD]
  | x :: xs, y :: ys => by simp only [zipD, List.length_cons, zipD_len xs ys]; omega
theorem zipD_get : ∀ {xs ys : List D} {i : Nat} {d : D}, (zipD xs ys)[i]? = some d → ∃ x y, xs[i]? = some x ∧ ys[i]? = some y ∧ d = .tup [x, y]
  | [], _, _, _, h => by simp [zipD] at h
  | _ :: _, [], _, _, h => by simp [zipD] at h
  | x :: xs, y :: ys, 0, d, h => by simp [zipD] at h; exact ⟨x, y, rfl, rfl, h.symm⟩
  | x :: xs, y :: ys, i + 1, d, h => by
    simp only [zipD, List.getElem?_cons_succ] at h
    obtain ⟨a, b, h1, h2, h3⟩ := zipD_get h
    exact ⟨a, b, by simpa using h1, by simpa using h2, h3⟩
/-- a new pair is given -/
theorem gr_pair {c : Ctx} {G H : Hp} {env : List Sl} {σ : L2.St} (f : Fr K c G H env σ) {T : Addr} {u v : V} {x y : D} (hT : H T = none) (hx : R K G x u) (hy : R K G y v) : ∃ G2, Gr K c.da G H G2 (upd H T (.tup [u, v])) ∧ R K G2 (.tup [x, y]) (.ref T) := by
  have g := f.newG (o := .tup [u, v]) hT
  exact ⟨_, g, .tup (SqT.of upd_same) (.cons (hx.mono g.gg) (.one (hy.mono g.gg)))⟩
theorem one_of {xs : List V} {i : Nat} {u v : V} (h : xs[i]? = some u) (h' : xs[i]? = some v) : u = v := by rw [h] at h'; exact Option.some.inj h'
theorem wk_zipL {c : Ctx} {P : Hp → Hp → Prop} {ds es : List D} {a b : Addr} (hP : ∀ G H, P G H → (∃ env σ, Fr K c G H env σ) ∧ ∃ vs us, H a = some (.lst vs) ∧ RL K G ds vs ∧ H b = some (.lst us) ∧ RL K G es us) : Wk K c.da P (Itz K a b) (zipD ds es) := by
  refine ⟨fun G1 H1 p i d hd => ?_, fun G1 H1 p => ?_⟩
  · obtain ⟨⟨env, σ, f⟩, vs, us, h1, h2, h3, h4⟩ := hP G1 H1 p
    obtain ⟨x, y, e1, e2, rfl⟩ := zipD_get hd
    obtain ⟨v, g1, g2⟩ := h2.get e1
    obtain ⟨u, g3, g4⟩ := h4.get e2
    refine ⟨⟨vs, us, v, u, SqL.of h1, SqL.of h3, g1, g3⟩, fun x H2 yy => ?_⟩
    obtain ⟨T, v', u', rfl, hT, rfl, k1, k2⟩ := yy
    have e3 := one_of g1 (k1 _ (SqL.of h1))
    have e4 := one_of g3 (k2 _ (SqL.of h3))
    subst e3; subst e4
    exact gr_pair f hT g2 g4
  · obtain ⟨_, vs, us, h1, h2, h3, h4⟩ := hP G1 H1 p
    refine ⟨vs, us, SqL.of h1, SqL.of h3, ?_⟩
    rw [zipD_len, h2.length, h4.length]
    omega
theorem wk_zipT {c : Ctx} {P : Hp → Hp → Prop} {ds es : List D} {a b : Addr} (hP : ∀ G H, P G H → (∃ env σ, Fr K c G H env σ) ∧ ∃ vs us, SqT K G a vs ∧ RL K G ds vs ∧ SqT K G b us ∧ RL K G es us) : Wk K c.da P (RZ.ItzT K a b) (zipD ds es) := by
  refine ⟨fun G1 H1 p i d hd => ?_, fun G1 H1 p => ?_⟩
  · obtain ⟨⟨env, σ, f⟩, vs, us, h1, h2, h3, h4⟩ := hP G1 H1 p
    obtain ⟨x, y, e1, e2, rfl⟩ := zipD_get hd
    obtain ⟨v, g1, g2⟩ := h2.get e1
    obtain ⟨u, g3, g4⟩ := h4.get e2
    refine ⟨⟨vs, us, v, u, sqt_same f.gh h1, sqt_same f.gh h3, g1, g3⟩, fun x H2 yy => ?_⟩
    obtain ⟨T, v', u', rfl, hT, rfl, k1, k2⟩ := yy
    have e3 := one_of g1 (k1 _ (sqt_same f.gh h1))
    have e4 := one_of g3 (k2 _ (sqt_same f.gh h3))
    subst e3; subst e4
    exact gr_pair f hT g2 g4
  · obtain ⟨⟨env, σ, f⟩, vs, us, h1, h2, h3, h4⟩ := hP G1 H1 p
    refine ⟨vs, us, sqt_same f.gh h1, sqt_same f.gh h3, ?_⟩
    rw [zipD_len, h2.length, h4.length]
    omega
/-- zip of two lists or of two tuples -/
def wZip (wA : WA) : WA := fun env q => wA env fun ds => match ds with | [.lst xs, .lst ys] => q (zipD xs ys) | [.tup xs, .tup ys] => q (zipD xs ys) | _ => False
theorem di_zip {elts : List Expr} {kk : Nat} {p tpos : Pos} (hg : Gl X "zip") (hm : X.mg "zip" = none) (ha : DA X [a, b] tA wA) (hs : starEach [a, b] X.env = (false, eval a X.env) :: starEach [b] X.env := by rfl) (hpl : (backTo pos (starEach [b] X.env)).any (·.1) = false := by rfl) :
    DI X (.Tuple elts kk tpos) (.Call (.Name "zip" p) [a, b] [] pos) (RZ.iZipA X.K tA) (wZip wA) := ⟨RZ.pi_zipA hg hm ha.pa hs hpl, fun c G H env σ Rr q f hw k => ha.snd c G H env σ _ _ f hw fun vs ds G' H' f' s r hq => by
  split at hq
  · obtain ⟨v, us, rfl, r1, r2⟩ := r.consE
    obtain ⟨u, us2, rfl, r3, r4⟩ := r2.consE
    rw [r4.nilE]
    obtain ⟨a, vs, rfl, h1, h2⟩ := r1.lstE
    obtain ⟨b, us, rfl, h3, h4⟩ := r3.lstE
    refine ⟨a, b, vs, us, rfl, .inl ⟨SqL.of (f'.gh _ _ h1), SqL.of (f'.gh _ _ h3), k _ _ G' H' f' s (wk_zipL fun G1 H1 p => ?_) hq⟩⟩
    obtain ⟨s1, env1, σ1, f1⟩ := p
    exact ⟨⟨env1, σ1, f1⟩, vs, us, f1.gh _ _ (s1 _ _ h1), RL.mono s1 _ _ h2, f1.gh _ _ (s1 _ _ h3), RL.mono s1 _ _ h4⟩
  · obtain ⟨v, us, rfl, r1, r2⟩ := r.consE
    obtain ⟨u, us2, rfl, r3, r4⟩ := r2.consE
    rw [r4.nilE]
    obtain ⟨a, vs, rfl, h1, h2⟩ := r1.tupE
    obtain ⟨b, us, rfl, h3, h4⟩ := r3.tupE
    refine ⟨a, b, vs, us, rfl, .inr ⟨sqt_same f'.gh h1, sqt_same f'.gh h3, k _ _ G' H' f' s (wk_zipT fun G1 H1 p => ?_) hq⟩⟩
    obtain ⟨s1, env1, σ1, f1⟩ := p
    exact ⟨⟨env1, σ1, f1⟩, vs, us, sqt_same s1 h1, RL.mono s1 _ _ h2, sqt_same s1 h3, RL.mono s1 _ _ h4⟩
  · exact hq.elim⟩
end
end Y

namespace Y
open PySem L2
section
variable {X : Cx} {K : PySem.W.Frag} {e a b cnd tg iter elt : Expr} {es : List Expr} {t ta tb tc te : TE} {w wa wb wc we : WE} {tA : TA} {wA : WA} {tt tt' : TT} {wt wt' : WT} {pos : Pos}
/-! ### comprehensions -/
structure DTs (X : Cx) (ifs : List Expr) (t : TT) (w : WT) : Prop where
  pt : PTs X ifs t
  snd : SndT X.K t w
def wYes : WT := fun _ q => q true
theorem dts_nil : DTs X [] tYes wYes := ⟨pts_nil, fun c G H env σ Q q f hw k => k true G H f (Gr.refl f) hw⟩
theorem dts_one (h : DT X cnd tt wt) : DTs X [cnd] tt wt := ⟨pts_one h.pt, h.snd⟩
def wipeE (env : List Sl) : List Nat → List Sl
  | [] => env
  | v :: vs => (wipeE env vs).set v .no
theorem Fr.wipe {c : Ctx} {G H : Hp} {env : List Sl} {σ : L2.St} (f : Fr K c G H env σ) : ∀ vs : List Nat, Fr K c G H (wipeE env vs) (wipe σ vs)
  | [] => f
  | v :: vs => (Fr.wipe f vs).setNo v none
theorem wipe_wipe {σ : L2.St} {vs : List Nat} : ∀ us : List Nat, (∀ u ∈ us, u ∈ vs) → L2.wipe (L2.wipe σ us) vs = L2.wipe σ vs
  | [], _ => rfl
  | u :: us, hu => by
    show L2.wipe ((L2.wipe σ us).set u none) vs = L2.wipe σ vs
    rw [wipe_set (hu u List.mem_cons_self)]
    exact wipe_wipe us fun v hv => hu v (List.mem_cons_of_mem _ hv)
/-- I k acc holds behind k items, with the list acc made so far -/
def kLc' (wg : WG) (wt : WT) (we : WE) (vs : List Nat) (env : List Sl) (ql : List D → Prop) (ds : List D) : Prop := ∃ I : Nat → List D → Prop, I 0 [] ∧
  (∀ k d acc, ds[k]? = some d → I k acc → wg d (wipeE env vs) fun env2 => wt env2 fun b => match b with | true => we env2 fun z => acc.length < sizeLine ∧ I (k + 1) (acc ++ [z]) | false => I (k + 1) acc) ∧
  ∀ acc, I ds.length acc → ql acc
@[irreducible] def kLc (wg : WG) (wt : WT) (we : WE) (vs : List Nat) (env : List Sl) (ql : List D → Prop) (ds : List D) : Prop := kLc' wg wt we vs env ql ds
theorem kLc_i {wg : WG} {wt : WT} {we : WE} {vs : List Nat} {env : List Sl} {ql : List D → Prop} {ds : List D} (h : kLc' wg wt we vs env ql ds) : kLc wg wt we vs env ql ds := by unfold kLc; exact h
theorem kLc_e {wg : WG} {wt : WT} {we : WE} {vs : List Nat} {env : List Sl} {ql : List D → Prop} {ds : List D} (h : kLc wg wt we vs env ql ds) : kLc' wg wt we vs env ql ds := by unfold kLc at h; exact h
def wLc (wi : WA) (wg : WG) (wt : WT) (we : WE) (vs : List Nat) : WA := fun env q => wi env (kLc wg wt we vs env q)
theorem snd_lc {wi : TI} {wI : WA} {g : TG} {wg : WG} {ss : List Nat} {vs : List Nat}
    (hi : ∀ (c : Ctx) (G H : Hp) (env : List Sl) (σ : L2.St) (Rr : It → Hp → Prop) (q : List D → Prop), Fr K c G H env σ → wI env q → (∀ J ds G' H', Fr K c G' H' env σ → Gr K c.da G H G' H' → Wk K c.da (PFix K c G' env σ) J ds → q ds → Rr J H') → wi σ H Rr)
    (hg : ∀ (c : Ctx) (G H : Hp) (env : List Sl) (σ : L2.St) (v : V) (d : D) (Q : L2.St → Hp → Prop) (q : List Sl → Prop), Fr K c G H env σ → R K G d v → wg d env q → (∀ env' σ' G' H', Fr K c G' H' env' σ' → Gr K c.da G H G' H' → (∀ vs, (∀ i ∈ ss, i ∈ vs) → L2.wipe σ' vs = L2.wipe σ vs) → q env' → Q σ' H') → g v σ H Q)
    (ht : SndT K tt wt) (he : Snd K te we) (hs : ∀ i ∈ ss, i ∈ vs) : SndN K (tLc wi g tt te vs) (wLc wI wg wt we vs) := fun c G H env σ Q q f hw k => by
  refine hi c G H env σ _ _ f hw fun J ds G1 H1 f1 s1 wk hI => ?_
  obtain ⟨I, h0, hstep, hend⟩ := kLc_e hI
  intro D hD
  have nD : H D = none := s1.fresh hD
  have nDown : NoOwn env σ D := f1.noOwn hD
  have nD0 : c.H0 D = none := f1.h0none hD
  have nda : c.da ≠ some D := f1.own_ne nD0
  let Pv : Nat → Hp → Prop := fun k H' => ∃ G' acc us, Gr K c.da G1 H1 G' H' ∧ H' D = some (.lst us) ∧ RL K G' acc us ∧ G' D = none ∧ I k acc
  have start : Pv 0 (upd H1 D (.lst [])) := ⟨G1, [], [], f1.newH hD, upd_same, .nil, f1.gnone hD, h0⟩
  refine ⟨fun i m H' => m = ds.length - i ∧ i ≤ ds.length ∧ Pv i H', ⟨ds.length, by simp, Nat.zero_le _, start⟩, ?_⟩
  rintro i m H2 ⟨rfl, hi2, G2, acc, us, g2, eD, r2, gD, hI2⟩
  have f2 := f1.step g2
  by_cases hlt : i < ds.length
  · refine .inr ?_
    have hd : ds[i]? = some ds[i] := List.getElem?_eq_getElem hlt
    obtain ⟨go, yl⟩ := wk.go G2 H2 ⟨g2.gg, f2⟩ i _ hd
    refine ⟨go, Pv (i + 1), fun H' p' => ⟨ds.length - (i + 1), by omega, rfl, hlt, p'⟩, fun x H3 y => ?_⟩
    obtain ⟨G3, g3, rx⟩ := yl x H3 y
    have f3 := f2.step g3
    refine hg c G3 H3 (wipeE env vs) (L2.wipe σ vs) x _ _ _ (f3.wipe vs) rx (hstep i _ acc hd hI2) fun env4 σ4 G4 H4 f4 g4 wp hq4 => ⟨?_, ?_⟩
    · rw [wp vs hs]
      exact wipe_wipe vs fun _ h => h
    · refine ht c G4 H4 env4 σ4 _ _ f4 hq4 fun b G5 H5 f5 g5 hq5 => ?_
      have g35 := (g3.trans g4).trans g5
      have eD5 : H5 D = some (.lst us) := g35.hh _ _ eD nda
      have gD5 : G5 D = none := g35.old _ _ eD gD
      cases b with
      | true =>
        refine iteT (he c G5 H5 env4 σ4 _ _ f5 hq5 fun z d G6 H6 f6 g6 r6 hq6 => ?_)
        have g26 := g35.trans g6
        have eD6 : H6 D = some (.lst us) := g6.hh _ _ eD5 nda
        have gD6 : G6 D = none := g6.old _ _ eD5 gD5
        have ra := RL.mono g26.gg _ _ r2
        refine ⟨us, eD6, by rw [r2.length]; exact hq6.1, G6, acc ++ [d], us ++ [z], ?_, upd_same, ra.snoc r6, gD6, hq6.2⟩
        have gt := g2.trans g26
        refine ⟨gt.gg, fun b o hb => by rw [upd_ne (ne_of_none hb gD6)]; exact gt.gh b o hb, fun b o hb n => by rw [upd_ne (ne_of_none hb hD)]; exact gt.hh b o hb n, gt.old, fun b e => ?_⟩
        have nb : b ≠ D := fun z => nda (z ▸ e)
        exact (gt.dr b e).same (Same.refl _) (gt.dr b e).1 fun o q => by rw [upd_ne nb]; exact q
      | false => exact iteF ⟨G5, acc, us, g2.trans g35, eD5, RL.mono g35.gg _ _ r2, gD5, hq5⟩
  · have e : i = ds.length := by omega
    subst e
    exact .inl ⟨wk.stop G2 H2 ⟨g2.gg, f2⟩, k D us acc G2 H2 (f.step (s1.trans g2)) (s1.trans g2) eD r2 gD nD0 nD nDown (hend acc hI2)⟩
theorem dn_lc {ifs : List Expr} {scope : Scope} {own : List (Str × Nat)} {wi : TI} {wI : WA} {g : TG} {wg : WG} {ss : List Nat} (hc : X.calm = true) (hN : X.N.Nodup) (hi : DIB X tg iter wi wI) (ok : BlkOk X.N X.env.scope scope own)
    (hg : ∀ (s : Shared) (H : Hp) (C : Addr) (cl : List (Str × Addr)) (fp : List Addr), DG (X.blk s H scope (compEnvC scope cl C X.env) fp) tg g wg ss) (ht : ∀ (s : Shared) (H : Hp) (C : Addr) (cl : List (Str × Addr)) (fp : List Addr), DTs (X.blk s H scope (compEnvC scope cl C X.env) fp) ifs tt wt)
    (he : ∀ (s : Shared) (H : Hp) (C : Addr) (cl : List (Str × Addr)) (fp : List Addr), DE (X.blk s H scope (compEnvC scope cl C X.env) fp) elt te we) (hss : ∀ i ∈ ss, i ∈ own.map (·.2) := by decide) (hs : ∀ x, foldedSetIterable iter X.env x = pure x := by intro _; rfl) :
    DN X (.ListComp elt [⟨tg, iter, ifs, 0⟩] scope pos) (tLc wi g tt te (own.map (·.2))) (wLc wI wg wt we (own.map (·.2))) :=
  ⟨pe_lc hc hN hi.pi ok (fun s H C cl fp => (hg s H C cl fp).pg) (fun s H C cl fp => (ht s H C cl fp).pt) (fun s H C cl fp => (he s H C cl fp).pe) hs,
    snd_lc hi.snd (hg X.s_0 X.H_0 0 [] []).snd (ht X.s_0 X.H_0 0 [] []).snd (he X.s_0 X.H_0 0 [] []).snd hss⟩

/-! ### statements -/
structure DEnds where
  nx : List Sl → Prop
  rt : D → Prop
  bk : List Sl → Prop := fun _ => False
  ct : List Sl → Prop := fun _ => False
abbrev WS := List Sl → DEnds → Prop
structure Lift (K : PySem.W.Frag) (c : Ctx) (E : DEnds) (D : Ends) : Prop where
  nx : ∀ G H env σ, Fr K c G H env σ → E.nx env → D.nx σ H
  rt : ∀ v d G H env σ, Fr K c G H env σ → R K G d v → E.rt d → D.rt v H
  bk : ∀ G H env σ, Fr K c G H env σ → E.bk env → D.bk σ H
  ct : ∀ G H env σ, Fr K c G H env σ → E.ct env → D.ct σ H
def SndS (K : PySem.W.Frag) (t : TS) (w : WS) : Prop := ∀ (c : Ctx) (G H : Hp) (env : List Sl) (σ : L2.St) (D : Ends) (E : DEnds), Fr K c G H env σ → w env E → Lift K c E D → t D σ H
structure DS (X : Cx) (st : Stmt) (t : TS) (w : WS) : Prop where
  ps : PS X st t
  snd : SndS X.K t w
structure DSs (X : Cx) (st : List Stmt) (t : TS) (w : WS) : Prop where
  ps : PSs X st t
  snd : SndS X.K t w
variable {st : Stmt} {rest body : List Stmt} {tS uS : TS} {wS vS : WS}
def wNext : WS := fun env E => E.nx env
def wThen (w v : WS) : WS := fun env E => w env { E with nx := fun env' => v env' E }
theorem dss_nil : DSs X [] tNext wNext := ⟨pss_nil, fun c G H env σ D E f hw L => L.nx G H env σ f hw⟩
theorem dss_one (h : DS X st tS wS) : DSs X [st] tS wS := ⟨pss_one h.ps, h.snd⟩
theorem dss_cons (h1 : DS X st tS wS) (h2 : DSs X rest uS vS) : DSs X (st :: rest) (tSeq tS uS) (wThen wS vS) := ⟨pss_cons h1.ps h2.ps, fun c G H env σ D E f hw L =>
  h1.snd c G H env σ { D with nx := uS D } { E with nx := fun env' => vS env' E } f hw ⟨fun G' H' env' σ' f' hw' => h2.snd c G' H' env' σ' D E f' hw' L, L.rt, L.bk, L.ct⟩⟩
theorem ds_pass : DS X (.Pass pos) tNext wNext := ⟨ps_pass, fun c G H env σ D E f hw L => L.nx G H env σ f hw⟩
theorem ds_continue : DS X (.Continue pos) tCont (fun env E => E.ct env) := ⟨ps_continue, fun c G H env σ D E f hw L => L.ct G H env σ f hw⟩
theorem ds_break : DS X (.Break pos) tBreak (fun env E => E.bk env) := ⟨ps_break, fun c G H env σ D E f hw L => L.bk G H env σ f hw⟩
theorem ds_never : DS X st tNever (fun _ _ => False) := ⟨ps_never, fun _ _ _ _ _ _ _ _ hw _ => hw⟩
def wExpr (w : WE) : WS := fun env E => w env fun _ => E.nx env
theorem ds_expr (h : DE X e t w) (hs : swapsWith e none pos.line X.env = pure false := by rfl) : DS X (.Expr e pos) (tDrop t) (wExpr w) := ⟨ps_expr h.pe hs, fun c G H env σ D E f hw L => h.snd c G H env σ _ _ f hw fun v d G' H' f' s r hq => L.nx G' H' env σ f' hq⟩
def wRet (w : WE) : WS := fun env E => w env E.rt
theorem ds_ret (h : DE X e t w) : DS X (.Return (some e) pos) (tRet t) (wRet w) := ⟨ps_ret h.pe, fun c G H env σ D E f hw L => h.snd c G H env σ _ _ f hw fun v d G' H' f' s r hq => L.rt v d G' H' env σ f' r hq⟩
theorem ds_retN : DS X (.Return none pos) tRetN (fun _ E => E.rt .non) := ⟨ps_retN, fun c G H env σ D E f hw L => L.rt .non .non G H env σ f R.non_ hw⟩
/-- return x, x's list ours (or not) -/
def wRetO (i : Nat) : WS := fun env E => match env[i]? with | some (.ol ds) => E.rt (.lst ds) | some (.d d) => E.rt d | _ => False
theorem ds_retO (i : Nat) {x : Str} {p : Pos} (hN : X.N[i]? = some x := by rfl) (hv : Vis X.env.scope x := by first | exact Or.inl rfl | exact Or.inr (Or.inl rfl) | exact Or.inr (Or.inr rfl)) (hd : (x == ("__debug__" : Str)) = false := by decide)
    (hcd : (x == ("__classdict__" : Str)) = false := by decide) : DS X (.Return (some (.Name x p)) pos) (tRet (tVar i)) (wRetO i) := ⟨ps_ret (pe_var hN hv hd hcd), fun c G H env σ D E f hw L => by
  unfold wRetO at hw
  split at hw
  · rename_i ds e
    obtain ⟨a, vs, e1, h1, h2, sm, f'⟩ := f.freeze e
    exact ⟨.ref a, e1, L.rt _ _ _ H _ σ f' (.lst upd_same (RL.mono sm _ _ h2)) hw⟩
  · rename_i d e
    obtain ⟨v, e1, r⟩ := f.getD e
    exact ⟨v, e1, L.rt v d G H env σ f r hw⟩
  · exact hw.elim⟩
def wSet (i : Nat) (w : WE) : WS := fun env E => w env fun d => E.nx (env.set i (.d d))
def wSetN (i : Nat) (w : WA) : WS := fun env E => w env fun ds => E.nx (env.set i (.ol ds))
theorem Fr.setOl {c : Ctx} {G H : Hp} {env : List Sl} {σ : L2.St} (f : Fr K c G H env σ) (i : Nat) {a : Addr} {vs : List V} {ds : List D} (h1 : H a = some (.lst vs)) (h2 : RL K G ds vs) (h3 : G a = none) (h4 : c.H0 a = none) (no : NoOwn env σ a) : Fr K c G H (env.set i (.ol ds)) (σ.set i (some (.ref a))) :=
  f.set i ⟨a, vs, rfl, h1, h2, h3, h4⟩ fun b e => by cases e; exact no
theorem ds_set {i : Nat} {x : Str} {p : Pos} (hN : X.N.Nodup) (hi : X.N[i]? = some x) (hx : Loc X.env.scope x) (h : DE X e t w) (hs : swapsWith e (some (.Name x p)) pos.line X.env = pure false := by rfl) (hf : X.fn x = true ∨ X.env.scope.names.lookup x = some .local := by first | exact .inl rfl | exact .inr rfl | assumption) :
    DS X (.Assign [.Name x p] e pos) (tAsg t (gName i)) (wSet i w) := ⟨ps_set hN hi hx h.pe hs hf, fun c G H env σ D E f hw L => h.snd c G H env σ _ _ f hw fun v d G' H' f' s r hq => L.nx G' H' _ _ (f'.setD i r) hq⟩
theorem ds_setN {i : Nat} {x : Str} {p : Pos} (hN : X.N.Nodup) (hi : X.N[i]? = some x) (hx : Loc X.env.scope x) (h : DN X e t wA) (hs : swapsWith e (some (.Name x p)) pos.line X.env = pure false := by rfl) (hf : X.fn x = true ∨ X.env.scope.names.lookup x = some .local := by first | exact .inl rfl | exact .inr rfl | assumption) :
    DS X (.Assign [.Name x p] e pos) (tAsg t (gName i)) (wSetN i wA) := ⟨ps_set hN hi hx h.pe hs hf, fun c G H env σ D E f hw L => h.snd c G H env σ _ _ f hw fun a vs ds G' H' f' s h1 h2 h3 h4 _ no hq => L.nx G' H' _ _ (f'.setOl i h1 h2 h3 h4 no) hq⟩
/-- x = [.. for ..] on one line, x a local that the block does not have -/
theorem ps_lc {i : Nat} {y : Str} {py : Pos} {ifs : List Expr} {scope : Scope} {own : List (Str × Nat)} {spos : Pos} {wi : TI} {wI : WA} {g : TG} {wg : WG} {ss : List Nat} (hc : X.calm = true) (hN : X.N.Nodup) (hy : X.N[i]? = some y) (hyl : X.env.scope.names.lookup y = some .local)
    (hsw : swapsWith (.ListComp elt [⟨tg, iter, ifs, 0⟩] scope pos) (some (.Name y py)) spos.line X.env = pure true) (hi : DIB X tg iter wi wI) (ok : BlkOk X.N X.env.scope scope own)
    (hg : ∀ (s : Shared) (H : Hp) (C : Addr) (cl : List (Str × Addr)) (fp : List Addr), DG (X.blk s H scope (compEnvC scope cl C X.env) fp) tg g wg ss) (ht : ∀ (s : Shared) (H : Hp) (C : Addr) (cl : List (Str × Addr)) (fp : List Addr), DTs (X.blk s H scope (compEnvC scope cl C X.env) fp) ifs tt wt)
    (he : ∀ (s : Shared) (H : Hp) (C : Addr) (cl : List (Str × Addr)) (fp : List Addr), DE (X.blk s H scope (compEnvC scope cl C X.env) fp) elt te we) (hss : ∀ i ∈ ss, i ∈ own.map (·.2)) (hs : ∀ x, foldedSetIterable iter X.env x = pure x) :
    PS X (.Assign [.Name y py] (.ListComp elt [⟨tg, iter, ifs, 0⟩] scope pos) spos) (tAsg (tLc wi g tt te (own.map (·.2))) (gName i)) ∧ SndN X.K (tLc wi g tt te (own.map (·.2))) (wLc wI wg wt we (own.map (·.2))) :=
  ⟨ps_setLc hc hN hy hyl hsw hi.pi ok (fun s H C cl fp => (hg s H C cl fp).pg) (fun s H C cl fp => (ht s H C cl fp).pt) (fun s H C cl fp => (he s H C cl fp).pe) hs,
    snd_lc hi.snd (hg X.s_0 X.H_0 0 [] []).snd (ht X.s_0 X.H_0 0 [] []).snd (he X.s_0 X.H_0 0 [] []).snd hss⟩
theorem ds_lcN {i : Nat} {y : Str} {py : Pos} {ifs : List Expr} {scope : Scope} {own : List (Str × Nat)} {spos : Pos} {wi : TI} {wI : WA} {g : TG} {wg : WG} {ss : List Nat} (hc : X.calm = true) (hN : X.N.Nodup) (hy : X.N[i]? = some y) (hyl : X.env.scope.names.lookup y = some .local)
    (hsw : swapsWith (.ListComp elt [⟨tg, iter, ifs, 0⟩] scope pos) (some (.Name y py)) spos.line X.env = pure true) (hi : DIB X tg iter wi wI) (ok : BlkOk X.N X.env.scope scope own)
    (hg : ∀ (s : Shared) (H : Hp) (C : Addr) (cl : List (Str × Addr)) (fp : List Addr), DG (X.blk s H scope (compEnvC scope cl C X.env) fp) tg g wg ss) (ht : ∀ (s : Shared) (H : Hp) (C : Addr) (cl : List (Str × Addr)) (fp : List Addr), DTs (X.blk s H scope (compEnvC scope cl C X.env) fp) ifs tt wt)
    (he : ∀ (s : Shared) (H : Hp) (C : Addr) (cl : List (Str × Addr)) (fp : List Addr), DE (X.blk s H scope (compEnvC scope cl C X.env) fp) elt te we) (hss : ∀ i ∈ ss, i ∈ own.map (·.2) := by decide) (hs : ∀ x, foldedSetIterable iter X.env x = pure x := by intro _; rfl) :
    DS X (.Assign [.Name y py] (.ListComp elt [⟨tg, iter, ifs, 0⟩] scope pos) spos) (tAsg (tLc wi g tt te (own.map (·.2))) (gName i)) (wSetN i (wLc wI wg wt we (own.map (·.2)))) :=
  have z := ps_lc hc hN hy hyl hsw hi ok hg ht he hss hs
  ⟨z.1, fun c G H env σ D E f hw L => z.2 c G H env σ _ _ f hw fun a vs ds G' H' f' s h1 h2 h3 h4 _ no hq => L.nx G' H' _ _ (f'.setOl i h1 h2 h3 h4 no) hq⟩
theorem ds_lc {i : Nat} {y : Str} {py : Pos} {ifs : List Expr} {scope : Scope} {own : List (Str × Nat)} {spos : Pos} {wi : TI} {wI : WA} {g : TG} {wg : WG} {ss : List Nat} (hc : X.calm = true) (hN : X.N.Nodup) (hy : X.N[i]? = some y) (hyl : X.env.scope.names.lookup y = some .local)
    (hsw : swapsWith (.ListComp elt [⟨tg, iter, ifs, 0⟩] scope pos) (some (.Name y py)) spos.line X.env = pure true) (hi : DIB X tg iter wi wI) (ok : BlkOk X.N X.env.scope scope own)
    (hg : ∀ (s : Shared) (H : Hp) (C : Addr) (cl : List (Str × Addr)) (fp : List Addr), DG (X.blk s H scope (compEnvC scope cl C X.env) fp) tg g wg ss) (ht : ∀ (s : Shared) (H : Hp) (C : Addr) (cl : List (Str × Addr)) (fp : List Addr), DTs (X.blk s H scope (compEnvC scope cl C X.env) fp) ifs tt wt)
    (he : ∀ (s : Shared) (H : Hp) (C : Addr) (cl : List (Str × Addr)) (fp : List Addr), DE (X.blk s H scope (compEnvC scope cl C X.env) fp) elt te we) (hss : ∀ i ∈ ss, i ∈ own.map (·.2) := by decide) (hs : ∀ x, foldedSetIterable iter X.env x = pure x := by intro _; rfl) :
    DS X (.Assign [.Name y py] (.ListComp elt [⟨tg, iter, ifs, 0⟩] scope pos) spos) (tAsg (tLc wi g tt te (own.map (·.2))) (gName i)) (wSet i (wN (wLc wI wg wt we (own.map (·.2))))) :=
  have z := ps_lc hc hN hy hyl hsw hi ok hg ht he hss hs
  ⟨z.1, fun c G H env σ D E f hw L => z.2 c G H env σ _ _ f hw fun a vs ds G' H' f' s h1 h2 h3 h4 na no hq => by
    have f2 := f'.setOl i h1 h2 h3 h4 no
    by_cases hi : i < env.length
    · obtain ⟨a', vs', e1, e2, e3, sm, f3⟩ := f2.freeze (i := i) (ds := ds) (by rw [List.getElem?_set_self hi])
      rw [List.set_set] at f3
      exact L.nx _ H' _ _ f3 hq
    · have e1 : ∀ s : Sl, env.set i s = env := fun s => List.set_eq_of_length_le (by omega)
      rw [e1] at f2
      have hq' : E.nx (env.set i (.d (.lst ds))) := hq
      rw [e1] at hq'
      exact L.nx G' H' _ _ f2 hq'⟩
theorem ds_asg {g : TG} {wg : WG} {ss : List Nat} (h : DE X e t w) (hg : DG X tg g wg ss) (hs : swapsWithSole [tg] e pos.line X.env = pure false := by rfl) (hw : swappedStores [tg] e X.env = pure none := by rfl) (h1 : (assignEach [tg] X.env).map (·.2) = [assign tg X.env] := by rfl) :
    DS X (.Assign [tg] e pos) (tAsg t g) (fun env E => w env fun d => wg d env E.nx) := ⟨ps_asg h.pe hg.pg hs hw h1, fun c G H env σ D E f hw L => h.snd c G H env σ _ _ f hw fun v d G' H' f' s r hq => hg.snd c G' H' env σ v d _ _ f' r hq fun env2 σ2 G2 H2 f2 s2 _ hq2 => L.nx G2 H2 env2 σ2 f2 hq2⟩
def wPar (i j : Nat) (wA : WA) : WS := fun env E => wA env fun ds => match ds with | [d, e] => E.nx ((env.set i (.d d)).set j (.d e)) | _ => False
theorem ds_par {i j : Nat} {x y : Str} {px py pt : Pos} {kt k2 pt2} (hc : X.calm = true) (hN : X.N.Nodup) (hi : X.N[i]? = some x) (hj : X.N[j]? = some y) (hij : i ≠ j)
    (hx : X.env.scope.names.lookup x = some .local) (hy : X.env.scope.names.lookup y = some .local) (ha : DA X [a, b] tA wA)
    (hw : swappedStores [.Tuple [.Name x px, .Name y py] kt pt] (.Tuple [a, b] k2 pt2) X.env = pure (some [x, y]))
    (hs : swapsWithSole [.Tuple [.Name x px, .Name y py] kt pt] (.Tuple [a, b] k2 pt2) pos.line X.env = pure false := by rfl) :
    DS X (.Assign [.Tuple [.Name x px, .Name y py] kt pt] (.Tuple [a, b] k2 pt2) pos) (tPar i j tA) (wPar i j wA) := ⟨ps_par hc hN hi hj hij hx hy ha.pa hw hs, fun c G H env σ D E f hw L => ha.snd c G H env σ _ _ f hw fun vs ds G' H' f' s r hq => by
  split at hq
  · obtain ⟨v, us, rfl, r1, r2⟩ := r.consE
    obtain ⟨u, us2, rfl, r3, r4⟩ := r2.consE
    rw [r4.nilE]
    exact ⟨v, u, rfl, L.nx G' H' _ _ ((f'.setD i r1).setD j r3) hq⟩
  · exact hq.elim⟩
def wIf (wt : WT) (w v : WS) : WS := fun env E => wt env fun b => match b with | true => w env E | false => v env E
theorem ds_if {A B : List Stmt} (hc : DT X cnd tt wt) (ha : DSs X A tS wS) (hb : DSs X B uS vS) : DS X (.If cnd A B pos) (tIfS tt tS uS) (wIf wt wS vS) := ⟨ps_if hc.pt ha.ps hb.ps, fun c G H env σ D E f hw L => hc.snd c G H env σ _ _ f hw fun b G' H' f' s hq => by
  cases b with
  | true => exact iteT (ha.snd c G' H' env σ D E f' hq L)
  | false => exact iteF (hb.snd c G' H' env σ D E f' hq L)⟩
/-- I i holds ahead of the item number i -/
def kFor' (wg : WG) (wb : WS) (env : List Sl) (E : DEnds) (ds : List D) : Prop := ∃ I : Nat → List Sl → Prop, I 0 env ∧
  (∀ i d env', ds[i]? = some d → I i env' → wg d env' fun env2 => wb env2 { nx := I (i + 1), rt := E.rt, bk := E.nx, ct := I (i + 1) }) ∧ ∀ env', I ds.length env' → E.nx env'
@[irreducible] def kFor (wg : WG) (wb : WS) (env : List Sl) (E : DEnds) (ds : List D) : Prop := kFor' wg wb env E ds
theorem kFor_i {wg : WG} {wb : WS} {env : List Sl} {E : DEnds} {ds : List D} (h : kFor' wg wb env E ds) : kFor wg wb env E ds := by unfold kFor; exact h
theorem kFor_e {wg : WG} {wb : WS} {env : List Sl} {E : DEnds} {ds : List D} (h : kFor wg wb env E ds) : kFor' wg wb env E ds := by unfold kFor at h; exact h
def wFor (wI : WA) (wg : WG) (wb : WS) : WS := fun env E => wI env (kFor wg wb env E)
theorem ds_for {wi : TI} {wI : WA} {g : TG} {wg : WG} {ss : List Nat} (hp : PassesOwn (model X.prog X.w) X.A X.env X.xe) (hc : X.calm = true) (hi : DI X tg iter wi wI) (hg : DG X tg g wg ss) (hb : DSs X body tS wS) (hs : ∀ x, foldedSetIterable iter X.env x = pure x := by intro _; rfl) :
    DS X (.For tg iter body [] pos) (tFor wi g tS) (wFor wI wg wS) := ⟨ps_for hp hc hi.pi hg.pg hb.ps hs, fun c G H env σ D E f hw L => hi.snd c G H env σ _ _ f hw fun J ds G1 H1 f1 s1 wk hI => by
  obtain ⟨I, h0, hstep, hend⟩ := kFor_e hI
  refine ⟨fun i m σ' H' => m = ds.length - i ∧ i ≤ ds.length ∧ ∃ G' env', Fr X.K c G' H' env' σ' ∧ Same G1 G' ∧ I i env', ⟨ds.length, by simp, Nat.zero_le _, G1, env, f1, Same.refl _, h0⟩, ?_⟩
  rintro i m σ2 H2 ⟨rfl, hi2, G2, env2, f2, s2, hI2⟩
  by_cases hlt : i < ds.length
  · refine .inr ?_
    have hd : ds[i]? = some ds[i] := List.getElem?_eq_getElem hlt
    obtain ⟨go, yl⟩ := wk.go G2 H2 ⟨s2, env2, σ2, f2⟩ i _ hd
    refine ⟨go, fun σ' H' => ∃ G' env', Fr X.K c G' H' env' σ' ∧ Same G1 G' ∧ I (i + 1) env', fun σ' H' p' => ⟨ds.length - (i + 1), by omega, rfl, hlt, p'⟩, fun x H3 y => ?_⟩
    obtain ⟨G3, g3, rx⟩ := yl x H3 y
    have f3 := f2.step g3
    refine hg.snd c G3 H3 env2 σ2 x _ _ _ f3 rx (hstep i _ env2 hd hI2) fun env4 σ4 G4 H4 f4 g4 _ hq4 => ?_
    have s4 : Same G1 G4 := s2.trans (g3.gg.trans g4.gg)
    exact hb.snd { c with G0 := G4 } G4 H4 env4 σ4 _ _ f4.rebase hq4
      ⟨fun G' H' env' σ' f' hI' => ⟨G', env', f4.unbase f', s4.trans f'.gg, hI'⟩, fun v d G' H' env' σ' f' r hr => L.rt v d G' H' env' σ' (f4.unbase f') r hr,
        fun G' H' env' σ' f' hn => L.nx G' H' env' σ' (f4.unbase f') hn, fun G' H' env' σ' f' hI' => ⟨G', env', f4.unbase f', s4.trans f'.gg, hI'⟩⟩
  · have e : i = ds.length := by omega
    subst e
    exact .inl ⟨wk.stop G2 H2 ⟨s2, env2, σ2, f2⟩, L.nx G2 H2 env2 σ2 f2 (hend env2 hI2)⟩⟩
/-- .. over a list of ours, which is frozen with that -/
def wForO (n : Nat) (wg : WG) (wb : WS) : WS := fun env E => match env[n]? with | some (.ol ds) => kFor wg wb (env.set n (.d (.lst ds))) E ds | some (.d (.lst ds)) => kFor wg wb env E ds | _ => False
theorem ds_forO (n : Nat) {x : Str} {p : Pos} {g : TG} {wg : WG} {ss : List Nat} (hp : PassesOwn (model X.prog X.w) X.A X.env X.xe) (hc : X.calm = true) (hN : X.N[n]? = some x) (hv : Vis X.env.scope x) (hd : (x == ("__debug__" : Str)) = false) (hcd : (x == ("__classdict__" : Str)) = false)
    (hg : DG X tg g wg ss) (hb : DSs X body tS wS) (hs : ∀ y, foldedSetIterable (.Name x p) X.env y = pure y := by intro _; rfl) : DS X (.For tg (.Name x p) body [] pos) (tFor (iSeq X.K (tVar n)) g tS) (wForO n wg wS) :=
  have base := ds_for (iter := .Name x p) (wI := wSeq (wVar n)) hp hc (di_seq (de_var n hN hv hd hcd)) hg hb hs
  ⟨base.ps, fun c G H env σ D E f hw L => by
    unfold wForO at hw
    split at hw
    · rename_i ds he
      obtain ⟨a, vs, e1, h1, h2, sm, f'⟩ := f.freeze he
      refine base.snd c _ H _ σ D E f' ?_ L
      show wVar n (env.set n (.d (.lst ds))) _
      unfold wVar
      rw [List.getElem?_set_self (List.getElem?_eq_some_iff.mp he).1]
      exact hw
    · rename_i ds he
      refine base.snd c G H env σ D E f ?_ L
      show wVar n env _
      unfold wVar
      rw [he]
      exact hw
    · exact hw.elim⟩
def kWhile' (wc : WT) (wb : WS) (env : List Sl) (E : DEnds) : Prop := ∃ (I : List Sl → Prop) (μ : List Sl → Nat), I env ∧
  ∀ env', I env' → wc env' fun b => match b with | true => wb env' { nx := fun e => I e ∧ μ e < μ env', rt := E.rt, bk := E.nx, ct := fun e => I e ∧ μ e < μ env' } | false => E.nx env'
@[irreducible] def wWhile (wc : WT) (wb : WS) : WS := fun env E => kWhile' wc wb env E
theorem while_i {wc : WT} {wb : WS} {env : List Sl} {E : DEnds} (h : kWhile' wc wb env E) : wWhile wc wb env E := by unfold wWhile; exact h
theorem while_e {wc : WT} {wb : WS} {env : List Sl} {E : DEnds} (h : wWhile wc wb env E) : kWhile' wc wb env E := by unfold wWhile at h; exact h
theorem ds_while (hp : PassesOwn (model X.prog X.w) X.A X.env X.xe) (hc : DT X cnd tt wt) (hb : DSs X body tS wS) : DS X (.While cnd body [] pos) (tWhile tt tS) (wWhile wt wS) := ⟨ps_while hp hc.pt hb.ps, fun c G H env σ D E f hw L => by
  obtain ⟨I, μ, h0, step⟩ := while_e hw
  refine ⟨fun m σ' H' => ∃ G' env', Fr X.K c G' H' env' σ' ∧ I env' ∧ μ env' = m, ⟨_, G, env, f, h0, rfl⟩, ?_⟩
  rintro m σ2 H2 ⟨G2, env2, f2, hI2, rfl⟩
  refine hc.snd c G2 H2 env2 σ2 _ _ f2 (step env2 hI2) fun b G3 H3 f3 g3 hq => ?_
  cases b with
  | true =>
    refine iteT ⟨fun σ' H' => ∃ m', m' < μ env2 ∧ ∃ G' env', Fr X.K c G' H' env' σ' ∧ I env' ∧ μ env' = m', fun σ' H' h => h, ?_⟩
    exact hb.snd c G3 H3 env2 σ2 _ _ f3 hq ⟨fun G' H' env' σ' f' h => ⟨μ env', h.2, G', env', f', h.1, rfl⟩, L.rt, fun G' H' env' σ' f' h => L.nx G' H' env' σ' f' h, fun G' H' env' σ' f' h => ⟨μ env', h.2, G', env', f', h.1, rfl⟩⟩
  | false => exact iteF (L.nx G3 H3 env2 σ2 f3 hq)⟩
/-! ### lists of ours are written -/
def wApp (i : Nat) (w : WE) : WS := fun env E => match env[i]? with | some (.ol ds) => w env fun d => ds.length < sizeLine ∧ E.nx (env.set i (.ol (ds ++ [d]))) | _ => False
theorem ds_append (i : Nat) {x : Str} {p apos cpos : Pos} (hv : PE X (.Name x p) (tVar i)) (ha : DE X e t w) (hs : swapsWith (.Call (.Attribute (.Name x p) "append" apos) [e] [] cpos) none pos.line X.env = pure false := by rfl)
    (hbase : attributeBase (.Name x p) "append" X.env (eval (.Name x p) X.env) = eval (.Name x p) X.env := by rfl)
    (hfew : ((backTo cpos (starEach [e] X.env)).all (fun x => !x.1) && (backToKw cpos (keywordEach [] X.env)).all (fun x => x.1.isSome)
      && decide ([e].length + ([] : List Keyword).length + (if ([] : List Keyword).isEmpty then 0 else 1) < 30)) = true := by rfl)
    (hline : (apos.endLine == cpos.line) = true := by rfl) (hse : starEach [e] X.env = (false, eval e X.env) :: starEach [] X.env := by rfl) (hplain : (backTo cpos (starEach [] X.env)).any (·.1) = false := by rfl) :
    DS X (.Expr (.Call (.Attribute (.Name x p) "append" apos) [e] [] cpos) pos) (tDrop (tBM X.K "list" rAppend (tVar i) (tCons t tNil))) (wApp i w) :=
  ⟨ps_expr (pe_bm PySem.F.plainAttrs_list PySem.F.slot_list_append PySem.F.type_list_append mt_append hv (pa_cons ha.pe pa_nil hse) hbase hfew hline hse hplain) hs, fun c G H env σ D E f hw L => by
    unfold wApp at hw
    split at hw
    · rename_i ds e1
      obtain ⟨a, vs, ea, h1, h2, h3, h4⟩ := f.getO e1
      refine ⟨.ref a, ea, .inl ⟨rfl, _, SqL.of h1⟩, ?_⟩
      refine ha.snd c G H env σ _ _ f hw fun v d G' H' f' g' r hq => ?_
      have h1' : H' a = some (.lst vs) := g'.hh _ _ h1 (f.own_ne h4)
      have h2' := RL.mono g'.gg _ _ h2
      exact ⟨a, vs, v, rfl, rfl, h1', by rw [h2.length]; exact hq.1, L.nx G' _ _ σ (f'.write e1 ea (h2'.snoc r)) hq.2⟩
    · exact hw.elim⟩
/-- x.extend(e), e a list -/
def wExt (i : Nat) (w : WE) : WS := fun env E => match env[i]? with | some (.ol ds) => w env fun d => (match d with | .lst es => ds.length + es.length ≤ sizeLine ∧ E.nx (env.set i (.ol (ds ++ es))) | _ => False) | _ => False
theorem ds_extend (i : Nat) {x : Str} {p apos cpos : Pos} (hv : PE X (.Name x p) (tVar i)) (ha : DE X e t w) (hs : swapsWith (.Call (.Attribute (.Name x p) "extend" apos) [e] [] cpos) none pos.line X.env = pure false := by rfl)
    (hbase : attributeBase (.Name x p) "extend" X.env (eval (.Name x p) X.env) = eval (.Name x p) X.env := by rfl)
    (hfew : ((backTo cpos (starEach [e] X.env)).all (fun x => !x.1) && (backToKw cpos (keywordEach [] X.env)).all (fun x => x.1.isSome)
      && decide ([e].length + ([] : List Keyword).length + (if ([] : List Keyword).isEmpty then 0 else 1) < 30)) = true := by rfl)
    (hline : (apos.endLine == cpos.line) = true := by rfl) (hse : starEach [e] X.env = (false, eval e X.env) :: starEach [] X.env := by rfl) (hplain : (backTo cpos (starEach [] X.env)).any (·.1) = false := by rfl) :
    DS X (.Expr (.Call (.Attribute (.Name x p) "extend" apos) [e] [] cpos) pos) (tDrop (tBM X.K "list" rExtend (tVar i) (tCons t tNil))) (wExt i w) :=
  ⟨ps_expr (pe_bm PySem.F.plainAttrs_list PySem.F.slot_list_extend PySem.F.type_list_extend mt_extend hv (pa_cons ha.pe pa_nil hse) hbase hfew hline hse hplain) hs, fun c G H env σ D E f hw L => by
    unfold wExt at hw
    split at hw
    · rename_i ds e1
      obtain ⟨a, vs, ea, h1, h2, h3, h4⟩ := f.getO e1
      refine ⟨.ref a, ea, .inl ⟨rfl, _, SqL.of h1⟩, ?_⟩
      refine ha.snd c G H env σ _ _ f hw fun v d G' H' f' g' r hq => ?_
      have h1' : H' a = some (.lst vs) := g'.hh _ _ h1 (f.own_ne h4)
      have h2' := RL.mono g'.gg _ _ h2
      split at hq
      · obtain ⟨b, us, rfl, e2, e3⟩ := r.lstE
        exact ⟨a, b, vs, us, rfl, rfl, h1', f'.gh _ _ e2, by rw [h2.length, e3.length]; exact hq.1, L.nx G' _ _ σ (f'.write e1 ea (h2'.append e3)) hq.2⟩
      · exact hq.elim
    · exact hw.elim⟩
/-- x[j] = e, x's list ours -/
def wIxSet (i : Nat) (wj w : WE) : WS := fun env E => match env[i]? with | some (.ol ds) => w env fun d => wj env fun k => (match k with | .int j => (match ixN ds.length j with | some n => E.nx (env.set i (.ol (ds.set n d))) | none => False) | _ => False) | _ => False
theorem RL.setI {H : Hp} {ds : List D} {vs : List V} {d : D} {v : V} (h : RL K H ds vs) (r : R K H d v) (n : Nat) : RL K H (ds.set n d) (vs.set n v) := RL.set r n h
theorem ds_ixset (i : Nat) {x : Str} {p : Pos} {ix : Expr} {tix : TE} {wix : WE} {spos : Pos} (hv : PE X (.Name x p) (tVar i)) (hj : DE X ix tix wix) (ha : DE X e t w)
    (hsub : ∀ v, assign (.Subscript (.Name x p) ix spos) X.env v = (do
      let ov ← holding [v] (eval (.Name x p) X.env)
      let iv ← holding [v, ov] (eval ix X.env)
      standAt spos
      holding [v, ov, iv] (setItem ov iv v)
      release [v, ov, iv] []) := by intro _; rfl)
    (hs : swapsWithSole [.Subscript (.Name x p) ix spos] e pos.line X.env = pure false := by rfl) (hw : swappedStores [.Subscript (.Name x p) ix spos] e X.env = pure none := by rfl) (h1 : (assignEach [.Subscript (.Name x p) ix spos] X.env).map (·.2) = [assign (.Subscript (.Name x p) ix spos) X.env] := by rfl) :
    DS X (.Assign [.Subscript (.Name x p) ix spos] e pos) (tAsg t (gSub (tVar i) tix rSetL)) (wIxSet i wix w) := ⟨ps_asg ha.pe (pg_sub hv hj.pe set_list hsub) hs hw h1, fun c G H env σ D E f hw L => by
    unfold wIxSet at hw
    split at hw
    · rename_i ds e1
      obtain ⟨a, vs, ea, h1, h2, h3, h4⟩ := f.getO e1
      refine ha.snd c G H env σ _ _ f hw fun v d G' H' f' g' r hq => ⟨.ref a, ea, ?_⟩
      refine hj.snd c G' H' env σ _ _ f' hq fun k dk G2 H2 f2 g2 rk hq2 => ?_
      have g := g'.trans g2
      have h1' : H2 a = some (.lst vs) := g.hh _ _ h1 (f.own_ne h4)
      have h2' := RL.mono g.gg _ _ h2
      split at hq2
      · rename_i j
        split at hq2
        · rename_i n hn
          refine ⟨a, vs, j, n, rfl, rk, h1', by rw [h2.length]; exact hn, L.nx G2 _ _ σ (f2.write e1 ea (h2'.setI (r.mono g2.gg) n)) hq2⟩
        · exact hq2.elim
      · exact hq2.elim
    · exact hw.elim⟩
/-- x += e of ints (texts) -/
def wAug (i : Nat) (wo : WO) (w : WE) : WS := fun env E => match env[i]? with | some (.d d) => w env fun z => wo d z fun r => E.nx (env.set i (.d r)) | _ => False
def wAddI : WO := fun d e q => match d, e with | .int i, .int j => q (.int (i + j)) | .str s, .str t => s.length + t.length ≤ sizeLine ∧ q (.str (s ++ t)) | _, _ => False
def rIAdd : R2 := fun x y H Q => (rI0 (fun i j => .int (i + j))) x y H Q ∨ (fun x y (H : Hp) (Q : VK) => ∃ i j, x = .str i ∧ y = .str j ∧ i.length + j.length ≤ sizeLine ∧ Q (.str (i ++ j)) H) x y H Q
theorem ip_addU : PIp X .Add rIAdd := (iop_add.or iop_add_str : OpR X (inplaceOp .Add) _)
theorem so_addI : SndO K rIAdd wAddI := fun c G H env σ x y d e Q q f hx hy hw k => by
  unfold wAddI at hw
  split at hw
  · exact .inl ⟨_, _, hx.int, hy.int, k _ _ G H f (Gr.refl f) R.int_ hw⟩
  · exact .inr ⟨_, _, hx.str, hy.str, hw.1, k _ _ G H f (Gr.refl f) R.str_ hw.2⟩
  · exact hw.elim
theorem ds_aug {i : Nat} {x : Str} {p : Pos} (hN : X.N.Nodup) (hi : X.N[i]? = some x) (hx : Loc X.env.scope x) (h : DE X e t w) (hf : X.fn x = true ∨ X.env.scope.names.lookup x = some .local := by first | exact .inl rfl | exact .inr rfl | assumption) :
    DS X (.AugAssign (.Name x p) .Add e pos) (tAug i t rIAdd) (wAug i wAddI w) := ⟨ps_aug hN hi hx h.pe ip_addU hf, fun c G H env σ D E f hw L => by
    unfold wAug at hw
    split at hw
    · rename_i d e1
      obtain ⟨v, ev, r⟩ := f.getD e1
      refine ⟨v, ev, h.snd c G H env σ _ _ f hw fun u z G' H' f' g' ru hq => ?_⟩
      exact so_addI c G' H' env σ v u d z _ _ f' (.of f'.gh (r.mono g'.gg)) (.of f'.gh ru) hq fun y z2 G2 H2 f2 g2 r2 hq2 => L.nx G2 H2 _ _ (f2.setD i r2) hq2
    · exact hw.elim⟩
end

/-! ### a def -/
def env0 (n : Nat) (ds : List D) : List Sl := ds.map Sl.d ++ List.replicate (n - ds.length) .no
theorem fr_start {K : PySem.W.Frag} {G H : Hp} {ds : List D} {vs : List V} (N : List Str) (s : Same G H) (r : RL K G ds vs) (hl : ds.length ≤ N.length) : Fr K ⟨G, H, none⟩ G H (env0 N.length ds) (L2.start N vs) := by
  have hv := r.length
  refine ⟨fun a o h _ => h, Same.refl G, s, fun _ _ _ n => n, fun a e => (nomatch e), fun a e => (nomatch e), ?_, fun i sl o h1 h2 => ?_, fun i j a si sj oi oj h1 h2 h3 h4 h5 h6 => ?_⟩
  · unfold env0 L2.start
    rw [List.length_append, List.length_append, List.length_map, List.length_map, List.length_replicate, List.length_replicate, hv]
  · unfold env0 at h1
    unfold L2.start at h2
    by_cases hi : i < ds.length
    · rw [List.getElem?_append_left (by rw [List.length_map]; exact hi), List.getElem?_map, List.getElem?_eq_getElem hi] at h1
      rw [List.getElem?_append_left (by rw [List.length_map, hv]; exact hi), List.getElem?_map] at h2
      obtain ⟨v, g1, g2⟩ := r.get (List.getElem?_eq_getElem hi)
      rw [g1] at h2
      cases h1; cases h2
      exact ⟨v, rfl, g2⟩
    · rw [List.getElem?_append_right (by rw [List.length_map]; omega), List.getElem?_replicate] at h1
      split at h1
      · cases h1; trivial
      · cases h1
  · have no : ∀ (i : Nat) (si : Sl) (oi : Option V), (env0 N.length ds)[i]? = some si → ownAt si oi ≠ some a := by
      intro i si oi h
      unfold env0 at h
      by_cases hi : i < ds.length
      · rw [List.getElem?_append_left (by rw [List.length_map]; exact hi), List.getElem?_map, List.getElem?_eq_getElem hi] at h
        cases h
        intro z; cases z
      · rw [List.getElem?_append_right (by rw [List.length_map]; omega), List.getElem?_replicate] at h
        split at h
        · cases h; intro z; cases z
        · cases h
    exact absurd h5 (no i si oi h1)
section
variable {P : Program} {w : World} {K : PySem.W.Frag} {mg : Str → Option Value} {base : Heap}
theorem fn_d {x qual : Str} {st : Stmt} {f : Addr} {fd : FuncData} {N ps : List Str} {k : Nat} {W : List D → (D → Prop) → Prop} (F : Fun K x qual st f fd) (S : FnScope N ps (defScope st)) (hW : ∀ ds q, W ds q → ds.length = ps.length)
    (h : ∀ (cdv : Value) (A : Around) (outer : List Env) (s : Shared) (H : Hp) (E : XK), Room k (A.deeper (PyProof.Rows.envOfC qual (defScope st) s.heap.objs.size f cdv)) →
      ∃ t wS, DSs (cxOf CX0 P w K mg base N qual (defScope st) f cdv A outer s H E).nox (defBody st) t wS ∧ ∀ ds q, W ds q → wS (env0 N.length ds) { nx := fun _ => q .non, rt := q }) : FnOk P w K mg base CX0 (k + 1) f fd ps (spD K W) := by
  refine F.ok S (fun vs H Q E hsp => ?_) (fun cdv A outer s H vs Q E hr hsp => ?_)
  · obtain ⟨G, ds, q, _, r, hw, _⟩ := hsp
    rw [r.length]; exact hW ds q hw
  · obtain ⟨G, ds, q, sg, r, hw, fin⟩ := hsp
    obtain ⟨t, wS, D, hD⟩ := h cdv A outer s H E hr
    refine ⟨t, D.ps, ?_⟩
    have hl : ds.length ≤ N.length := by
      rw [hW ds q hw]
      have := congrArg List.length S.pre
      rw [List.length_take] at this
      omega
    have f0 := fr_start N sg r hl
    exact D.snd _ G H _ _ _ _ f0 (hD ds q hw) ⟨fun G' H' env σ f' hq => fin _ _ G' H' (fun a o e => f'.hb a o e (by intro z; cases z)) f'.gg f'.gh f'.old R.non_ hq,
      fun v d G' H' env σ f' r' hq => fin v d G' H' (fun a o e => f'.hb a o e (by intro z; cases z)) f'.gg f'.gh f'.old r' hq, fun _ _ _ _ _ z => z.elim, fun _ _ _ _ _ z => z.elim⟩
/-- a def whose first argument is the draw -/
def envR (n : Nat) (ds : List D) : List Sl := .dr :: (ds.map Sl.d ++ List.replicate (n - 1 - ds.length) .no)
theorem fr_startR {K : PySem.W.Frag} {G H : Hp} {a : Addr} {ds : List D} {vs : List V} (N : List Str) (s : Same G H) (dr : DrC K G H a) (r : RL K G ds vs) (hl : ds.length + 1 ≤ N.length) : Fr K ⟨G, H, some a⟩ G H (envR N.length ds) (L2.start N (.ref a :: vs)) := by
  have hv := r.length
  obtain ⟨n0, s0, k0, ns0, hda, _⟩ := id dr
  have es : L2.start N (.ref a :: vs) = some (V.ref a) :: (vs.map some ++ List.replicate (N.length - 1 - vs.length) none) := by
    unfold L2.start
    rw [List.map_cons, List.cons_append, List.length_cons]
    congr 3
    omega
  rw [es]
  refine ⟨fun a o h _ => h, Same.refl G, s, fun _ _ _ n => n, fun b e => (by cases e; exact ⟨_, hda⟩), fun b e => (by cases e; exact dr), ?_, fun i sl o h1 h2 => ?_, fun i j b si sj oi oj h1 h2 h3 h4 h5 h6 => ?_⟩
  · unfold envR
    rw [List.length_cons, List.length_cons, List.length_append, List.length_append, List.length_map, List.length_map, List.length_replicate, List.length_replicate, hv]
  · unfold envR at h1
    cases i with
    | zero => cases h1; cases h2; exact ⟨a, rfl, rfl⟩
    | succ i =>
      rw [List.getElem?_cons_succ] at h1 h2
      by_cases hi : i < ds.length
      · rw [List.getElem?_append_left (by rw [List.length_map]; exact hi), List.getElem?_map, List.getElem?_eq_getElem hi] at h1
        rw [List.getElem?_append_left (by rw [List.length_map, hv]; exact hi), List.getElem?_map] at h2
        obtain ⟨v, g1, g2⟩ := r.get (List.getElem?_eq_getElem hi)
        rw [g1] at h2
        cases h1; cases h2
        exact ⟨v, rfl, g2⟩
      · rw [List.getElem?_append_right (by rw [List.length_map]; omega), List.getElem?_replicate] at h1
        split at h1
        · cases h1; trivial
        · cases h1
  · have no : ∀ (i : Nat) (si : Sl) (oi : Option V), (envR N.length ds)[i]? = some si → ownAt si oi ≠ some b := by
      intro i si oi h
      unfold envR at h
      cases i with
      | zero => cases h; intro z; cases z
      | succ i =>
        rw [List.getElem?_cons_succ] at h
        by_cases hi : i < ds.length
        · rw [List.getElem?_append_left (by rw [List.length_map]; exact hi), List.getElem?_map, List.getElem?_eq_getElem hi] at h
          cases h
          intro z; cases z
        · rw [List.getElem?_append_right (by rw [List.length_map]; omega), List.getElem?_replicate] at h
          split at h
          · cases h; intro z; cases z
          · cases h
    exact absurd h5 (no i si oi h1)
theorem fn_r {x qual : Str} {st : Stmt} {f : Addr} {fd : FuncData} {N ps : List Str} {k : Nat} {W : List D → (D → Prop) → Prop} (F : Fun K x qual st f fd) (S : FnScope N ps (defScope st)) (hW : ∀ ds q, W ds q → ds.length + 1 = ps.length)
    (h : ∀ (cdv : Value) (A : Around) (outer : List Env) (s : Shared) (H : Hp) (E : XK), Room k (A.deeper (PyProof.Rows.envOfC qual (defScope st) s.heap.objs.size f cdv)) →
      ∃ t wS, DSs (cxOf CX0 P w K mg base N qual (defScope st) f cdv A outer s H E).nox (defBody st) t wS ∧ ∀ ds q, W ds q → wS (envR N.length ds) { nx := fun _ => q .non, rt := q }) : FnOk P w K mg base CX0 (k + 1) f fd ps (spR K W) := by
  refine F.ok S (fun vs H Q E hsp => ?_) (fun cdv A outer s H vs Q E hr hsp => ?_)
  · obtain ⟨G, a, us, ds, q, rfl, _, _, r, hw, _⟩ := hsp
    rw [List.length_cons, r.length]; exact hW ds q hw
  · obtain ⟨G, a, us, ds, q, rfl, sg, dr, r, hw, fin⟩ := hsp
    obtain ⟨t, wS, D, hD⟩ := h cdv A outer s H E hr
    refine ⟨t, D.ps, ?_⟩
    have hl : ds.length + 1 ≤ N.length := by
      rw [hW ds q hw]
      have := congrArg List.length S.pre
      rw [List.length_take] at this
      omega
    have f0 := fr_startR N sg dr r hl
    have hh : ∀ {G' H' : Hp} {env : List Sl} {σ : L2.St}, Fr K ⟨G, H, some a⟩ G' H' env σ → ∀ b o, H b = some o → b ≠ a → H' b = some o := fun f' b o e n => f'.hb b o e (by intro z; cases z; exact n rfl)
    exact D.snd _ G H _ _ _ _ f0 (hD ds q hw) ⟨fun G' H' env σ f' hq => fin _ _ G' H' (hh f') f'.gg f'.gh f'.old (f'.dr a rfl) R.non_ hq,
      fun v d G' H' env σ f' r' hq => fin v d G' H' (hh f') f'.gg f'.gh f'.old (f'.dr a rfl) r' hq, fun _ _ _ _ _ z => z.elim, fun _ _ _ _ _ z => z.elim⟩
end
end Y

namespace Y
open PySem L2 PyProof.Rows
/-! ### a def of one tuple that a sort calls: (0, 0) if its first item is None, else (1, that item) -/
def lowKey (o : Option Int) : PyData := match o with | none => .tuple [.int 0, .int 0] | some i => .tuple [.int 1, .int i]
/-- v is a tuple whose first item is o -/
def FirstIs (h : Heap) (v : Value) (o : Option Int) : Prop := ∃ t its, v = .ref t ∧ IsTup h t its ∧ (match o with | none => its[0]? = some Value.none | some i => ∃ k, its[0]? = some (Value.int i k))
theorem isTup_keep {h h' : Heap} {t : Addr} {its : Array Value} (k : ∀ b o, h.get? b = some o → h'.get? b = some o) (x : IsTup h t its) : IsTup h' t its := by
  obtain ⟨o, e, c, n, d⟩ := x
  exact ⟨o, k _ _ e, c, n, d⟩
theorem FirstIs.keep {h h' : Heap} {v : Value} {o : Option Int} (k : ∀ b o, h.get? b = some o → h'.get? b = some o) (x : FirstIs h v o) : FirstIs h' v o := by
  obtain ⟨t, its, e, a, b⟩ := x
  exact ⟨t, its, e, isTup_keep k a, b⟩
section
variable {P : Program} {w : World} {K : PySem.W.Frag} {A : Around} {E : Value → Shared → Prop} {s : Shared} {env : Env} {t : Addr} {its : Array Value} {v : Value} {p p2 p3 : Pos} {j : Nat}
theorem low_sub {Q : Value → Shared → Prop} (hk : env.scope.kind = .function) (hl : env.kindOf "pair" = some .local) (hn : s.heap.Ns env.locals (fun y => if y = "pair" then some (Value.ref t) else none)) (ht : IsTup s.heap t its) (h0 : its[0]? = some v)
    (h : ∀ tk, Q v { s with toks := tk }) : wpAny (model P w) A (eval (.Subscript (.Name "pair" p) (.Constant (.int 0) j p2) p3) env) Q E s := by
  refine Subscript_ (wpAny_Name (wpAny_loadName_local hk hl hn (if_pos rfl) (wpAny_Constant_int ?_)))
  have hs : 0 < its.size := by
    rcases Nat.lt_or_ge 0 its.size with h | h
    · exact h
    · rw [Array.getElem?_eq_none (by omega)] at h0; cases h0
  refine item_tuple (k := 0) (j := 0) (isTup_keep (fun _ _ e => e) ht) (by decide) (by decide) ?_ h0 (h _)
  have e : seqIndex? 0 its.size = some 0 := by
    unfold seqIndex?
    have h1 : ((0 : Int) < (its.size : Int)) := by omega
    simp only [show ¬((0:Int) < 0) from by decide, if_false, decide_eq_true h1, show decide ((0:Int) ≤ 0) = true from rfl, Bool.and_self, if_true]
    rfl
  exact e
end
section
variable {P : Program} {w : World} {K : PySem.W.Frag}
abbrev lowBody (p1 p2 p3 p4 p5 p6 p7 p8 p9 p10 p11 p12 p13 p14 p15 : Pos) (j1 j2 j3 j4 j5 j6 k1 k2 : Nat) : List Stmt := [.Return (some (.IfExp (.Compare (.Subscript (.Name "pair" p1) (.Constant (.int 0) j1 p2) p3) [.Is] [.Constant .none j2 p4] p5) (.Tuple [.Constant (.int 0) j3 p6, .Constant (.int 0) j4 p7] k1 p8) (.Tuple [.Constant (.int 1) j5 p9, .Subscript (.Name "pair" p10) (.Constant (.int 0) j6 p11) p12] k2 p13) p14)) p15]
theorem low_pure {f : Addr} {x qual : Str} {params : Arguments} {scope : Scope} {dV kV doc pm cdv ct oc : Value} {an od : Option Addr} {osl : Array (Option Value)} {A : Around} {s : Shared} {v : Value} {o : Option Int}
    {p1 p2 p3 p4 p5 p6 p7 p8 p9 p10 p11 p12 p13 p14 p15 : Pos} {j1 j2 j3 j4 j5 j6 k1 k2 : Nat}
    (lk : K.lookup f = some ⟨oc, od, .func (PySem.W.fnOf x qual params (lowBody p1 p2 p3 p4 p5 p6 p7 p8 p9 p10 p11 p12 p13 p14 p15 j1 j2 j3 j4 j5 j6 k1 k2) scope dV kV doc pm an cdv ct), osl⟩)
    (hcd : PySem.W.codeIn K cdv qual = true) (hk : scope.kind = .function) (hco : scope.isCoroutine = false) (hgen : scope.isGenerator = false) (hnm : scope.names = [(("pair" : Str), .local)])
    (hb : bindArgs (PySem.W.fnOf x qual params (lowBody p1 p2 p3 p4 p5 p6 p7 p8 p9 p10 p11 p12 p13 p14 p15 j1 j2 j3 j4 j5 j6 k1 k2) scope dV kV doc pm an cdv ct) ⟨[v], []⟩ = pure [(("pair" : Str), v)])
    (hd : A.depth < recursionLimit) (KX : K.In s.heap) (lim : s.heap.NoLimit) (hv : FirstIs s.heap v o) :
    wpAny (model P w) A (call (.ref f) [v]) (PySem.W.KeyPure (lowKey o) s) (fun _ _ => False) s := by
  obtain ⟨t, its, rfl, ht, ho⟩ := hv
  refine wpAny_call (codeAny_call_function hd (KX _ _ lk) rfl hco hgen rfl (PySem.W.codeRec_of KX hcd) ?_)
  rw [hb]
  refine wpAny_pure ?_
  refine wpAny_newFunctionEnv (by rw [show (PySem.W.fnOf x qual params (lowBody p1 p2 p3 p4 p5 p6 p7 p8 p9 p10 p11 p12 p13 p14 p15 j1 j2 j3 j4 j5 j6 k1 k2) scope dV kV doc pm an cdv ct).scope = scope from rfl, hnm]; decide) (by rw [show (PySem.W.fnOf x qual params (lowBody p1 p2 p3 p4 p5 p6 p7 p8 p9 p10 p11 p12 p13 p14 p15 j1 j2 j3 j4 j5 j6 k1 k2) scope dV kV doc pm an cdv ct).scope = scope from rfl, hnm]; intro x hx; rw [List.mem_singleton] at hx; subst hx; rfl) (fun h1 hns sb => ?_) hk
  have kp : ∀ b o, s.heap.get? b = some o → h1.get? b = some o := fun b o e => by
    rw [sb.2 b (Nat.ne_of_lt (Heap.lt_size e))]
    exact Heap.get?_push_of_some _ e
  refine ⟨lim.keeps kp, codeAny_func ?_⟩
  have hns' : h1.Ns s.heap.objs.size (fun y => if y = "pair" then some (Value.ref t) else none) := by
    have e : (fun y => ([(("pair" : Str), Value.ref t)].reverse).lookup y) = (fun y : Str => if y = "pair" then some (Value.ref t) else none) := by
      funext y
      show (List.lookup y [(("pair" : Str), Value.ref t)]) = _
      by_cases h : y = "pair"
      · subst h; rfl
      · rw [if_neg h]
        show (match y == "pair" with | true => some (Value.ref t) | false => none) = none
        rw [show (y == "pair") = false from by simpa using h]
    rw [← e]; exact hns
  have ht1 := isTup_keep kp ht
  have hl : Env.kindOf (newEnv (PySem.W.fnOf x qual params (lowBody p1 p2 p3 p4 p5 p6 p7 p8 p9 p10 p11 p12 p13 p14 p15 j1 j2 j3 j4 j5 j6 k1 k2) scope dV kV doc pm an cdv ct).scope s.heap.objs.size mainGlobals [] (qual ++ ".<locals>.") (some f) cdv none 0) "pair" = some .local := by
    show scope.names.lookup ("pair" : Str) = some .local
    rw [hnm]; rfl
  have push : ∀ (b : Addr) (ob nb : Obj), h1.get? b = some ob → (h1.push nb).get? b = some ob := fun b ob nb e => Heap.get?_push_of_some _ e
  refine wpAny_execs_cons (wpAny_Return_some (wpAny_IfExp (wpAny_isTrue_Compare1 ?_)))
  cases o with
  | none =>
    refine low_sub hk hl hns' ht1 ho fun tk1 => wpAny_Constant_none (is_none_gen (wpAny_truthy_bool ?_))
    refine wpAny_Tuple (wpAny_items_cons (wpAny_Constant_int (wpAny_items_cons (wpAny_Constant_int (wpAny_items_nil ⟨by show 2 ≤ sizeLine; decide, ?_⟩)))))
    exact ⟨_, _, rfl, fun b ob e => push _ _ _ (kp b ob e), .tuple (Heap.get?_push_size _ rfl) rfl rfl (.cons (.int 0 _) (.cons (.int 0 _) .nil))⟩
  | some i =>
    obtain ⟨k, ho⟩ := ho
    refine low_sub hk hl hns' ht1 ho fun tk1 => wpAny_Constant_none (is_none_gen (wpAny_truthy_bool ?_))
    refine wpAny_Tuple (wpAny_items_cons (wpAny_Constant_int (wpAny_items_cons (low_sub hk hl hns' ht1 ho fun tk2 => (wpAny_items_nil ⟨by show 2 ≤ sizeLine; decide, ?_⟩)))))
    exact ⟨_, _, rfl, fun b ob e => push _ _ _ (kp b ob e), .tuple (Heap.get?_push_size _ rfl) rfl rfl (.cons (.int 1 _) (.cons (.int i _) .nil))⟩
end

/-! ### sorted(xs, key=low_of) -/
def kA (o : Option Int) : Int := match o with | none => 0 | some _ => 1
def kB (o : Option Int) : Int := match o with | none => 0 | some i => i
theorem lowKey_eq (o : Option Int) : lowKey o = .tuple [.int (kA o), .int (kB o)] := by cases o <;> rfl
def kLe (o u : Option Int) : Prop := kA o < kA u ∨ (kA o = kA u ∧ kB o ≤ kB u)
def rSortLow (K : PySem.W.Frag) (f : Addr) : List V → List V → Hp → VK → Prop := fun vs zs H Q => ∃ (a : Addr) (β : Type) (bs : List β) (fv : β → V) (fk : β → Option Int), vs = [.ref a] ∧ zs = [.ref f] ∧ SqL K H a (bs.map fv) ∧
  (∀ b ∈ bs, ∃ t x xs, fv b = .ref t ∧ SqT K H t (x :: xs) ∧ (match fk b with | none => x = .non | some i => x = .int i)) ∧
  ∀ (bs' : List β) (p : Addr), bs'.Perm bs → bs'.Pairwise (fun x y => kLe (fk x) (fk y)) → H p = none → Q (.ref p) (upd H p (.lst (bs'.map fv)))
theorem valsZip {β : Type} (fv : β → V) : ∀ (bs : List β) (us : List Value), Vals (bs.map fv) us → ∃ ts : List (Value × β), us = ts.map (·.1) ∧ bs = ts.map (·.2) ∧ ∀ t ∈ ts, RelV (fv t.2) t.1
  | [], us, h => by cases h; exact ⟨[], rfl, rfl, fun t ht => absurd ht List.not_mem_nil⟩
  | b :: bs, us, h => by
    cases h with
    | cons r t =>
      obtain ⟨ts, e1, e2, e3⟩ := valsZip fv bs _ t
      refine ⟨(_, b) :: ts, by rw [e1]; rfl, by rw [List.map_cons, ← e2], fun t ht => ?_⟩
      rcases List.mem_cons.mp ht with rfl | ht
      · exact r
      · exact e3 t ht
theorem eachIs_map {β : Type} {R : Value → β → Prop} (fu : β → Value) : ∀ bs : List β, (∀ b ∈ bs, R (fu b) b) → PySem.W.EachIs R (bs.map fu) bs
  | [], _ => .nil
  | b :: bs, h => .cons (h b List.mem_cons_self) (eachIs_map fu bs fun x hx => h x (List.mem_cons_of_mem _ hx))
theorem eachIs_eq {β : Type} {fu : β → Value} {S : β → Prop} : ∀ {us : List Value} {bs : List β}, PySem.W.EachIs (fun v b => v = fu b ∧ S b) us bs → us = bs.map fu
  | _, _, .nil => rfl
  | _, _, .cons h t => by rw [h.1, eachIs_eq t]; rfl
section
variable {X : Cx} {pos : Pos}
theorem cr_sortLow {f : Addr} {x qual : Str} {params : Arguments} {scope : Scope} {dV kV doc pm cdv ct oc : Value} {an od : Option Addr} {osl : Array (Option Value)}
    {p1 p2 p3 p4 p5 p6 p7 p8 p9 p10 p11 p12 p13 p14 p15 : Pos} {j1 j2 j3 j4 j5 j6 k1 k2 : Nat}
    (lk : X.K.lookup f = some ⟨oc, od, .func (PySem.W.fnOf x qual params (lowBody p1 p2 p3 p4 p5 p6 p7 p8 p9 p10 p11 p12 p13 p14 p15 j1 j2 j3 j4 j5 j6 k1 k2) scope dV kV doc pm an cdv ct), osl⟩)
    (hcd : PySem.W.codeIn X.K cdv qual = true) (hk : scope.kind = .function) (hco : scope.isCoroutine = false) (hgen : scope.isGenerator = false) (hnm : scope.names = [(("pair" : Str), .local)])
    (hb : ∀ v, bindArgs (PySem.W.fnOf x qual params (lowBody p1 p2 p3 p4 p5 p6 p7 p8 p9 p10 p11 p12 p13 p14 p15 j1 j2 j3 j4 j5 j6 k1 k2) scope dV kV doc pm an cdv ct) ⟨[v], []⟩ = pure [(("pair" : Str), v)])
    {k : Nat} (hr : Room k X.A) : CallRK X (.builtin "sorted") [Str.ofString "key"] (rSortLow X.K f) := by
  intro pins s σ H vs zs us ws Q I r rz h
  obtain ⟨a, β, bs, fv, fk, rfl, rfl, hs, hit, q⟩ := h
  obtain rfl := Vals.ref1 r
  obtain ⟨w1, rfl, e1⟩ := vals1 rz
  obtain rfl : w1 = Value.ref f := e1
  obtain ⟨its, rv, hl, hz⟩ := I.list hs
  obtain ⟨ts, rfl, rfl, hts⟩ := valsZip fv bs its rv
  have hz' : ts.length ≤ sizeLine := by simpa using hz
  have hfst : ∀ b ∈ ts, FirstIs s.heap b.1 (fk b.2) := by
    intro b hm
    obtain ⟨t, y, ys, ev, ht, hy⟩ := hit b.2 (List.mem_map_of_mem hm)
    have r1 := hts b hm
    rw [ev] at r1
    obtain ⟨its', r', pl, _⟩ := I.tuple ht
    cases r' with
    | cons ry _ =>
      refine ⟨t, _, r1, pl, ?_⟩
      split <;> rename_i e <;> rw [e] at hy
      · subst hy
        rw [show _ = Value.none from ry]; rfl
      · subst hy
        obtain ⟨k, rfl⟩ := ry
        exact ⟨k, rfl⟩
  refine PySem.W.sorted_key_data (b := false) (R := fun v b => v = b.1 ∧ (RelV (fv b.2) b.1 ∧ FirstIs s.heap b.1 (fk b.2))) (bs := ts) (fun b : Value × β => lowKey (fk b.2)) hl.isList (eachIs_map (·.1) ts fun b hm => ⟨rfl, hts b hm, hfst b hm⟩) (PySem.W.AllAlike.of fun b b' => ?_) (PySem.W.Sortable.tuples fun b => by rw [lowKey_eq]; exact ⟨_, _, rfl⟩) hz' (fun b _ => ?_)
    (PyProof.Rows.ksk_s1 _ _) (fun _ => PyProof.Rows.ksk_l1 _ _) (fun _ => PyProof.Rows.ksk_t1 _ _) (fun v b hR hm h1 tk kp => ?_) fun out c h' tk kp hn hD hlen eo => ?_
  · rw [lowKey_eq, lowKey_eq]
    simp [PySem.W.alike, PySem.W.alikeAll]
  · have hd : (lowKey (fk b.2)).depth = 1 := by rw [lowKey_eq]; simp [PyData.depth, PyData.depthAll]
    have := hr.units
    show X.A.units + 2 + (lowKey (fk b.2)).depth < cLine
    omega
  · obtain ⟨rfl, _, h2⟩ := hR
    exact low_pure lk hcd hk hco hgen hnm (hb _) hr.depth (I.kIn.keeps kp) (I.ok.mod.nolimit.keeps fun b o e => kp b o (I.bk b o e)) (h2.keep kp)
  · have le : (fun b : Value × β => lowKey (fk b.2)) = fun b => .tuple [.int (kA (fk b.2)), .int (kB (fk b.2))] := by funext b; rw [lowKey_eq]
    rw [le, PySem.W.dataLe_ii] at eo
    have tl : ∀ b b' : Value × β, (decide (kA (fk b.2) < kA (fk b'.2) ∨ (kA (fk b.2) = kA (fk b'.2) ∧ kB (fk b.2) ≤ kB (fk b'.2))) || decide (kA (fk b'.2) < kA (fk b.2) ∨ (kA (fk b'.2) = kA (fk b.2) ∧ kB (fk b'.2) ≤ kB (fk b.2)))) = true := by
      intro b b'
      rw [Bool.or_eq_true, decide_eq_true_eq, decide_eq_true_eq]
      omega
    have tr : ∀ b b' b'' : Value × β, decide (kA (fk b.2) < kA (fk b'.2) ∨ (kA (fk b.2) = kA (fk b'.2) ∧ kB (fk b.2) ≤ kB (fk b'.2))) = true → decide (kA (fk b'.2) < kA (fk b''.2) ∨ (kA (fk b'.2) = kA (fk b''.2) ∧ kB (fk b'.2) ≤ kB (fk b''.2))) = true → decide (kA (fk b.2) < kA (fk b''.2) ∨ (kA (fk b.2) = kA (fk b''.2) ∧ kB (fk b.2) ≤ kB (fk b''.2))) = true := by
      intro b b' b''
      rw [decide_eq_true_eq, decide_eq_true_eq, decide_eq_true_eq]
      omega
    have hp := List.mergeSort_perm ts (fun p q => decide (kA (fk p.2) < kA (fk q.2) ∨ (kA (fk p.2) = kA (fk q.2) ∧ kB (fk p.2) ≤ kB (fk q.2))))
    have hw := List.pairwise_mergeSort (le := fun p q : Value × β => decide (kA (fk p.2) < kA (fk q.2) ∨ (kA (fk p.2) = kA (fk q.2) ∧ kB (fk p.2) ≤ kB (fk q.2)))) tr tl ts
    generalize (ts.mergeSort fun p q => decide (kA (fk p.2) < kA (fk q.2) ∨ (kA (fk p.2) = kA (fk q.2) ∧ kB (fk p.2) ≤ kB (fk q.2)))) = ts' at eo hp hw
    have eu := eachIs_eq eo
    subst eu
    have hv : ∀ l : List (Value × β), (∀ t ∈ l, RelV (fv t.2) t.1) → Vals ((l.map (·.2)).map fv) (l.map (·.1)) := by
      intro l
      induction l with
      | nil => intro _; exact .nil
      | cons b l ih => intro h; exact .cons (h b List.mem_cons_self) (ih fun x hx => h x (List.mem_cons_of_mem _ hx))
    have hl2 : ((ts'.map (·.2)).map fv).length ≤ sizeLine := by rw [List.length_map, List.length_map, hp.length_eq]; exact hz'
    have hw' : (ts'.map (·.2)).Pairwise (fun x y => kLe (fk x) (fk y)) := by
      refine List.pairwise_map.mpr (hw.imp ?_)
      intro x y h
      rw [decide_eq_true_eq] at h
      exact h
    exact ⟨.ref _, upd H (s.heap.objs.size + 1) (.lst ((ts'.map (·.2)).map fv)), I.laid (t' := tk) kp (Nat.le_succ _) ⟨hl2, _, c, hv ts' fun t ht => hts t (hp.mem_iff.mp ht), hD⟩, rfl, q _ _ (hp.map _) hw' (I.hok.fresh (Nat.le_succ _))⟩
end
/-- the pair's first item -/
def fst? (d : D) : Option Int := match d with | .tup (.int i :: _) => some i | _ => none
def isPr (d : D) : Prop := ∃ x r, d = .tup (x :: r) ∧ (x = .non ∨ ∃ i, x = .int i)
def wSortLow (w : WE) : WA := fun env q => w env fun d => match d with | .lst ds => (∀ z ∈ ds, isPr z) ∧ ∀ ds' : List D, ds'.Perm ds → ds'.Pairwise (fun x y => kLe (fst? x) (fst? y)) → q ds' | _ => False
theorem RL.zip {K : PySem.W.Frag} {G : Hp} : ∀ {ds : List D} {vs : List V}, RL K G ds vs → ∃ bs : List (V × D), vs = bs.map (·.1) ∧ ds = bs.map (·.2) ∧ ∀ b ∈ bs, R K G b.2 b.1
  | [], vs, h => ⟨[], h.nilE, rfl, fun b hb => absurd hb List.not_mem_nil⟩
  | d :: ds, vs, h => by
    obtain ⟨v, r, rfl, h1, h2⟩ := h.consE
    obtain ⟨bs, e1, e2, e3⟩ := RL.zip h2
    refine ⟨(v, d) :: bs, by rw [e1]; rfl, by rw [e2]; rfl, fun b hb => ?_⟩
    rcases List.mem_cons.mp hb with rfl | hb
    · exact h1
    · exact e3 b hb
theorem RL.unzip {K : PySem.W.Frag} {G : Hp} : ∀ bs : List (V × D), (∀ b ∈ bs, R K G b.2 b.1) → RL K G (bs.map (·.2)) (bs.map (·.1))
  | [], _ => .nil
  | b :: bs, h => .cons (h b List.mem_cons_self) (RL.unzip bs fun x hx => h x (List.mem_cons_of_mem _ hx))
section
variable {X : Cx} {e : Expr} {t : TE} {w : WE} {pos p p0 pk : Pos} {fx : Str} {f : Addr}
theorem dn_sortLow (hc : CallRK X (.builtin "sorted") [Str.ofString "key"] (rSortLow X.K f)) (hg : Gl X "sorted") (hm : X.mg "sorted" = none) (hgf : Gl X fx) (hmf : X.mg fx = some (.ref f)) (hdf : (fx == ("__debug__" : Str)) = false) (ha : DE X e t w)
    (he : backTo pos (starEach [e] X.env) = (false, eval e X.env) :: backTo pos (starEach [] X.env) := by rfl) (hpl : (backTo pos (starEach [e] X.env)).any (·.1) = false := by rfl) (hs : starEach [e] X.env = (false, eval e X.env) :: starEach [] X.env := by rfl)
    (hall : (backToKw pos (keywordEach [⟨some (Str.ofString "key"), .Name fx p0, pk⟩] X.env)).all (·.1.isSome) = true := by rfl) (hnone : (backToKw pos (keywordEach [⟨some (Str.ofString "key"), .Name fx p0, pk⟩] X.env)).any (·.1.isNone) = false := by rfl) (hks : (backToKw pos (keywordEach [⟨some (Str.ofString "key"), .Name fx p0, pk⟩] X.env)).filterMap (·.1) = [Str.ofString "key"] := by rfl) :
    DN X (.Call (.Name "sorted" p) [e] [⟨some (Str.ofString "key"), .Name fx p0, pk⟩] pos) (tCKw (rSortLow X.K f) (tCons t tNil) (tCons (tC (.ref f)) tNil)) (wSortLow w) :=
  ⟨pe_callBK hc hg hm (by with_unfolding_all rfl) (pa_cons ha.pe pa_nil hs) (pk_cons (pe_glob hgf hmf rfl hdf) pk_nil) (by decide) (by decide) he hpl hall hnone hks, fun c G H env σ Q q fr hw k => by
    refine ha.snd c G H env σ _ _ fr hw fun v d G1 H1 f1 s1 r1 hq => ?_
    split at hq
    · rename_i ds
      obtain ⟨hp, hq⟩ := hq
      obtain ⟨a, vs, rfl, h1, h2⟩ := r1.lstE
      obtain ⟨bs, rfl, rfl, hb⟩ := h2.zip
      refine ⟨a, V × D, bs, (·.1), fun b => fst? b.2, rfl, rfl, SqL.of (f1.gh _ _ h1), fun b hm => ?_, fun bs' p hpm hpw hn => ?_⟩
      · obtain ⟨x, r, e1, e2⟩ := hp b.2 (List.mem_map_of_mem hm)
        have rb := hb b hm
        rw [e1] at rb
        obtain ⟨t, us, e3, h3, h4⟩ := rb.tupE
        obtain ⟨u, us', rfl, h5, h6⟩ := h4.consE
        refine ⟨t, u, us', e3, sqt_same f1.gh h3, ?_⟩
        show match fst? b.2 with | none => u = V.non | some i => u = V.int i
        rw [e1]
        rcases e2 with rfl | ⟨i, rfl⟩
        · exact h5
        · exact h5
      · have g := f1.newH (o := .lst (bs'.map (·.1))) hn
        exact k p _ (bs'.map (·.2)) G1 _ (f1.step g) (s1.trans g) upd_same (RL.unzip bs' fun b hm => hb b (hpm.mem_iff.mp hm)) (f1.gnone hn) (f1.h0none hn) (s1.fresh hn) (f1.noOwn hn) (hq _ (hpm.map _) (List.pairwise_map.mpr hpw))
    · exact hq.elim⟩
end
end Y

namespace Y
open PySem L2
section
variable {X : Cx} {K : PySem.W.Frag} {e a b : Expr} {es tes : List Expr} {t ta tb : TE} {w wa wb : WE} {tA : TA} {wA wN0 : WA} {pos p : Pos}
def wNeg (w : WE) : WE := fun env q => w env fun d => match d with | .int i => q (.int (-i)) | _ => False
theorem de_neg (ha : DE X a ta wa) : DE X (.UnaryOp .USub a pos) (tUn (rU fun i => .int (-i)) ta) (wNeg wa) := ⟨pe_un un_neg ha.pe, fun c G H env σ Q q f hw k => ha.snd c G H env σ _ _ f hw fun v d G' H' f' s r hq => by
  cases d with
  | int i => exact ⟨i, r, k _ _ G' H' f' s R.int_ hq⟩
  | _ => exact hq.elim⟩
/-! ### == and != , truth values too -/
def wEqU : WO := fun d e q => match d, e with | .bl i, .bl j => q (.bl (i == j)) | _, _ => wEq d e q
def wNeU : WO := fun d e q => match d, e with | .bl i, .bl j => q (.bl (i != j)) | _, _ => wNe d e q
theorem so_eqU : SndO K (rEqD K) wEqU := fun c G H env σ x y d e Q q f hx hy hw k => by
  unfold wEqU at hw
  split at hw
  · rename_i i j
    refine ⟨.bool i, .bool j, by rw [hx.bl]; exact .bl i, by rw [hy.bl]; exact .bl j, by cases i <;> decide, by cases j <;> decide, ?_⟩
    have e : PyData.eqv (.bool i) (.bool j) = (i == j) := by cases i <;> cases j <;> decide
    rw [e]
    exact k _ _ G H f (Gr.refl f) R.bl_ hw
  · exact so_eq c G H env σ x y d e Q q f hx hy hw k
theorem so_neU : SndO K (rNeD K) wNeU := fun c G H env σ x y d e Q q f hx hy hw k => by
  unfold wNeU at hw
  split at hw
  · rename_i i j
    refine ⟨.bool i, .bool j, by rw [hx.bl]; exact .bl i, by rw [hy.bl]; exact .bl j, by cases i <;> decide, by cases j <;> decide, ?_⟩
    have e : PyData.eqv (.bool i) (.bool j) = (i == j) := by cases i <;> cases j <;> decide
    rw [e]
    exact k _ _ G H f (Gr.refl f) R.bl_ hw
  · exact so_ne c G H env σ x y d e Q q f hx hy hw k
/-! ### x, y, .. = [..], e, .. : the first is a new list of ours -/
theorem ds_ownTup {i n k1 k2 : Nat} {x : Str} {px p1 p2 : Pos} {gs : TGs} {ws : WGs} {ss : List Nat} (hc : X.calm = true) (hN : X.N.Nodup) (hi : X.N[i]? = some x) (hx : Loc X.env.scope x) (hh : DN X e t wN0) (ha : DA X es tA wA) (hg : DGs X tes gs ws ss)
    (hes : starEach (e :: es) X.env = (false, eval e X.env) :: starEach es X.env := by rfl) (hf : X.fn x = true ∨ X.env.scope.names.lookup x = some .local := by first | exact .inl rfl | exact .inr rfl | assumption)
    (hpg : (assignEach (.Name x px :: tes) X.env).map (·.2) = assign (.Name x px) X.env :: (assignEach tes X.env).map (·.2) := by rfl) (hn : (assignEach (.Name x px :: tes) X.env).length = n := by rfl) (hst : (assignEach (.Name x px :: tes) X.env).findIdx? (·.1) = none := by rfl)
    (hs : swapsWithSole [.Tuple (.Name x px :: tes) k1 p1] (.Tuple (e :: es) k2 p2) pos.line X.env = pure false := by rfl) (hw : swappedStores [.Tuple (.Name x px :: tes) k1 p1] (.Tuple (e :: es) k2 p2) X.env = pure none := by rfl)
    (h1 : (assignEach [.Tuple (.Name x px :: tes) k1 p1] X.env).map (·.2) = [assign (.Tuple (.Name x px :: tes) k1 p1) X.env] := by rfl) :
    DS X (.Assign [.Tuple (.Name x px :: tes) k1 p1] (.Tuple (e :: es) k2 p2) pos) (tAsg (tTup (tCons t tA)) (gTup X.K n (gCons (gName i) gs)))
      (fun env E => wN0 env fun ds => wA env fun us => (us.length + 1 ≤ sizeLine ∧ us.length + 1 = n) ∧ ws us (env.set i (.ol ds)) E.nx) :=
  ⟨ps_asg (pe_tup (pa_cons hh.pe ha.pa hes)) (pg_tup hc (pgs_cons (pg_name hN hi hx hf) hg.pg hpg) hn hst) hs hw h1, fun c G H env σ D E f hw L => by
    refine hh.snd c G H env σ _ _ f hw fun o vs ds G1 H1 f1 g1 e1 e2 e3 e4 e5 no hq => ?_
    refine ha.snd c G1 H1 env σ _ _ f1 hq fun us zs G2 H2 f2 g2 r2 hq2 => ?_
    obtain ⟨⟨hl, hl2⟩, hq2⟩ := hq2
    have hu := r2.length
    refine ⟨by show (us.length + 1) ≤ _; omega, fun T hT => ?_⟩
    have eo : H2 o = some (.lst vs) := g2.hh _ _ e1 (f.own_ne e4)
    have g3 := f2.newH (o := .tup (.ref o :: us)) hT
    have f3 := f2.step g3
    have eo3 : (upd H2 T (.tup (.ref o :: us))) o = some (.lst vs) := by rw [upd_ne (ne_of_none eo hT)]; exact eo
    have no2 : NoOwn env σ o := no
    refine ⟨T, .ref o :: us, rfl, SqT.of upd_same, by show us.length + 1 = n; omega, .ref o, us, rfl, ?_⟩
    have f4 := f3.setOl i eo3 (RL.mono g2.gg _ _ e2) (g2.old _ _ e1 e3) e4 no2
    exact hg.snd c _ _ _ _ us zs _ _ f4 r2 hq2 fun env' σ' G' H' f' g' _ hq' => L.nx G' H' env' σ' f' hq'⟩
end
/-! ### a pass that takes some items -/
theorem lc_fm {wg : WG} {wt : WT} {we : WE} {vs : List Nat} {env : List Sl} {q : List D → Prop} {ds : List D} (p : D → Bool) (z : D → D) (hl : ds.length ≤ sizeLine)
    (step : ∀ (d : D) (acc : List D) (R : List D → Prop), d ∈ ds → acc.length < sizeLine → R (acc ++ if p d then [z d] else []) →
      wg d (wipeE env vs) fun env2 => wt env2 fun b => match b with | true => we env2 fun y => acc.length < sizeLine ∧ R (acc ++ [y]) | false => R acc)
    (hq : q ((ds.filter p).map z)) :
    ∃ I : Nat → List D → Prop, I 0 [] ∧
  (∀ k d acc, ds[k]? = some d → I k acc → wg d (wipeE env vs) fun env2 => wt env2 fun b => match b with | true => we env2 fun y => acc.length < sizeLine ∧ I (k + 1) (acc ++ [y]) | false => I (k + 1) acc) ∧
  ∀ acc, I ds.length acc → q acc := by
  refine ⟨fun k acc => acc = ((ds.take k).filter p).map z, rfl, fun k d acc hd ha => ?_, fun acc ha => ?_⟩
  · have hk : k < ds.length := (List.getElem?_eq_some_iff.mp hd).1
    refine step d acc (fun acc' => acc' = ((ds.take (k + 1)).filter p).map z) (List.mem_of_getElem? hd) ?_ ?_
    · rw [ha, List.length_map]
      have h1 : ((ds.take k).filter p).length ≤ (ds.take k).length := List.length_filter_le ..
      rw [List.length_take] at h1
      omega
    · rw [ha, List.take_succ, hd]
      simp only [Option.toList_some, List.filter_append, List.map_append, List.append_cancel_left_eq]
      cases hp : p d <;> simp [hp]
  · rw [ha, List.take_length]; exact hq
theorem lc_m {wg : WG} {we : WE} {vs : List Nat} {env : List Sl} {q : List D → Prop} {ds : List D} (z : D → D) (hl : ds.length ≤ sizeLine)
    (step : ∀ (d : D) (acc : List D) (R : List D → Prop), d ∈ ds → acc.length < sizeLine → R (acc ++ [z d]) → wg d (wipeE env vs) fun env2 => we env2 fun y => acc.length < sizeLine ∧ R (acc ++ [y]))
    (hq : q (ds.map z)) :
    ∃ I : Nat → List D → Prop, I 0 [] ∧
  (∀ k d acc, ds[k]? = some d → I k acc → wg d (wipeE env vs) fun env2 => wYes env2 fun b => match b with | true => we env2 fun y => acc.length < sizeLine ∧ I (k + 1) (acc ++ [y]) | false => I (k + 1) acc) ∧
  ∀ acc, I ds.length acc → q acc :=
  lc_fm (wt := wYes) (fun _ => true) z hl (fun d acc R hm ha hR => step d acc R hm ha hR) (by rw [List.filter_eq_self.mpr fun _ _ => rfl]; exact hq)
/-! ### the law's own start: the draw -/
theorem fr_law {K : PySem.W.Frag} {H : Hp} {s dr : Addr} {ns : List Int} {n : Nat} (hs : SqL K H s (ns.map V.int)) (hdr : H dr = none) :
    Fr K ⟨H, upd H dr (.lst [.ref s, .int 0]), some dr⟩ H (upd H dr (.lst [.ref s, .int 0])) (.no :: .dr :: List.replicate n .no) (some (.ref s) :: some (.ref dr) :: List.replicate n none) := by
  have sm : Same H (upd H dr (.lst [.ref s, .int 0])) := fun b u e => by rw [upd_ne (ne_of_none e hdr)]; exact e
  refine ⟨fun a o h _ => h, Same.refl H, sm, fun _ _ _ h => h, fun a e => (by cases e; exact ⟨_, upd_same⟩), fun a e => (by cases e; exact ⟨hdr, s, 0, ns, upd_same, hs⟩), by rw [List.length_cons, List.length_cons, List.length_cons, List.length_cons, List.length_replicate, List.length_replicate], fun i sl o h1 h2 => ?_, fun i j a si sj oi oj h1 h2 h3 h4 h5 h6 => ?_⟩
  · match i with
    | 0 => cases h1; trivial
    | 1 => cases h1; cases h2; exact ⟨dr, rfl, rfl⟩
    | i + 2 =>
      rw [List.getElem?_cons_succ, List.getElem?_cons_succ, List.getElem?_replicate] at h1
      split at h1
      · cases h1; trivial
      · cases h1
  · have no : ∀ (i : Nat) (si : Sl) (oi : Option V), (Sl.no :: Sl.dr :: List.replicate n Sl.no)[i]? = some si → ownAt si oi ≠ some a := by
      intro i si oi h z
      match i with
      | 0 => cases h; cases z
      | 1 => cases h; cases z
      | i + 2 =>
        rw [List.getElem?_cons_succ, List.getElem?_cons_succ, List.getElem?_replicate] at h
        split at h
        · cases h; cases z
        · cases h
    exact absurd h5 (no i si oi h1)

/-! ### defs in bundles -/
structure Df (P : Program) (w : World) (K : PySem.W.Frag) (mg : Str → Option Value) (base : Heap) (k : Nat) (x : Str) (ps : List Str) (W : List D → (D → Prop) → Prop) : Prop where
  ex : ∃ f fd, FnOk P w K mg base CX0 k f fd ps (spD K W) ∧ mg x = some (.ref f) ∧ PySem.W.keepIn K (.ref f) = true ∧ Binds K fd ps []
structure Dr (P : Program) (w : World) (K : PySem.W.Frag) (mg : Str → Option Value) (base : Heap) (k : Nat) (x : Str) (ps : List Str) (W : List D → (D → Prop) → Prop) : Prop where
  ex : ∃ f fd, FnOk P w K mg base CX0 k f fd ps (spR K W) ∧ mg x = some (.ref f) ∧ PySem.W.keepIn K (.ref f) = true ∧ Binds K fd ps []
structure Here (K : PySem.W.Frag) (mg : Str → Option Value) (x : Str) (ps : List Str) (st : Stmt) : Prop where
  ex : ∃ f fd, Fun K x x st f fd ∧ mg x = some (.ref f) ∧ Binds K fd ps []
section
variable {X : Cx} {e : Expr} {es : List Expr} {tA : TA} {wA : WA} {pos p p2 : Pos} {x y : Str} {k : Nat} {ps : List Str} {W : List D → (D → Prop) → Prop}
theorem de_cl (F : Df X.prog X.w X.K X.mg X.base k x ps W) (hr : Room k X.A) (hg : Gl X x) (ha : DA X (e :: es) tA wA) (hdb : (x == ("__debug__" : Str)) = false := by decide) (he : starEach (e :: es) X.env = (false, eval e X.env) :: starEach es X.env := by rfl) (hpl : (backTo pos (starEach es X.env)).any (·.1) = false := by rfl) :
    DE X (.Call (.Name x p) (e :: es) [] pos) (tCall (spD X.K W) [] E0 tA) (wCall W wA) := by
  obtain ⟨f, fd, F, hm, hk, hb⟩ := F.ex
  exact de_call F hr hg hm hk hb ha hdb he hpl
theorem de_clR (i : Nat) (F : Dr X.prog X.w X.K X.mg X.base k x ps W) (hr : Room k X.A) (hg : Gl X x) (hv : PE X (.Name y p2) (tVar i)) (ha : DA X es tA wA) (hdb : (x == ("__debug__" : Str)) = false := by decide) (he : starEach (.Name y p2 :: es) X.env = (false, eval (.Name y p2) X.env) :: starEach es X.env := by rfl) (hpl : (backTo pos (starEach es X.env)).any (·.1) = false := by rfl) :
    DE X (.Call (.Name x p) (.Name y p2 :: es) [] pos) (tCall (spR X.K W) [] E0 (tCons (tVar i) tA)) (wCallR W i wA) := by
  obtain ⟨f, fd, F, hm, hk, hb⟩ := F.ex
  exact de_callR i F hr hg hm hk hb hv ha hdb he hpl
end
section
variable {P : Program} {w : World} {K : PySem.W.Frag} {mg : Str → Option Value} {base : Heap}
theorem df_of {x : Str} {st : Stmt} {N ps : List Str} {k : Nat} {W : List D → (D → Prop) → Prop} (h0 : Here K mg x ps st) (S : FnScope N ps (defScope st)) (hW : ∀ ds q, W ds q → ds.length = ps.length)
    (h : ∀ (f : Addr) (cdv : Value) (A : Around) (outer : List Env) (s : Shared) (H : Hp) (E : XK), Room k (A.deeper (PyProof.Rows.envOfC x (defScope st) s.heap.objs.size f cdv)) →
      ∃ t wS, DSs (cxOf CX0 P w K mg base N x (defScope st) f cdv A outer s H E).nox (defBody st) t wS ∧ ∀ ds q, W ds q → wS (env0 N.length ds) { nx := fun _ => q .non, rt := q }) : Df P w K mg base (k + 1) x ps W := by
  obtain ⟨f, fd, F, hm, hb⟩ := h0.ex
  exact ⟨f, fd, fn_d F S hW (h f), hm, F.kp, hb⟩
theorem dr_of {x : Str} {st : Stmt} {N ps : List Str} {k : Nat} {W : List D → (D → Prop) → Prop} (h0 : Here K mg x ps st) (S : FnScope N ps (defScope st)) (hW : ∀ ds q, W ds q → ds.length + 1 = ps.length)
    (h : ∀ (f : Addr) (cdv : Value) (A : Around) (outer : List Env) (s : Shared) (H : Hp) (E : XK), Room k (A.deeper (PyProof.Rows.envOfC x (defScope st) s.heap.objs.size f cdv)) →
      ∃ t wS, DSs (cxOf CX0 P w K mg base N x (defScope st) f cdv A outer s H E).nox (defBody st) t wS ∧ ∀ ds q, W ds q → wS (envR N.length ds) { nx := fun _ => q .non, rt := q }) : Dr P w K mg base (k + 1) x ps W := by
  obtain ⟨f, fd, F, hm, hb⟩ := h0.ex
  exact ⟨f, fd, fn_r F S hW (h f), hm, F.kp, hb⟩
end
/-- what a draw gives: any number there is -/
def wTake : List D → (D → Prop) → Prop := fun ds q => ∃ m : Int, ds = [.int m] ∧ 0 < m ∧ ∀ v : Int, 0 ≤ v → v < m → q (.int v)

/-! ### a list of ours is frozen ahead of a statement -/
def wFrz (i : Nat) (w : WS) : WS := fun env E => match env[i]? with | some (.ol ds) => w (env.set i (.d (.lst ds))) E | some (.d d) => w env E | _ => False
theorem ds_frz {X : Cx} {st : Stmt} {t : TS} {w : WS} (i : Nat) (h : DS X st t w) : DS X st t (wFrz i w) := ⟨h.ps, fun c G H env σ D E f hw L => by
  unfold wFrz at hw
  split at hw
  · rename_i ds e
    obtain ⟨a, vs, e1, h1, h2, sm, f'⟩ := f.freeze e
    exact h.snd c _ H _ σ D E f' hw L
  · exact h.snd c G H env σ D E f hw L
  · exact hw.elim⟩

/-- x, y, z = [..], e, e2, plain locals: the first is a list of ours -/
theorem ds_ownPar3 {X : Cx} {a b c3 : Expr} {t : TE} {tA : TA} {wn wA : WA} {i j l : Nat} {x y z : Str} {px py pz pt pos : Pos} {kt k2 pt2} (hc : X.calm = true) (hN : X.N.Nodup) (hi : X.N[i]? = some x) (hj : X.N[j]? = some y) (hl : X.N[l]? = some z) (hij : i ≠ j) (hil : i ≠ l) (hjl : j ≠ l)
    (hx : X.env.scope.names.lookup x = some .local) (hy : X.env.scope.names.lookup y = some .local) (hz : X.env.scope.names.lookup z = some .local) (hh : DN X a t wn) (ha : DA X [b, c3] tA wA)
    (hw : swappedStores [.Tuple [.Name x px, .Name y py, .Name z pz] kt pt] (.Tuple [a, b, c3] k2 pt2) X.env = pure (some [x, y, z]))
    (hes : starEach [a, b, c3] X.env = (false, eval a X.env) :: starEach [b, c3] X.env := by rfl)
    (hs : swapsWithSole [.Tuple [.Name x px, .Name y py, .Name z pz] kt pt] (.Tuple [a, b, c3] k2 pt2) pos.line X.env = pure false := by rfl) :
    DS X (.Assign [.Tuple [.Name x px, .Name y py, .Name z pz] kt pt] (.Tuple [a, b, c3] k2 pt2) pos) (tPar3 i j l (tCons t tA)) (fun env E => wn env fun ds => wA env fun us => match us with | [d, e] => E.nx (((env.set i (.ol ds)).set j (.d d)).set l (.d e)) | _ => False) :=
  ⟨ps_par3 hc hN hi hj hl hij hil hjl hx hy hz (pa_cons hh.pe ha.pa hes) hw hs, fun c G H env σ D E f hw L => by
    refine hh.snd c G H env σ _ _ f hw fun o vs ds G1 H1 f1 g1 e1 e2 e3 e4 e5 no hq => ?_
    refine ha.snd c G1 H1 env σ _ _ f1 hq fun us zs G2 H2 f2 g2 r2 hq2 => ?_
    split at hq2
    · obtain ⟨v, us, rfl, r3, r4⟩ := r2.consE
      obtain ⟨u, us2, rfl, r5, r6⟩ := r4.consE
      rw [r6.nilE]
      have eo : H2 o = some (.lst vs) := g2.hh _ _ e1 (f.own_ne e4)
      have f4 := f2.setOl i eo (RL.mono g2.gg _ _ e2) (g2.old _ _ e1 e3) e4 no
      exact ⟨.ref o, v, u, rfl, L.nx _ H2 _ _ ((f4.setD j r3).setD l r5) hq2⟩
    · exact hq2.elim⟩
end Y

namespace Y
open PySem L2
/-! the same rules, K named: for the inside of a comprehension -/
section
variable {X : Cx} {K : PySem.W.Frag} {e a b : Expr} {es : List Expr} {t ta tb : TE} {w wa wb : WE} {tA : TA} {wA : WA} {pos p p2 : Pos} {x y : Str}
theorem call_lenK (hK : X.K = K := by rfl) : CallR X (.builtin "len") (fun xs H Q => ∃ x n, xs = [x] ∧ LenV K x H n ∧ Q (.int n) H) := by subst hK; exact call_len
theorem call_tupleK (hK : X.K = K := by rfl) : CallR X (.type "tuple") (fun xs H Q => ∃ p ys, xs = [.ref p] ∧ ((SqL K H p ys ∧ ∀ l, H l = none → Q (.ref l) (upd H l (.tup ys))) ∨ (SqT K H p ys ∧ Q (.ref p) H))) := by subst hK; exact call_tuple_of
theorem cr_sumK (hc : X.calm = true) (hK : X.K = K := by rfl) : CallR X (.builtin "sum") (rSum K) := by subst hK; exact cr_sum hc
theorem cr_maxK (hc : X.calm = true) (hK : X.K = K := by rfl) : CallR X (.builtin "max") (rMax K) := by subst hK; exact cr_max hc
theorem cr_minK1 (hc : X.calm = true) (hK : X.K = K := by rfl) : CallR X (.builtin "min") (rMin K) := by subst hK; exact cr_min hc
theorem cr_anyK (hc : X.calm = true) (hK : X.K = K := by rfl) : CallR X (.builtin "any") (rAny K) := by subst hK; exact cr_any hc
theorem cr_allK (hc : X.calm = true) (hK : X.K = K := by rfl) : CallR X (.builtin "all") (rAll K) := by subst hK; exact cr_all hc
theorem op_addUK (hK : X.K = K := by rfl) : OpR X (binaryOp .Add) (rAddU K) := by subst hK; exact op_addU
theorem op_eqDK (hu : X.A.units + 64 < cLine) (hK : X.K = K := by rfl) : OpR X (compareOp .Eq) (rEqD K) := by subst hK; exact op_eqD hu
theorem op_neDK (hu : X.A.units + 64 < cLine) (hK : X.K = K := by rfl) : OpR X (compareOp .NotEq) (rNeD K) := by subst hK; exact op_neD hu
theorem op_inK (hK : X.K = K := by rfl) : OpR X (compareOp .In) (rIn K false) := by subst hK; exact op_in_seq
theorem op_notInK (hK : X.K = K := by rfl) : OpR X (compareOp .NotIn) (rIn K true) := by subst hK; exact op_notIn_seq
theorem de_ixK (ha : DB X a ta wa) (hb : DB X b tb wb) (hs : PlainIx b) (hK : X.K = K := by rfl) : DE X (.Subscript a b pos) (tOp (rIx K) ta tb) (wOp2 wIx wa wb) := by subst hK; exact de_ix ha hb hs
theorem de_sliceK {lo hi : Option Expr} {tl th : TO} {w1 w2 : WP} (ha : DB X a ta wa) (hl : DO X lo tl w1) (hh : DO X hi th w2) (hK : X.K = K := by rfl) : DE X (.Subscript a (.Slice lo hi none p2) pos) (tSl (rSlU K) ta tl th) (wSl wa w1 w2) := by subst hK; exact de_slice ha hl hh
theorem dg_tupK {k : Nat} {gs : TGs} {ws : WGs} {ss : List Nat} {n : Nat} (hc : X.calm = true) (h : DGs X es gs ws ss) (hn : (assignEach es X.env).length = n := by rfl) (hst : (assignEach es X.env).findIdx? (·.1) = none := by rfl) (hK : X.K = K := by rfl) :
    DG X (.Tuple es k pos) (gTup K n gs) (wgTup n ws) ss := by subst hK; exact dg_tup hc h hn hst
theorem de_clK {k : Nat} {ps : List Str} {W : List D → (D → Prop) → Prop} (F : Df X.prog X.w K X.mg X.base k x ps W) (hr : Room k X.A) (hg : Gl X x) (ha : DA X (e :: es) tA wA) (hK : X.K = K := by rfl) (hdb : (x == ("__debug__" : Str)) = false := by decide) (he : starEach (e :: es) X.env = (false, eval e X.env) :: starEach es X.env := by rfl) (hpl : (backTo pos (starEach es X.env)).any (·.1) = false := by rfl) :
    DE X (.Call (.Name x p) (e :: es) [] pos) (tCall (spD K W) [] E0 tA) (wCall W wA) := by subst hK; exact de_cl F hr hg ha hdb he hpl
theorem de_clRK (i : Nat) {k : Nat} {ps : List Str} {W : List D → (D → Prop) → Prop} (F : Dr X.prog X.w K X.mg X.base k x ps W) (hr : Room k X.A) (hg : Gl X x) (hv : PE X (.Name y p2) (tVar i)) (ha : DA X es tA wA) (hK : X.K = K := by rfl) (hdb : (x == ("__debug__" : Str)) = false := by decide) (he : starEach (.Name y p2 :: es) X.env = (false, eval (.Name y p2) X.env) :: starEach es X.env := by rfl) (hpl : (backTo pos (starEach es X.env)).any (·.1) = false := by rfl) :
    DE X (.Call (.Name x p) (.Name y p2 :: es) [] pos) (tCall (spR K W) [] E0 (tCons (tVar i) tA)) (wCallR W i wA) := by subst hK; exact de_clR i F hr hg hv ha hdb he hpl
end
end Y

namespace Y
open PySem L2
theorem g_lcm {wg : WG} {we : WE} {vs : List Nat} {env : List Sl} {ql : List D → Prop} {ds : List D} (z : D → D) (hl : ds.length ≤ sizeLine)
    (step : ∀ (d : D) (L : Prop) (R : D → Prop), d ∈ ds → L → R (z d) → wg d (wipeE env vs) fun env2 => we env2 fun y => L ∧ R y) (hq : ql (ds.map z)) : kLc wg wYes we vs env ql ds :=
  kLc_i (lc_m z hl (fun d acc R hm ha hR => step d _ (fun y => R (acc ++ [y])) hm ha hR) hq)
def kIt (we : WE) (env : List Sl) (L : Prop) (R : D → Prop) (n : Prop) (b : Bool) : Prop := match b with | true => we env fun y => L ∧ R y | false => n
theorem g_lcf {wg : WG} {wt : WT} {we : WE} {vs : List Nat} {env : List Sl} {ql : List D → Prop} {ds : List D} (p : D → Bool) (z : D → D) (hl : ds.length ≤ sizeLine)
    (step : ∀ (d : D) (L n : Prop) (R : D → Prop), d ∈ ds → L → (p d = true → R (z d)) → (p d = false → n) → wg d (wipeE env vs) fun env2 => wt env2 (kIt we env2 L R n)) (hq : ql ((ds.filter p).map z)) : kLc wg wt we vs env ql ds :=
  kLc_i (lc_fm p z hl (fun d acc R hm ha hR => step d _ _ (fun y => R (acc ++ [y])) hm ha (fun e => by rw [e] at hR; exact hR) (fun e => by rw [e] at hR; simpa using hR)) hq)
/-- a for: I holds ahead of each item -/
theorem g_for {wg : WG} {wb : WS} {env : List Sl} {E : DEnds} {ds : List D} (I : Nat → List Sl → Prop) (h0 : I 0 env) (step : ∀ i d env', ds[i]? = some d → I i env' → wg d env' fun env2 => wb env2 { nx := I (i + 1), rt := E.rt, bk := E.nx, ct := I (i + 1) })
    (fin : ∀ env', I ds.length env' → E.nx env') : kFor wg wb env E ds := kFor_i ⟨I, h0, step, fin⟩
def kWh (wb : WS) (env : List Sl) (n r : DEnds) (x : Prop) (b : Bool) : Prop := match b with | true => wb env n | false => x
theorem g_while {wc : WT} {wb : WS} {env : List Sl} {E : DEnds} (I : List Sl → Prop) (μ : List Sl → Nat) (h0 : I env)
    (step : ∀ env', I env' → wc env' fun b => match b with | true => wb env' { nx := fun e => I e ∧ μ e < μ env', rt := E.rt, bk := E.nx, ct := fun e => I e ∧ μ e < μ env' } | false => E.nx env') : wWhile wc wb env E := while_i ⟨I, μ, h0, step⟩
theorem lz0 : ([] : List D).length ≤ sizeLine := by show 0 ≤ sizeLine; decide
theorem lz1 {a : D} : [a].length ≤ sizeLine := by show 1 ≤ sizeLine; decide
theorem lz2 {a b : D} : [a, b].length ≤ sizeLine := by show 2 ≤ sizeLine; decide
theorem lz3 {a b c : D} : [a, b, c].length ≤ sizeLine := by show 3 ≤ sizeLine; decide
theorem lz5 {a b c d e : D} : [a, b, c, d, e].length ≤ sizeLine := by show 5 ≤ sizeLine; decide
abbrev oD (o : Option Int) : D := match o with | none => .non | some i => .int i
def kSeq (q : List D → Prop) (d : D) : Prop := match d with | .lst ds => q ds | .tup ds => q ds | _ => False
theorem d_ni {i : Int} (h : D.int i = .non) : False := by cases h
theorem d_nt {ds : List D} (h : D.tup ds = .non) : False := by cases h
theorem d_nl {ds : List D} (h : D.lst ds = .non) : False := by cases h
theorem d_ns {s : Str} (h : D.str s = .non) : False := by cases h
theorem lq1 {a : D} : [a].length = 1 := rfl
theorem lq2 {a b : D} : [a, b].length = 2 := rfl
theorem lq3 {a b c : D} : [a, b, c].length = 3 := rfl
theorem lq4 {a b c d : D} : [a, b, c, d].length = 4 := rfl
theorem lq5 {a b c d e : D} : [a, b, c, d, e].length = 5 := rfl
theorem g_any {q : D → Prop} {bs : List Bool} (k : q (.bl (bs.any id))) : wAny [.lst (bs.map D.bl)] q := by show match bllsOf (bs.map D.bl) with | some bs => q (.bl (bs.any id)) | none => False; rw [bllsOf_map]; exact k
theorem g_all {q : D → Prop} {bs : List Bool} (k : q (.bl (bs.all id))) : wAll [.lst (bs.map D.bl)] q := by show match bllsOf (bs.map D.bl) with | some bs => q (.bl (bs.all id)) | none => False; rw [bllsOf_map]; exact k
theorem g_sum {q : D → Prop} {ns : List Int} (k : q (.int ns.sum)) : wSum [.lst (ns.map D.int)] q := by show match intsOf (ns.map D.int) with | some bs => q (.int bs.sum) | none => False; rw [intsOf_map]; exact k
theorem g_min1 {q : D → Prop} {ns : List Int} (k0 : 0 < ns.length) (k : ∀ m, m ∈ ns → (∀ y, y ∈ ns → m ≤ y) → q (.int m)) : wMin1 [.lst (ns.map D.int)] q := by show match intsOf (ns.map D.int) with | some ns => 0 < ns.length ∧ ∀ m, m ∈ ns → (∀ y, y ∈ ns → m ≤ y) → q (.int m) | none => False; rw [intsOf_map]; exact ⟨k0, k⟩
theorem d_tc {x : D} {xs : List D} (h : D.tup (x :: xs) = .tup []) : False := by cases h
theorem d_lc {x : D} {xs : List D} (h : D.lst (x :: xs) = .lst []) : False := by cases h
theorem dr_t {env : List Sl} {i : Nat} (h : env[i]? = some .dr) : isDr env i := by unfold isDr; rw [h]; trivial
end Y

namespace S55
open PySem L2 Y
def top (i : Nat) : Stmt := PySem.Challenge.pw_streamsure_k55_whole_sets.main.body.getD i (.Pass ⟨0, 0, 0, 0⟩)
abbrev sis_whole : Stmt := top 3
abbrev slow_of : Stmt := top 4
abbrev sis_interval : Stmt := top 5
abbrev snormal : Stmt := top 6
abbrev sunion : Stmt := top 7
abbrev sothers : Stmt := top 8
abbrev smeet : Stmt := top 9
abbrev shas : Stmt := top 10
abbrev sleast : Stmt := top 11
abbrev sgreatest : Stmt := top 12
abbrev show_many : Stmt := top 13
abbrev ssome_member : Stmt := top 14
abbrev smember_but : Stmt := top 15
abbrev sBadQuery_init : Stmt := inClass (top 18) 0
abbrev sis_name : Stmt := top 24
abbrev sKinds_init : Stmt := inClass (top 25) 0
abbrev sKinds_eq : Stmt := inClass (top 25) 1
abbrev sKinds_is_event : Stmt := inClass (top 25) 2
abbrev sKinds_place : Stmt := inClass (top 25) 3
abbrev sSide_init : Stmt := inClass (top 26) 0
abbrev sSide_told : Stmt := inClass (top 26) 1
abbrev sSide_is_empty : Stmt := inClass (top 26) 2
abbrev sSide_lets : Stmt := inClass (top 26) 3
abbrev sSide_places : Stmt := inClass (top 26) 4
abbrev sSide_set_at : Stmt := inClass (top 26) 5
abbrev sSide_keys_many : Stmt := inClass (top 26) 6
abbrev sSide_lets_key : Stmt := inClass (top 26) 7
abbrev scheck_keys : Stmt := top 27
abbrev scheck_number : Stmt := top 28
abbrev scheck_worths : Stmt := top 29
abbrev sEach_init : Stmt := inClass (top 30) 0
abbrev sEach_form : Stmt := inClass (top 30) 1
abbrev sEach_is_empty : Stmt := inClass (top 30) 2
abbrev sWindows_init : Stmt := inClass (top 31) 0
abbrev sWindows_form : Stmt := inClass (top 31) 1
abbrev sWindows_is_empty : Stmt := inClass (top 31) 2
abbrev sBlocks_init : Stmt := inClass (top 32) 0
abbrev sBlocks_form : Stmt := inClass (top 32) 1
abbrev sBlocks_is_empty : Stmt := inClass (top 32) 2
abbrev sSessions_init : Stmt := inClass (top 33) 0
abbrev sSessions_form : Stmt := inClass (top 33) 1
abbrev sSessions_is_empty : Stmt := inClass (top 33) 2
abbrev scheck_two : Stmt := top 34
abbrev sPairs_init : Stmt := inClass (top 35) 0
abbrev sPairs_form : Stmt := inClass (top 35) 1
abbrev sPairs_is_empty : Stmt := inClass (top 35) 2
abbrev sLonely_init : Stmt := inClass (top 36) 0
abbrev sLonely_form : Stmt := inClass (top 36) 1
abbrev sLonely_is_empty : Stmt := inClass (top 36) 2
abbrev sL_number : Stmt := top 38
abbrev sL_take : Stmt := top 39
abbrev sL_pick : Stmt := top 40
abbrev sL_set : Stmt := top 41
abbrev sL_where : Stmt := top 42
abbrev sL_worths : Stmt := top 43
abbrev sL_raw : Stmt := top 44
abbrev sL_built : Stmt := top 45
abbrev sL_query : Stmt := top 46
abbrev sL_event : Stmt := top 47
abbrev sL_letters : Stmt := top 48
abbrev sL_kind : Stmt := top 49
abbrev sL_pairs : Stmt := top 50
abbrev sL_in : Stmt := top 51
abbrev sL_is_normal : Stmt := top 52
abbrev slaw : Stmt := top 53
theorem same_new {H : Hp} {p : Addr} {o : HO} (h : H p = none) : Same H (upd H p o) := fun b u e => by rw [upd_ne (ne_of_none e h)]; exact e
structure DTxt (mg : Str → Option Value) : Prop where
  int : mg "int" = none
  len : mg "len" = none
  abs : mg "abs" = none
def spNumber (K : PySem.W.Frag) : Sp := fun vs H Q _ => ∃ (a : Addr) (ns : List Int) (i : Int), vs = [.ref a, .int i] ∧ SqL K H a (ns.map V.int) ∧ ∀ (v : Int) (H' : Hp), Same H H' → Q (.int v) H'
section
variable {P : Program} {w : World} {K : PySem.W.Frag} {mg : Str → Option Value} {base : Heap}
theorem dp_ints {K : PySem.W.Frag} {H : Hp} : ∀ ns : List Int, DpAll K H (ns.map V.int) (ns.map PyData.int)
  | [] => .nil
  | i :: r => .cons (.int i) (dp_ints r)
theorem scN : FnScope ["_law_script", "_law_index", "_law_cell", "_law_blend"] ["_law_script", "_law_index"] (defScope sL_number) := ⟨rfl, rfl, rfl, by decide +kernel, rfl, by decide +kernel, by decide +kernel⟩
theorem lay_ints : ∀ ns : List Int, PyData.canLayAll0 (ns.map PyData.int) = true
  | [] => rfl
  | i :: r => by
    show (PyData.canLay0 (.int i) && PyData.canLayAll0 (r.map PyData.int)) = true
    rw [lay_ints r]; rfl
theorem dep_ints : ∀ ns : List Int, PyData.depthAll (ns.map PyData.int) ≤ 1
  | [] => by decide
  | i :: r => by
    have h := dep_ints r
    show max (PyData.depth (.int i)) (PyData.depthAll (r.map PyData.int)) ≤ 1
    have e : PyData.depth (.int i) ≤ 1 := by first | (show 0 ≤ 1; decide) | (show 1 ≤ 1; decide)
    omega
theorem shp_ints (ns : List Int) : SeqAt.shaped (.list (ns.map PyData.int)) = true := by
  have h1 := lay_ints ns
  have h2 := dep_ints ns
  unfold SeqAt.shaped
  rw [Bool.and_eq_true]
  refine ⟨h1, decide_eq_true ?_⟩
  show PyData.depthAll (ns.map PyData.int) + 1 ≤ 64
  omega
theorem ok_number {f : Addr} {fd : FuncData} (F : Fun K "_law_number" "_law_number" sL_number f fd) (T : DTxt mg) : FnOk P w K mg base CX0 1 f fd ["_law_script", "_law_index"] (spNumber K) := by
  refine F.ok scN (fun vs H Q E h => ?_) (fun cdv A outer s H vs Q E hr h => ?_)
  · obtain ⟨a, ns, i, rfl, _⟩ := h
    rfl
  · obtain ⟨a, ns, i, rfl, hS, k⟩ := h
    refine ⟨_, pss_cons (ps_if (pt_cmpR (op_eqD hr.units) (pv 0) (pe_lst pa_nil) (nomark _)) (pss_one (ps_ret (pe_callTy call_int1 (by rfl) T.int (by decide +kernel) (pa_cons (pe_op op_mod (pe_op op_add (pe_op op_mul (pv 1) pe_int) pe_int) pe_int) pa_nil)))) pss_nil)
      (pss_cons (ps_set (i := 2) scN.nd rfl (Or.inl rfl) (pe_ix ix_list (pv 0) (pe_op op_mod (pv 1) (pe_callB call_len_seq (by rfl) T.len PySem.boot_len (pa_cons (pv 0) pa_nil))) (fun _ _ => rfl)))
      (pss_cons (ps_if (pt_cmpR op_ge (pe_callB call_abs (by rfl) T.abs (by decide +kernel) (pa_cons (pv 2) pa_nil)) (pe_op op_pow pe_int pe_int) (nomark _)) (pss_one (ps_set (i := 2) scN.nd rfl (Or.inl rfl) (pe_op op_mod (pv 2) (pe_op op_pow pe_int pe_int)))) pss_nil)
      (pss_cons (ps_set (i := 3) scN.nd rfl (Or.inl rfl) (pe_op op_mod (pe_op op_add (pe_op op_mul (pe_op op_add (pv 2) (pe_op op_mul pe_int (pv 1))) pe_int) (pe_op op_mul pe_int (pe_callB call_len_seq (by rfl) T.len PySem.boot_len (pa_cons (pv 0) pa_nil)))) pe_int))
      (pss_one (ps_ret (pe_callTy call_int1 (by rfl) T.int (by decide +kernel) (pa_cons (pe_op op_mod (pe_op op_add (pe_op op_mul (pe_op op_mod (pe_op op_mul (pv 3) pe_int) pe_int) pe_int) (pv 1)) pe_int) pa_nil))))))), ?_⟩
    refine ⟨_, rfl, Nat.zero_le _, fun p hp => ?_⟩
    have s1 : Same H (upd H p (.lst [])) := same_new hp
    refine ⟨.list (ns.map .int), .list [], .lst (s1.seq hS) (dp_ints ns), .lst (SqL.of upd_same) .nil, shp_ints ns, shp_ints [], _, rfl, ?_⟩
    cases ns with
    | nil =>
      refine iteT ?_
      refine ⟨_, rfl, _, _, rfl, rfl, .inr (by decide), _, _, rfl, rfl, _, _, rfl, rfl, (by show (0 : Int) < 2147483647; decide), .inl ⟨_, rfl, k _ _ s1⟩⟩
    | cons n0 r =>
      refine iteF ?_
      have hl : 0 < (((n0 :: r).map V.int).length : Int) := by simp only [List.map_cons, List.length_cons]; omega
      refine ⟨_, rfl, _, rfl, _, rfl, a, _, rfl, .inl (s1.seq hS), _, _, rfl, rfl, hl, ?_⟩
      have hm0 := Int.emod_nonneg i (Int.ne_of_gt hl)
      have hm1 := Int.emod_lt_of_pos i hl
      obtain ⟨j, hj⟩ : ∃ j : Nat, i % (((n0 :: r).map V.int).length : Int) = (j : Int) := ⟨_, (Int.toNat_of_nonneg hm0).symm⟩
      have hjl : j < (n0 :: r).length := by
        rw [hj, List.length_map] at hm1
        omega
      refine ⟨a, _, _, V.int ((n0 :: r)[j]), rfl, rfl, s1.seq hS, ?_, ?_⟩
      · rw [hj]
        refine atI_nat ?_
        rw [List.getElem?_map, List.getElem?_eq_getElem hjl]
        rfl
      · refine ⟨_, rfl, _, rfl, _, _, rfl, rfl, ⟨by decide, by decide, by decide⟩, _, _, rfl, rfl, _, rfl, ?_⟩
        refine ite2 (fun _ => ?_) (fun _ => ?_)
        · refine ⟨_, rfl, _, _, rfl, rfl, ⟨by decide, by decide, by decide⟩, _, _, rfl, rfl, (by show (0 : Int) < 10 ^ 18; decide), ?_⟩
          refine ⟨_, rfl, _, rfl, _, _, rfl, rfl, .inl (by decide), _, _, rfl, rfl, _, _, rfl, rfl, .inr (by decide), _, rfl, a, _, rfl, .inl (s1.seq hS), _, _, rfl, rfl, .inl (by decide), _, _, rfl, rfl, _, _, rfl, rfl, (by show (0 : Int) < 2147483647; decide), ?_⟩
          exact ⟨_, rfl, _, _, rfl, rfl, .inr (by decide), _, _, rfl, rfl, (by show (0 : Int) < 2147483629; decide), _, _, rfl, rfl, .inr (by decide), _, rfl, _, _, rfl, rfl, _, _, rfl, rfl, (by show (0 : Int) < 2147483587; decide), .inl ⟨_, rfl, k _ _ s1⟩⟩
        · refine ⟨_, rfl, _, rfl, _, _, rfl, rfl, .inl (by decide), _, _, rfl, rfl, _, _, rfl, rfl, .inr (by decide), _, rfl, a, _, rfl, .inl (s1.seq hS), _, _, rfl, rfl, .inl (by decide), _, _, rfl, rfl, _, _, rfl, rfl, (by show (0 : Int) < 2147483647; decide), ?_⟩
          exact ⟨_, rfl, _, _, rfl, rfl, .inr (by decide), _, _, rfl, rfl, (by show (0 : Int) < 2147483629; decide), _, _, rfl, rfl, .inr (by decide), _, rfl, _, _, rfl, rfl, _, _, rfl, rfl, (by show (0 : Int) < 2147483587; decide), .inl ⟨_, rfl, k _ _ s1⟩⟩

theorem get_list {X : Cx} : PGet X (rIxL X.K) := by
  intro pins s σ H x y v u Q I rx ry h
  obtain ⟨p, xs, i, z, rfl, rfl, hq, he, q⟩ := h
  cases rx
  obtain ⟨t, rfl⟩ := ry
  obtain ⟨its, r, pl, hz⟩ := I.list hq
  obtain ⟨j, h1, h2, h3, h4, h5⟩ := atI_get he
  obtain ⟨w, ew, rw'⟩ := r.get h2
  have hl := r.length
  have hn := line63
  have fin : EP X pins σ Q w s := ⟨z, H, I, rw', q⟩
  by_cases h0 : 0 ≤ i
  · have hj : i.toNat = j := by
      rw [seqIndex_of h0 h5] at h1
      exact Option.some.inj h1
    exact wpAny_getItem_list pl.isList h0 (by omega) (by rw [hj]; simpa using ew) fin
  · have hj : (i + (its.toArray.size : Int)).toNat = j := by
      rw [seqIndex_neg (by omega) h4] at h1
      rw [List.size_toArray, ← hl]
      exact Option.some.inj h1
    exact wpAny_getItem_list_neg pl.isList (by omega) (by rw [List.size_toArray] <;> omega) (by omega) (by rw [hj]; simpa using ew) fin
theorem scT : FnScope ["_law_draw", "_law_many"] ["_law_draw", "_law_many"] (defScope sL_take) := ⟨rfl, rfl, rfl, by decide +kernel, rfl, by decide +kernel, by decide +kernel⟩
theorem dr_take (h0 : Here K mg "_law_take" ["_law_draw", "_law_many"] sL_take) (hN : Here K mg "_law_number" ["_law_script", "_law_index"] sL_number) (T : DTxt mg) : Dr P w K mg base 2 "_law_take" ["_law_draw", "_law_many"] wTake := by
  obtain ⟨f, fd, F, hmT, hbT⟩ := h0.ex
  obtain ⟨fN, fdN, FN, mN, bN⟩ := hN.ex
  have GN : FnOk P w K mg base CX0 1 fN fdN ["_law_script", "_law_index"] (spNumber K) := ok_number FN T
  refine ⟨f, fd, F.ok scT (fun vs H Q E h => ?_) (fun cdv A outer s H vs Q E hr h => ?_), hmT, F.kp, hbT⟩
  · obtain ⟨G, a, us, ds, q, rfl, _, _, r, ⟨m, rfl, _⟩, _⟩ := h
    rw [List.length_cons, r.length]; rfl
  · obtain ⟨G, d, us, ds, q, rfl, sg, ⟨gn, a, n, ns, hd, hSG⟩, r, ⟨m, rfl, hm, hq⟩, fin⟩ := h
    obtain ⟨v0, us', rfl, rv, r2⟩ := r.consE
    cases r2.nilE
    cases (show v0 = V.int m from rv)
    have sG1 : ∀ o, Same G (upd H d o) := fun o b u e => by
      have nb : b ≠ d := fun z => by rw [z, gn] at e; cases e
      rw [upd_ne nb]; exact sg b u e
    refine ⟨_, pss_cons (ps_augS (pv 0) pe_int get_list pe_int ip_add set_list)
      (pss_one (ps_ret (pe_op op_mod (pe_callTy call_int1 (by rfl) T.int (by decide +kernel) (pa_cons (pe_call GN hr rfl mN FN.kp bN .nil pass0 (pa_cons (pe_ix ix_list (pv 0) pe_int (fun _ _ => rfl)) (pa_cons (pe_callTy call_int1 (by rfl) T.int (by decide +kernel) (pa_cons (pe_ix ix_list (pv 0) pe_int (fun _ _ => rfl)) pa_nil)) pa_nil))) pa_nil)) (pv 1)))), ?_⟩
    have hd1 : (upd H d (.lst [.ref a, .int (n + 1)])) d = some (.lst [.ref a, .int (n + 1)]) := upd_same
    have hS1 := (sG1 (.lst [.ref a, .int (n + 1)])).seq hSG
    refine ⟨_, rfl, d, _, 1, .int n, rfl, rfl, SqL.of hd, rfl, n, 1, rfl, rfl, d, _, 1, 1, rfl, rfl, hd, rfl, ?_⟩
    refine ⟨_, rfl, d, _, 0, .ref a, rfl, rfl, SqL.of hd1, rfl, ?_⟩
    refine ⟨_, rfl, d, _, 1, .int (n + 1), rfl, rfl, SqL.of hd1, rfl, .inl ⟨_, rfl, a, ns, _, rfl, hS1, fun v H' s' => ?_⟩⟩
    refine .inl ⟨v, rfl, _, rfl, v, m, rfl, rfl, hm, ?_⟩
    exact fin _ (.int (v % m)) G H' (fun b o hb nb => s' b o (by rw [upd_ne nb]; exact hb)) (Same.refl G) ((sG1 _).trans s') (fun _ _ _ n => n) ⟨gn, a, n + 1, ns, s' _ _ hd1, hSG⟩ R.int_ (hq _ (Int.emod_nonneg v (Int.ne_of_gt hm)) (Int.emod_lt_of_pos v hm))
end
end S55

namespace S55
open Y
/-! the plain law of sets -/
abbrev P2 := Option Int × Option Int
def loB (lo : Option Int) (n : Int) : Bool := match lo with | none => true | some l => decide (l ≤ n)
def hiB (hi : Option Int) (n : Int) : Bool := match hi with | none => true | some h => decide (n ≤ h)
def inB (p : P2) (n : Int) : Bool := loB p.1 n && hiB p.2 n
def mem (n : Int) (l : List P2) : Bool := l.any fun p => inB p n
def okP (p : P2) : Prop := ∀ l h, p.1 = some l → p.2 = some h → l ≤ h
def gap (p q : P2) : Prop := ∃ h l, p.2 = some h ∧ q.1 = some l ∧ h + 1 < l
def Norm : List P2 → Prop
  | [] => True
  | [p] => okP p
  | p :: q :: r => okP p ∧ gap p q ∧ Norm (q :: r)
theorem mem_nil (n : Int) : mem n [] = false := rfl
theorem mem_cons (n : Int) (p : P2) (r : List P2) : mem n (p :: r) = (inB p n || mem n r) := rfl
theorem mem_app (n : Int) (a b : List P2) : mem n (a ++ b) = (mem n a || mem n b) := List.any_append
theorem mem_one (n : Int) (p : P2) : mem n [p] = inB p n := by rw [mem_cons, mem_nil, Bool.or_false]
theorem Norm.ok {p : P2} {r : List P2} (h : Norm (p :: r)) : okP p := by
  cases r with
  | nil => exact h
  | cons q r => exact h.1
theorem Norm.tail {p : P2} {r : List P2} (h : Norm (p :: r)) : Norm r := by
  cases r with
  | nil => trivial
  | cons q r => exact h.2.2
theorem Norm.last {p : P2} {r : List P2} (h : Norm (p :: r)) (e : p.2 = none) : r = [] := by
  cases r with
  | nil => rfl
  | cons q r => obtain ⟨x, l, e1, _⟩ := h.2.1; rw [e] at e1; cases e1
theorem inB_lo {p : P2} {n l : Int} (h : inB p n = true) (e : p.1 = some l) : l ≤ n := by
  unfold inB loB at h; rw [e] at h
  rw [Bool.and_eq_true] at h
  exact of_decide_eq_true h.1
theorem inB_hi {p : P2} {n l : Int} (h : inB p n = true) (e : p.2 = some l) : n ≤ l := by
  unfold inB hiB at h; rw [e] at h
  rw [Bool.and_eq_true] at h
  exact of_decide_eq_true h.2
theorem inB_mk {p : P2} {n : Int} (h1 : ∀ l, p.1 = some l → l ≤ n) (h2 : ∀ l, p.2 = some l → n ≤ l) : inB p n = true := by
  obtain ⟨lo, hi⟩ := p
  unfold inB loB hiB
  cases lo <;> cases hi <;> simp <;> first | exact h1 _ rfl | exact h2 _ rfl | exact ⟨h1 _ rfl, h2 _ rfl⟩
theorem Norm.above : ∀ {r : List P2} {p : P2} {h n : Int}, Norm (p :: r) → p.2 = some h → mem n r = true → h + 1 < n
  | [], _, _, _, _, _, m => by cases m
  | q :: r, p, h, n, N, e, m => by
    obtain ⟨x, l, e1, e2, g⟩ := N.2.1
    rw [e] at e1; cases e1
    rw [mem_cons, Bool.or_eq_true] at m
    rcases m with m | m
    · have := inB_lo m e2; omega
    · cases hq : q.2 with
      | none => have := N.2.2.last hq; rw [this] at m; cases m
      | some h' =>
        have h1 := Norm.above N.2.2 hq m
        have h2 := N.2.2.ok l h' e2 hq
        omega
theorem Norm.low {r : List P2} {p : P2} {l n : Int} (N : Norm (p :: r)) (e : p.1 = some l) (m : mem n (p :: r) = true) : l ≤ n := by
  rw [mem_cons, Bool.or_eq_true] at m
  rcases m with m | m
  · exact inB_lo m e
  · cases hq : p.2 with
    | none => have := N.last hq; rw [this] at m; cases m
    | some h =>
      have h1 := N.above hq m
      have h2 := N.ok l h e hq
      omega
theorem mem_head {p : P2} {r : List P2} {n : Int} (h : inB p n = true) : mem n (p :: r) = true := by rw [mem_cons, h]; rfl
theorem Norm.low_mem {r : List P2} {p : P2} {l : Int} (N : Norm (p :: r)) (e : p.1 = some l) : mem l (p :: r) = true :=
  mem_head (inB_mk (fun l' e' => by rw [e] at e'; cases e'; exact Int.le_refl _) fun h eh => N.ok l h e eh)
theorem Norm.some_mem {r : List P2} {p : P2} (N : Norm (p :: r)) (m : Int) (e : p.1 = none) : ∃ n, n ≤ m ∧ mem n (p :: r) = true := by
  cases h : p.2 with
  | none => exact ⟨m, Int.le_refl _, mem_head (inB_mk (fun l e' => by rw [e] at e'; cases e') fun l e' => by rw [h] at e'; cases e')⟩
  | some x => exact ⟨min m x, by omega, mem_head (inB_mk (fun l e' => by rw [e] at e'; cases e') fun l e' => by rw [h] at e'; cases e'; omega)⟩
theorem Norm.wit {r : List P2} {p : P2} (N : Norm (p :: r)) : ∃ n, mem n (p :: r) = true := by
  cases h : p.1 with
  | none => obtain ⟨n, _, m⟩ := N.some_mem 0 h; exact ⟨n, m⟩
  | some l => exact ⟨l, N.low_mem h⟩
theorem Norm.next {r : List P2} {p : P2} {h : Int} (N : Norm (p :: r)) (e : p.2 = some h) : mem (h + 1) (p :: r) = false := by
  rw [mem_cons, Bool.or_eq_false_iff]
  refine ⟨Bool.eq_false_iff.mpr fun z => ?_, Bool.eq_false_iff.mpr fun z => ?_⟩
  · have := inB_hi z e; omega
  · have := N.above e z; omega
theorem lo_eq {p q : P2} {r s : List P2} (A : Norm (p :: r)) (B : Norm (q :: s)) (h : ∀ n, mem n (p :: r) = true → mem n (q :: s) = true) : ∀ l, q.1 = some l → ∃ l', p.1 = some l' ∧ l ≤ l' := by
  intro l e
  cases hp : p.1 with
  | none =>
    obtain ⟨n, hn, m⟩ := A.some_mem (l - 1) hp
    have := B.low e (h n m)
    omega
  | some l' => exact ⟨l', rfl, B.low e (h l' (A.low_mem hp))⟩
theorem hi_eq {p q : P2} {r s : List P2} (A : Norm (p :: r)) (B : Norm (q :: s)) (e0 : p.1 = q.1) (h : ∀ n, mem n (p :: r) = true → mem n (q :: s) = true) : ∀ x, q.2 = some x → ∃ y, p.2 = some y ∧ y ≤ x := by
  intro x e
  have go : (∀ y, p.2 = some y → x + 1 ≤ y) → False := fun z => by
    have m := h (x + 1) (mem_head (inB_mk (fun l el => by have := B.ok l x (e0 ▸ el) e; omega) z))
    rw [B.next e] at m; cases m
  cases hp : p.2 with
  | none => exact (go fun y ey => by rw [hp] at ey; cases ey).elim
  | some y =>
    refine ⟨y, rfl, ?_⟩
    by_cases hc : y ≤ x
    · exact hc
    · exact (go fun y' ey => by rw [hp] at ey; cases ey; omega).elim
theorem norm_uniq : ∀ (a b : List P2), Norm a → Norm b → (∀ n, mem n a = mem n b) → a = b
  | [], [], _, _, _ => rfl
  | [], q :: s, _, B, h => by obtain ⟨n, m⟩ := B.wit; rw [← h n] at m; cases m
  | p :: r, [], A, _, h => by obtain ⟨n, m⟩ := A.wit; rw [h n] at m; cases m
  | p :: r, q :: s, A, B, h => by
    have h1 : ∀ n, mem n (p :: r) = true → mem n (q :: s) = true := fun n m => h n ▸ m
    have h2 : ∀ n, mem n (q :: s) = true → mem n (p :: r) = true := fun n m => (h n).symm ▸ m
    have e1 : p.1 = q.1 := by
      have a1 := lo_eq A B h1
      have a2 := lo_eq B A h2
      cases hq : q.1 with
      | none =>
        cases hp : p.1 with
        | none => rfl
        | some l => obtain ⟨l', e, _⟩ := a2 l hp; rw [hq] at e; cases e
      | some l =>
        obtain ⟨l', e, g⟩ := a1 l hq
        obtain ⟨l2, e2, g2⟩ := a2 l' e
        rw [hq] at e2; cases e2
        rw [e]; congr 1; omega
    have e2 : p.2 = q.2 := by
      have a1 := hi_eq A B e1 h1
      have a2 := hi_eq B A e1.symm h2
      cases hq : q.2 with
      | none =>
        cases hp : p.2 with
        | none => rfl
        | some l => obtain ⟨l', e, _⟩ := a2 l hp; rw [hq] at e; cases e
      | some l =>
        obtain ⟨l', e, g⟩ := a1 l hq
        obtain ⟨l2, e2, g2⟩ := a2 l' e
        rw [hq] at e2; cases e2
        rw [e]; congr 1; omega
    have ep : p = q := Prod.ext e1 e2
    subst ep
    cases hp : p.2 with
    | none => rw [A.last hp, B.last hp]
    | some x =>
      congr 1
      refine norm_uniq r s A.tail B.tail fun n => ?_
      have hn := h n
      rw [mem_cons, mem_cons] at hn
      cases hr : mem n r with
      | true =>
        have g := A.above hp hr
        have hf : inB p n = false := Bool.eq_false_iff.mpr fun z => by have := inB_hi z hp; omega
        rw [hf, hr] at hn
        simpa using hn
      | false =>
        cases hs : mem n s with
        | false => rfl
        | true =>
          have g := B.above hp hs
          have hf : inB p n = false := Bool.eq_false_iff.mpr fun z => by have := inB_hi z hp; omega
          rw [hf, hr, hs] at hn
          simp at hn
/-! ### normal's loop -/
theorem norm_set : ∀ (a : List P2) {q q' : P2}, Norm (a ++ [q]) → okP q' → q'.1 = q.1 → Norm (a ++ [q'])
  | [], _, _, _, o, _ => o
  | [p], q, q', N, o, e => ⟨N.1, (by obtain ⟨h, l, e1, e2, g⟩ := N.2.1; exact ⟨h, l, e1, e.trans e2, g⟩), o⟩
  | p :: p2 :: a, q, q', N, o, e => ⟨N.1, N.2.1, norm_set (p2 :: a) N.2.2 o e⟩
theorem norm_snoc : ∀ (a : List P2) {q x : P2}, Norm (a ++ [q]) → gap q x → okP x → Norm ((a ++ [q]) ++ [x])
  | [], _, _, N, g, o => ⟨N, g, o⟩
  | [p], q, x, N, g, o => ⟨N.1, N.2.1, N.2.2, g, o⟩
  | p :: p2 :: a, q, x, N, g, o => ⟨N.1, N.2.1, norm_snoc (p2 :: a) N.2.2 g o⟩
theorem norm_last : ∀ (a : List P2) {q : P2}, Norm (a ++ [q]) → okP q
  | [], _, N => N
  | [p], q, N => N.2.2
  | p :: p2 :: a, q, N => norm_last (p2 :: a) N.2.2
structure InvN (pre post acc : List P2) : Prop where
  n : Norm acc
  m : ∀ n, mem n acc = mem n pre
  le : ∀ a q, acc = a ++ [q] → ∀ x ∈ post, kLe q.1 x.1
  len : acc.length ≤ pre.length
theorem InvN.start (xs : List P2) : InvN [] xs [] := ⟨trivial, fun _ => rfl, fun a q e => by simp at e, Nat.le_refl _⟩
theorem InvN.skip {pre post acc : List P2} {x : P2} {l h : Int} (I : InvN pre (x :: post) acc) (e1 : x.1 = some l) (e2 : x.2 = some h) (hn : ¬ l ≤ h) : InvN (pre ++ [x]) post acc := by
  refine ⟨I.n, fun n => ?_, fun a q e y hy => I.le a q e y (List.mem_cons_of_mem _ hy), by have := I.len; rw [List.length_append]; omega⟩
  rw [mem_app, mem_one, I.m]
  have : inB x n = false := Bool.eq_false_iff.mpr fun z => by have := inB_lo z e1; have := inB_hi z e2; omega
  rw [this, Bool.or_false]
def mrg (q x : P2) : P2 := (q.1, match q.2, x.2 with | some a, some b => some (max a b) | _, _ => none)
theorem InvN.merge {pre post a : List P2} {q x : P2} (I : InvN pre (x :: post) (a ++ [q])) (ox : okP x) (hm : q.2 = none ∨ x.1 = none ∨ ∃ h l, q.2 = some h ∧ x.1 = some l ∧ l ≤ h + 1) : InvN (pre ++ [x]) post (a ++ [mrg q x]) := by
  have oq := norm_last a I.n
  have hle := I.le a q rfl x List.mem_cons_self
  have ok : okP (mrg q x) := by
    intro l h e1 e2
    obtain ⟨ql, qh⟩ := q
    obtain ⟨xl, xh⟩ := x
    cases qh <;> cases xh <;> simp only [mrg] at e1 e2 <;> try cases e2
    have := oq _ _ e1 rfl
    omega
  refine ⟨norm_set a I.n ok rfl, fun n => ?_, fun a' q' e y hy => ?_, by have := I.len; simp only [List.length_append, List.length_cons, List.length_nil] at this ⊢; omega⟩
  · have hq := I.m n
    rw [mem_app, mem_one] at hq
    rw [mem_app, mem_app, mem_one, mem_one, ← hq, Bool.or_assoc]
    congr 1
    obtain ⟨ql, qh⟩ := q
    obtain ⟨xl, xh⟩ := x
    rw [Bool.eq_iff_iff, Bool.or_eq_true]
    unfold kLe kA kB at hle
    unfold okP at oq ox
    cases ql <;> cases qh <;> cases xl <;> cases xh <;> simp [mrg, inB, loB, hiB] at hm hle oq ox ⊢ <;> omega
  · have e' : a' = a ∧ q' = mrg q x := by
      have := List.append_inj' e rfl
      exact ⟨this.1.symm, by simpa using this.2.symm⟩
    rw [e'.2]
    exact I.le a q rfl y (List.mem_cons_of_mem _ hy)
theorem InvN.push {pre post acc : List P2} {x : P2} (I : InvN pre (x :: post) acc) (ox : okP x) (hs : ∀ y ∈ post, kLe x.1 y.1) (hg : acc = [] ∨ ∃ a q, acc = a ++ [q] ∧ gap q x) : InvN (pre ++ [x]) post (acc ++ [x]) := by
  refine ⟨?_, fun n => ?_, fun a' q' e y hy => ?_, by have := I.len; simp only [List.length_append, List.length_cons, List.length_nil] at this ⊢; omega⟩
  · rcases hg with rfl | ⟨a, q, rfl, g⟩
    · exact ox
    · exact norm_snoc a I.n g ox
  · rw [mem_app, mem_app, I.m]
  · have := List.append_inj' e rfl
    have e2 : x = q' := by simpa using this.2
    rw [← e2]
    exact hs y hy
/-! ### others' loop -/
structure InvO (pre post found : List P2) (low : Option Int) (op : Bool) : Prop where
  n : Norm post
  o : op = true → (∀ n, (mem n found = true ∨ loB low n = true) ↔ mem n pre = false) ∧ (∀ n l, low = some l → mem n found = true → n < l) ∧ (low = none → pre = [] ∧ found = []) ∧ (∀ x r l, post = x :: r → low = some l → ∃ s, x.1 = some s ∧ l ≤ s)
  c : op = false → post = [] ∧ ∀ n, mem n found = true ↔ mem n pre = false
  len : found.length ≤ pre.length
theorem InvO.start {xs : List P2} (N : Norm xs) : InvO [] xs [] none true := ⟨N, fun _ => ⟨fun n => by simp [mem_nil, loB], fun n l e => (by cases e), fun _ => ⟨rfl, rfl⟩, fun x r l _ e => (by cases e)⟩, fun h => (by cases h), Nat.le_refl _⟩
def oStep (found : List P2) (low : Option Int) (x : P2) : List P2 := match x.1 with | none => found | some s => found ++ [(low, some (s - 1))]
theorem InvO.op {pre post found : List P2} {low : Option Int} {op : Bool} {x : P2} (I : InvO pre (x :: post) found low op) : op = true := by
  cases op with
  | true => rfl
  | false => cases (I.c rfl).1
theorem InvO.step {pre post found : List P2} {low : Option Int} {x : P2} (I : InvO pre (x :: post) found low true) : InvO (pre ++ [x]) post (oStep found low x) (x.2.map (· + 1)) x.2.isSome := by
  obtain ⟨h1, h2, h3, h4⟩ := I.o rfl
  have ox := I.n.ok
  have hl : (oStep found low x).length ≤ (pre ++ [x]).length := by
    have := I.len
    unfold oStep
    split <;> simp only [List.length_append, List.length_cons, List.length_nil] <;> omega
  have key : ∀ n, mem n (oStep found low x) = true ↔ (mem n found = true ∨ ∃ s, x.1 = some s ∧ loB low n = true ∧ n < s) := by
    intro n
    unfold oStep
    split
    · rename_i e; simp [e]
    · rename_i s e
      rw [mem_app, mem_one, Bool.or_eq_true]
      refine or_congr Iff.rfl ?_
      unfold inB hiB
      rw [Bool.and_eq_true]
      constructor
      · rintro ⟨a, b⟩; exact ⟨s, e, a, by have := of_decide_eq_true b; omega⟩
      · rintro ⟨s', e', a, b⟩; rw [e] at e'; cases e'; exact ⟨a, decide_eq_true (by omega)⟩
  have hpre : ∀ n, mem n (pre ++ [x]) = false ↔ (mem n pre = false ∧ inB x n = false) := fun n => by rw [mem_app, mem_one, Bool.or_eq_false_iff]
  have hin : ∀ n, inB x n = false ↔ ¬ ((∀ s, x.1 = some s → s ≤ n) ∧ (∀ e, x.2 = some e → n ≤ e)) := fun n => by
    rw [Bool.eq_false_iff]
    exact not_congr ⟨fun z => ⟨fun s e => inB_lo z e, fun s e => inB_hi z e⟩, fun z => inB_mk z.1 z.2⟩
  have hst : ∀ n, mem n found = true → ∀ s, x.1 = some s → n < s := fun n m s e => by
    cases hlow : low with
    | none => rw [(h3 hlow).2] at m; cases m
    | some l =>
      obtain ⟨s', e', g⟩ := h4 x post l rfl hlow
      rw [e] at e'; cases e'
      have := h2 n l hlow m
      omega
  have hnn : ∀ n, mem n found = true → x.1 = none → False := fun n m e => by
    cases hlow : low with
    | none => rw [(h3 hlow).2] at m; cases m
    | some l => obtain ⟨s', e', g⟩ := h4 x post l rfl hlow; rw [e] at e'; cases e'
  have hlo : ∀ n s, x.1 = some s → s ≤ n → loB low n = true := fun n s e g => by
    cases hlow : low with
    | none => rfl
    | some l =>
      obtain ⟨s', e', g'⟩ := h4 x post l rfl hlow
      rw [e] at e'; cases e'
      exact decide_eq_true (by omega)
  have hlo2 : ∀ n, x.1 = none → loB low n = true := fun n e => by
    cases hlow : low with
    | none => rfl
    | some l => obtain ⟨s', e', g'⟩ := h4 x post l rfl hlow; rw [e] at e'; cases e'
  cases hx2 : x.2 with
  | some e =>
    refine ⟨I.n.tail, fun _ => ⟨fun n => ?_, fun n l el m => ?_, fun z => (by cases z), fun y r l er el => ?_⟩, fun z => (by cases z), hl⟩
    · rw [hpre, hin, key]
      show _ ∨ loB (some (e + 1)) n = true ↔ _
      have hle : loB (some (e + 1)) n = true ↔ e + 1 ≤ n := decide_eq_true_iff
      rw [hle, ← h1]
      cases hx1 : x.1 with
      | none =>
        constructor
        · rintro ((m | ⟨s, es, _⟩) | g)
          · exact (hnn n m hx1).elim
          · cases es
          · exact ⟨.inr (hlo2 n hx1), fun z => by have := z.2 e hx2; omega⟩
        · rintro ⟨_, z⟩
          refine .inr ?_
          rcases (by omega : e < n ∨ n ≤ e) with g | g
          · omega
          · exact (z ⟨fun s es => (by cases es), fun e' ee => by rw [hx2] at ee; cases ee; exact g⟩).elim
      | some s =>
        have hse := ox s e hx1 hx2
        constructor
        · rintro ((m | ⟨s', es, a, b⟩) | g)
          · exact ⟨.inl m, fun z => by have := hst n m s hx1; have := z.1 s rfl; omega⟩
          · cases es; exact ⟨.inr a, fun z => by have := z.1 s rfl; omega⟩
          · exact ⟨.inr (hlo n s hx1 (by omega)), fun z => by have := z.2 e hx2; omega⟩
        · rintro ⟨m | a, z⟩
          · exact .inl (.inl m)
          · rcases (by omega : n < s ∨ s ≤ n) with g | g
            · exact .inl (.inr ⟨s, rfl, a, g⟩)
            · refine .inr ?_
              rcases (by omega : e < n ∨ n ≤ e) with g' | g'
              · omega
              · exact (z ⟨fun s' es => (by cases es; exact g), fun e' ee => by rw [hx2] at ee; cases ee; exact g'⟩).elim
    · have el : e + 1 = l := Option.some.inj el
      subst el
      rcases (key n).mp m with m | ⟨s, es, a, b⟩
      · cases hx1 : x.1 with
        | none => exact (hnn n m hx1).elim
        | some s => have := hst n m s hx1; have := ox s e hx1 hx2; omega
      · have := ox s e es hx2; omega
    · have el : e + 1 = l := Option.some.inj el
      subst el
      subst er
      obtain ⟨h, l, e1, e2, g⟩ := I.n.2.1
      rw [hx2] at e1; cases e1
      exact ⟨l, e2, by omega⟩
  | none =>
    have hp := I.n.last hx2
    refine ⟨I.n.tail, fun z => (by cases z), fun _ => ⟨hp, fun n => ?_⟩, hl⟩
    rw [hpre, hin, key, ← h1]
    cases hx1 : x.1 with
    | none =>
      constructor
      · rintro (m | ⟨s, es, _⟩)
        · exact (hnn n m hx1).elim
        · cases es
      · rintro ⟨_, z⟩
        exact (z ⟨fun s es => (by cases es), fun e' ee => by rw [hx2] at ee; cases ee⟩).elim
    | some s =>
      constructor
      · rintro (m | ⟨s', es, a, b⟩)
        · exact ⟨.inl m, fun z => by have := hst n m s hx1; have := z.1 s rfl; omega⟩
        · cases es; exact ⟨.inr a, fun z => by have := z.1 s rfl; omega⟩
      · rintro ⟨m | a, z⟩
        · exact .inl m
        · rcases (by omega : n < s ∨ s ≤ n) with g | g
          · exact .inr ⟨s, rfl, a, g⟩
          · exact (z ⟨fun s' es => (by cases es; exact g), fun e' ee => by rw [hx2] at ee; cases ee⟩).elim
theorem InvO.done_open {pre found : List P2} {low : Option Int} (I : InvO pre [] found low true) (n : Int) : mem n (found ++ [(low, none)]) = !mem n pre := by
  obtain ⟨h1, _⟩ := I.o rfl
  rw [mem_app, mem_one, Bool.eq_iff_iff, Bool.or_eq_true, Bool.not_eq_true']
  rw [← h1]
  simp [inB, hiB]
theorem InvO.done_shut {pre found : List P2} {low : Option Int} (I : InvO pre [] found low false) (n : Int) : mem n found = !mem n pre := by
  obtain ⟨_, h⟩ := I.c rfl
  rw [Bool.eq_iff_iff, Bool.not_eq_true']
  exact h n
end S55

namespace S55
open PySem L2 Y
abbrev pD (p : P2) : D := .tup [oD p.1, oD p.2]
theorem ixn_snoc (n : Nat) : ixN (n + 1) (-1) = some n := by
  unfold ixN
  simp
  first | omega | (constructor <;> omega) | skip
theorem ixn_last {a : List P2} {q : P2} : ixN (List.map pD (a ++ [q])).length (-1) = some a.length := by rw [List.length_map, List.length_append]; exact ixn_snoc _
theorem at_last {a : List P2} {q : P2} : atI (List.map pD (a ++ [q])) (-1) = some (pD q) := by
  unfold atI
  rw [ixn_last, List.map_append]
  show (List.map pD a ++ [pD q])[a.length]? = _
  rw [List.getElem?_append_right (by rw [List.length_map]; exact Nat.le_refl _), List.length_map, Nat.sub_self]; rfl
theorem set_last {a : List P2} {q x : P2} : (List.map pD (a ++ [q])).set a.length (pD x) = List.map pD (a ++ [x]) := by
  rw [List.map_append, List.map_append, List.set_append_right _ _ (by rw [List.length_map]; exact Nat.le_refl _), List.length_map, Nat.sub_self]; rfl
def unO (d : D) : Option Int := match d with | .int i => some i | _ => none
def unP (d : D) : P2 := match d with | .tup [a, b] => (unO a, unO b) | _ => (none, none)
theorem unO_oD (o : Option Int) : unO (oD o) = o := by cases o <;> rfl
theorem unP_pD (p : P2) : unP (pD p) = p := by show (unO (oD p.1), unO (oD p.2)) = p; rw [unO_oD, unO_oD]
theorem perm_back {l : List P2} {ds : List D} (h : ds.Perm (l.map pD)) : ∃ l' : List P2, ds = l'.map pD ∧ l'.Perm l := by
  refine ⟨ds.map unP, ?_, ?_⟩
  · rw [List.map_map]
    refine (List.map_id ds).symm.trans (List.map_congr_left fun d hd => ?_)
    obtain ⟨p, _, rfl⟩ := List.mem_map.mp (h.mem_iff.mp hd)
    show pD p = pD (unP (pD p))
    rw [unP_pD]
  · have := h.map unP
    rw [List.map_map] at this
    refine this.trans (List.Perm.of_eq ?_)
    refine (List.map_congr_left fun p _ => ?_).trans (List.map_id l)
    exact unP_pD p
theorem fst_pD (p : P2) : fst? (pD p) = p.1 := by obtain ⟨lo, hi⟩ := p; cases lo <;> rfl
theorem isPr_pD (p : P2) : isPr (pD p) := ⟨_, _, rfl, by obtain ⟨lo, hi⟩ := p; cases lo; exact .inl rfl; exact .inr ⟨_, rfl⟩⟩
theorem split_at {pre post : List P2} {d : D} (h : (List.map pD (pre ++ post))[pre.length]? = some d) : ∃ x r, post = x :: r ∧ d = pD x := by
  rw [List.map_append, List.getElem?_append_right (by rw [List.length_map]; exact Nat.le_refl _), List.length_map, Nat.sub_self] at h
  cases post with
  | nil => cases h
  | cons x r => cases h; exact ⟨x, r, rfl, rfl⟩
theorem puO (o : Option Int) (n : Nat) : Pu n (oD o) := by cases o <;> (show Pu n _; unfold Pu; trivial)
theorem puP (p : P2) (n : Nat) : Pu (n + 1) (pD p) := by show Pu (n + 1) (.tup [oD p.1, oD p.2]); unfold Pu; unfold PuL; exact ⟨puO _ _, by unfold PuL; exact ⟨puO _ _, by unfold PuL; trivial⟩⟩
theorem puL (l : List P2) : Pu 32 (.lst (l.map pD)) := by unfold Pu; exact PuL.map fun p _ => puP p 30
theorem puT (l : List P2) : Pu 32 (.tup (l.map pD)) := by unfold Pu; exact PuL.map fun p _ => puP p 30
theorem pu_nl : Pu 32 (.lst []) := puL []
theorem pu_nt : Pu 32 (.tup []) := puT []
theorem pD_inj {a b : List P2} (h : a.map pD = b.map pD) : a = b := by
  have := congrArg (List.map unP) h
  rw [List.map_map, List.map_map] at this
  have e : ∀ l : List P2, l.map (unP ∘ pD) = l := fun l => (List.map_congr_left fun p _ => unP_pD p).trans (List.map_id l)
  rwa [e, e] at this
local macro_rules | `(tactic| walk_at $_:str) => `(tactic| (conv => whnf) <;> repeat' (first
  | (refine And.intro (fun (hc : (_ : Prop)) => ?_) (fun (hc : (_ : Prop)) => ?_) <;> first | exact (d_ni hc).elim | exact (d_nt hc).elim | exact (d_nl hc).elim | exact (hc rfl).elim | (conv => whnf))
  | (refine And.intro (by with_reducible first | exact lz1 | exact lz2 | exact lz3 | exact lz0 | exact lq2 | exact lq1 | exact lq3 | exact lq5 | assumption | exact ⟨puL _, pu_nl⟩ | exact rfl) ?_ <;> (conv => whnf))
  | (rw [at_last]; conv => whnf) | (rw [ixn_last]; conv => whnf)))
theorem eq_nil {acc : List P2} (h : D.lst (List.map pD acc) = D.lst []) : acc = [] := by
  have := D.lst.inj h
  simpa using this
theorem ne_snoc {acc : List P2} (h : D.lst (List.map pD acc) ≠ D.lst []) : ∃ a q, acc = a ++ [q] := by
  rcases List.eq_nil_or_concat acc with rfl | ⟨a, q, e⟩
  · exact (h rfl).elim
  · exact ⟨a, q, by rw [e, List.concat_eq_append]⟩
def InN (l' : List P2) (x0 : D) (i : Nat) (env : List Sl) : Prop := ∃ (pre post acc : List P2) (x2 x3 x4 : Sl), l' = pre ++ post ∧ pre.length = i ∧ InvN pre post acc ∧ env = [.d x0, .ol (acc.map pD), x2, x3, x4, .no]
theorem inN_mk {pre r acc : List P2} {x : P2} {x0 : D} {x2 x3 x4 : Sl} {env : List Sl} (I : InvN (pre ++ [x]) r acc) (e : env = [.d x0, .ol (acc.map pD), x2, x3, x4, .no]) : InN (pre ++ x :: r) x0 (pre.length + 1) env :=
  ⟨pre ++ [x], r, acc, x2, x3, x4, by rw [List.append_assoc]; rfl, by rw [List.length_append]; rfl, I, e⟩
theorem inN_ps {pre r acc : List P2} {x : P2} {x0 : D} {x2 x3 x4 : Sl} {env : List Sl} (I : InvN (pre ++ [x]) r (acc ++ [x])) (e : env = [.d x0, .ol (acc.map pD ++ [pD x]), x2, x3, x4, .no]) : InN (pre ++ x :: r) x0 (pre.length + 1) env :=
  inN_mk I (by rw [e, List.map_append]; rfl)
theorem inN_mg {pre r a : List P2} {q x : P2} {x0 : D} {x2 x3 x4 : Sl} {env : List Sl} (I : InvN (pre ++ [x]) r (a ++ [mrg q x])) (e : env = [.d x0, .ol ((List.map pD (a ++ [q])).set a.length (pD (mrg q x))), x2, x3, x4, .no]) : InN (pre ++ x :: r) x0 (pre.length + 1) env :=
  inN_mk I (by rw [e, set_last])
structure Txt (mg : Str → Option Value) : Prop where
  d : DTxt mg
  len : mg "len" = none
  range : mg "range" = none
  tuple : mg "tuple" = none
  list : mg "list" = none
  any : mg "any" = none
  sum : mg "sum" = none
  max : mg "max" = none
  min : mg "min" = none
  zip : mg "zip" = none
  sorted : mg "sorted" = none
structure Low (K : PySem.W.Frag) (mg : Str → Option Value) : Prop where
  ex : ∃ f, mg "low_of" = some (.ref f) ∧ ∀ {X : Cx} {k : Nat}, X.K = K → Room k X.A → CallRK X (.builtin "sorted") [Str.ofString "key"] (rSortLow X.K f)
abbrev WD := List D → (D → Prop) → Prop
def wNormal : WD := fun ds q => ∃ l : List P2, (ds = [.lst (l.map pD)] ∨ ds = [.tup (l.map pD)]) ∧ l.length ≤ 100 ∧ ∀ r, Norm r → (∀ n, mem n r = mem n l) → r.length ≤ l.length → q (.tup (r.map pD))
section
variable {P : Program} {w : World} {K : PySem.W.Frag} {mg : Str → Option Value} {base : Heap}
theorem sc_normal : FnScope ["pairs", "found", "low", "high", "last", "pair"] ["pairs"] (defScope snormal) := ⟨rfl, rfl, rfl, by decide +kernel, rfl, by decide +kernel, by decide +kernel⟩
-- slots: 0 pairs, 1 found, 2 low, 3 high, 4 last, 5 pair
theorem ok_normal (T : Txt mg) (h0 : Here K mg "normal" ["pairs"] snormal) (Lo : Low K mg)  : Df P w K mg base 1 "normal" ["pairs"] wNormal := by
  obtain ⟨fl, mg_low_of, cr_low_of⟩ := Lo.ex
  refine df_of h0 sc_normal (fun ds q h => by obtain ⟨l, h | h, _⟩ := h <;> rw [h] <;> rfl) fun f cdv A outer s H E hr => ⟨_, _,
  (dss_cons (ds_setN (i := 1) sc_normal.nd rfl (by first | exact Or.inl rfl | exact Or.inr rfl) (dn_lst da_nil))
  (dss_cons (ds_for PassesOwn.never rfl (di_seq (DN.toE (dn_sortLow (cr_low_of rfl hr) rfl T.sorted rfl mg_low_of (by decide) (DN.toE (dn_lc (own := [("pair", 5)]) rfl sc_normal.nd (dib_seq (db_var 0)) (blkOk_by (N := ["pairs", "found", "low", "high", "last", "pair"]) (sc := defScope snormal) (by decide +kernel)) (fun _ _ _ _ _ => (dg_name (i := 5) sc_normal.nd rfl (by first | exact Or.inl rfl | exact Or.inr rfl))) (fun _ _ _ _ _ => dts_nil) (fun _ _ _ _ _ => (de_ty (call_tupleK (K := K)) sc_tuple rfl T.tuple (by with_unfolding_all rfl) (dab_cons (db_var 5) dab_nil)))))))) (dg_tupK (K := K) (n := 2) rfl (dgs_cons (dg_name (i := 2) sc_normal.nd rfl (by first | exact Or.inl rfl | exact Or.inr rfl)) (dgs_cons (dg_name (i := 3) sc_normal.nd rfl (by first | exact Or.inl rfl | exact Or.inr rfl)) dgs_nil))) (dss_one (ds_if (DW.dt (dw_or (dt_cmp op_isN so_isN (db_var 2) (DE.toB de_non) (nomark _)) (dw_or (dt_cmp op_isN so_isN (db_var 3) (DE.toB de_non) (nomark _)) (dw_or1 (dt_cmp op_le so_le (db_var 2) (db_var 3) (nomark _)))))) (dss_one (ds_if (DW.dt (dw_and (dt_cmp (op_neDK (K := K) hr.units) so_neU (db_var 1) (DE.toB (DN.toE (dn_lst da_nil))) (nomark _)) (dw_and1 (DW.dt (dw_or (dt_cmp op_isN so_isN (DE.toB (de_ixK (K := K) (DE.toB (de_ixK (K := K) (db_var 1) (DE.toB (de_neg de_int)) (fun _ _ => rfl))) (DE.toB de_int) (fun _ _ => rfl))) (DE.toB de_non) (nomark _)) (dw_or (dt_cmp op_isN so_isN (db_var 2) (DE.toB de_non) (nomark _)) (dw_or1 (dt_cmp op_le so_le (db_var 2) (DE.toB (de_op (op_addUK (K := K)) so_add (DE.toB (de_ixK (K := K) (DE.toB (de_ixK (K := K) (db_var 1) (DE.toB (de_neg de_int)) (fun _ _ => rfl))) (DE.toB de_int) (fun _ _ => rfl))) (DE.toB de_int))) (nomark _))))))))) (dss_cons (ds_set (i := 4) sc_normal.nd rfl (by first | exact Or.inl rfl | exact Or.inr rfl) (de_ixK (K := K) (DE.toB (de_ixK (K := K) (db_var 1) (DE.toB (de_neg de_int)) (fun _ _ => rfl))) (DE.toB de_int) (fun _ _ => rfl)))
  (dss_one (ds_ixset 1 (pe_var rfl (by first | exact Or.inl rfl | exact Or.inr (Or.inl rfl) | exact Or.inr (Or.inr rfl)) (by decide) (by decide)) (de_neg de_int) (de_tup (da_cons (de_ixK (K := K) (DE.toB (de_ixK (K := K) (db_var 1) (DE.toB (de_neg de_int)) (fun _ _ => rfl))) (DE.toB de_int) (fun _ _ => rfl)) (da_cons (de_ifE (DW.dt (dw_or (dt_cmp op_isN so_isN (db_var 4) (DE.toB de_non) (nomark _)) (dw_or1 (dt_cmp op_isN so_isN (db_var 3) (DE.toB de_non) (nomark _))))) de_non (de_cb (call_max2 rfl) sc_max2 rfl T.max (by with_unfolding_all rfl) (dab_cons (db_var 4) (dab_cons (db_var 3) dab_nil)))) da_nil)))))) (dss_one (ds_append 1 (pe_var rfl (by first | exact Or.inl rfl | exact Or.inr (Or.inl rfl) | exact Or.inr (Or.inr rfl)) (by decide) (by decide)) (de_tup (da_cons (de_var 2) (da_cons (de_var 3) da_nil))))))) dss_nil)))
  (dss_one (ds_ret (de_ty (call_tupleK (K := K)) sc_tuple rfl T.tuple (by with_unfolding_all rfl) (dab_cons (db_var 1) dab_nil)))))), fun ds q h => ?_⟩
  obtain ⟨l, hl, hn, hq⟩ := h
  obtain ⟨x0, rfl, hs⟩ : ∃ x0, ds = [x0] ∧ ∀ Q : List D → Prop, Q (l.map pD) → kSeq Q x0 := by
    rcases hl with rfl | rfl
    · exact ⟨_, rfl, fun Q h => h⟩
    · exact ⟨_, rfl, fun Q h => h⟩
  walk_at "x"
  refine hs _ ?_
  have hsz : (l.map pD).length ≤ sizeLine := by rw [List.length_map]; exact Nat.le_trans hn (by decide)
  refine g_lcm (fun d => d) hsz (fun d L R hm hL hR => ?_) ?_
  · obtain ⟨p, _, rfl⟩ := List.mem_map.mp hm
    walk_at "x"
    exact hR
  rw [List.map_id' (l.map pD)]
  conv => whnf
  refine ⟨fun z hz => ?_, fun ds' hp hw => ?_⟩
  · obtain ⟨p, _, rfl⟩ := List.mem_map.mp hz
    exact isPr_pD p
  obtain ⟨l', rfl, hp'⟩ := perm_back hp
  have hw' : l'.Pairwise (fun p q => kLe p.1 q.1) := by
    have := List.pairwise_map.mp hw
    refine this.imp ?_
    intro p q h
    rwa [fst_pD, fst_pD] at h
  walk_at "x"
  have hlen : l'.length ≤ 100 := by rw [hp'.length_eq]; exact hn
  refine g_for (InN l' x0) ⟨[], l', [], _, _, _, rfl, rfl, InvN.start l', rfl⟩ ?_ ?_
  · rintro i d env' hd ⟨pre, post, acc, x2, x3, x4, rfl, rfl, I, rfl⟩
    obtain ⟨⟨lo, hi⟩, r, rfl, rfl⟩ := split_at hd
    have hacc : (List.map pD acc).length < sizeLine := by
      have := I.len
      rw [List.length_append] at hlen
      rw [List.length_map]
      exact Nat.lt_of_le_of_lt (Nat.le_trans this (by omega : _ ≤ 100)) (by decide)
    have hs2 : ∀ y ∈ r, kLe lo y.1 := (List.pairwise_cons.mp (List.pairwise_append.mp hw').2.1).1
    cases lo <;> cases hi <;> walk_at "x"
    all_goals first
      | exact inN_mk (InvN.skip I rfl rfl ‹_›) rfl
      | exact inN_ps (I.push (by intro l h e1 e2; simp at e1 e2 <;> omega) hs2 (.inl (eq_nil ‹D.lst (List.map pD acc) = D.lst []›))) rfl
      | (obtain ⟨a, ⟨ql, qh⟩, rfl⟩ := ne_snoc ‹D.lst (List.map pD acc) ≠ D.lst []›
         cases ql <;> cases qh <;> walk_at "x")
    all_goals first
      | exact inN_mg (I.merge (by intro l h e1 e2; simp at e1 e2 <;> omega) (by first | exact .inl rfl | exact .inr (.inl rfl) | exact .inr (.inr ⟨_, _, rfl, rfl, by assumption⟩))) rfl
      | exact inN_ps (I.push (by intro l h e1 e2; simp at e1 e2 <;> omega) hs2 (.inr ⟨a, _, rfl, _, _, rfl, rfl, by omega⟩)) rfl
  · rintro env' ⟨pre, post, acc, x2, x3, x4, rfl, hp2, I, rfl⟩
    have : post = [] := by
      rw [List.length_map, List.length_append] at hp2
      cases post with
      | nil => rfl
      | cons x r => simp at hp2
    subst this
    walk_at "x"
    refine hq acc I.n (fun n => ?_) ?_
    · rw [I.m n]
      have e := hp'
      rw [List.append_nil] at e
      rw [Bool.eq_iff_iff]
      unfold mem
      rw [List.any_eq_true, List.any_eq_true]
      exact ⟨fun ⟨p, h1, h2⟩ => ⟨p, e.mem_iff.mp h1, h2⟩, fun ⟨p, h1, h2⟩ => ⟨p, e.mem_iff.mpr h1, h2⟩⟩
    · have := I.len
      have e := hp'.length_eq
      rw [List.append_nil] at e
      omega
end
end S55

namespace S55
open PySem L2 Y
local macro_rules | `(tactic| walk_at $_:str) => `(tactic| (conv => whnf) <;> repeat' (first
  | (refine And.intro (fun (hc : (_ : Prop)) => ?_) (fun (hc : (_ : Prop)) => ?_) <;> first | exact (d_ni hc).elim | exact (d_nt hc).elim | exact (d_nl hc).elim | exact (hc rfl).elim | (conv => whnf))
  | (refine And.intro (by with_reducible first | exact lz1 | exact lz2 | exact lz3 | exact lz0 | exact lq2 | exact lq1 | exact lq3 | exact lq5 | assumption | exact ⟨puL _, pu_nl⟩ | exact rfl) ?_ <;> (conv => whnf))
  | (rw [at_last]; conv => whnf) | (rw [ixn_last]; conv => whnf)))

abbrev sD (l : List P2) : D := .tup (l.map pD)
def wUnion : WD := fun ds q => ∃ a b : List P2, ds = [sD a, sD b] ∧ Norm a ∧ Norm b ∧ a.length + b.length ≤ 100 ∧ ∀ r, Norm r → (∀ n, mem n r = (mem n a || mem n b)) → r.length ≤ a.length + b.length → q (sD r)
def wOthers : WD := fun ds q => ∃ a : List P2, ds = [sD a] ∧ Norm a ∧ a.length ≤ 90 ∧ ∀ r, Norm r → (∀ n, mem n r = !mem n a) → r.length ≤ a.length + 1 → q (sD r)
def wMeet : WD := fun ds q => ∃ a b : List P2, ds = [sD a, sD b] ∧ Norm a ∧ Norm b ∧ a.length + b.length ≤ 60 ∧ ∀ r, Norm r → (∀ n, mem n r = (mem n a && mem n b)) → r.length ≤ a.length + b.length + 3 → q (sD r)
def wHas : WD := fun ds q => ∃ (a : List P2) (n : Int), ds = [sD a, .int n] ∧ a.length ≤ 100 ∧ q (.bl (mem n a))
theorem len_le {n : Nat} {l : List P2} (h : l.length ≤ n) (hn : n ≤ sizeLine) : (l.map pD).length ≤ sizeLine := by rw [List.length_map]; exact Nat.le_trans h hn
theorem len_lt {n : Nat} {l : List P2} (h : l.length ≤ n) (hn : n < sizeLine) : (l.map pD).length < sizeLine := by rw [List.length_map]; exact Nat.lt_of_le_of_lt h hn
def InOt (a : List P2) (i : Nat) (env : List Sl) : Prop := ∃ (pre post found : List P2) (low : Option Int) (op : Bool) (x4 x5 : Sl), a = pre ++ post ∧ pre.length = i ∧ InvO pre post found low op ∧ env = [.d (sD a), .ol (found.map pD), .d (oD low), .d (.bl op), x4, x5]
theorem inOt_mk {pre r found : List P2} {low : Option Int} {x : P2} {x4 x5 : Sl} {env : List Sl} (I : InvO pre (x :: r) found low true) (e : env = [.d (sD (pre ++ x :: r)), .ol ((oStep found low x).map pD), .d (oD (x.2.map (· + 1))), .d (.bl x.2.isSome), x4, x5]) : InOt (pre ++ x :: r) (pre.length + 1) env :=
  ⟨pre ++ [x], r, _, _, _, x4, x5, by rw [List.append_assoc]; rfl, by rw [List.length_append]; rfl, I.step, e⟩
theorem map_snoc {found : List P2} {x : P2} : List.map pD found ++ [pD x] = List.map pD (found ++ [x]) := by rw [List.map_append]; rfl
section
variable {P : Program} {w : World} {K : PySem.W.Frag} {mg : Str → Option Value} {base : Heap}
theorem sc_union : FnScope ["one", "other"] ["one", "other"] (defScope sunion) := ⟨rfl, rfl, rfl, by decide +kernel, rfl, by decide +kernel, by decide +kernel⟩
-- slots: 0 one, 1 other
theorem ok_union (T : Txt mg) (h0 : Here K mg "union" ["one", "other"] sunion)  (F_normal : Df P w K mg base 1 "normal" ["pairs"] wNormal) : Df P w K mg base 2 "union" ["one", "other"] wUnion := by
  refine df_of h0 sc_union (fun ds q h => by obtain ⟨a, b, rfl, _⟩ := h; rfl) fun f cdv A outer s H E hr => ⟨_, _,
  (dss_one (ds_ret (de_clK (K := K) F_normal (hr.mono (by omega)) rfl (da_cons (de_op (op_addUK (K := K)) so_add (db_var 0) (db_var 1)) da_nil)))), fun ds q h => ?_⟩
  obtain ⟨a, b, rfl, na, nb, hl, hq⟩ := h
  walk_at "x"
  refine ⟨by rw [List.length_map, List.length_map]; exact Nat.le_trans hl (by decide), ?_⟩
  walk_at "x"
  exact ⟨a ++ b, .inr (by rw [List.map_append]), by rw [List.length_append]; exact hl, fun r hn hm hlr => hq r hn (fun n => by rw [hm, mem_app]) (by rw [List.length_append] at hlr; exact hlr)⟩
theorem sc_others : FnScope ["one", "found", "low", "is_open", "start", "end"] ["one"] (defScope sothers) := ⟨rfl, rfl, rfl, by decide +kernel, rfl, by decide +kernel, by decide +kernel⟩
-- slots: 0 one, 1 found, 2 low, 3 is_open, 4 start, 5 end
theorem ok_others (T : Txt mg) (h0 : Here K mg "others" ["one"] sothers)  (F_normal : Df P w K mg base 1 "normal" ["pairs"] wNormal) : Df P w K mg base 2 "others" ["one"] wOthers := by
  refine df_of h0 sc_others (fun ds q h => by obtain ⟨a, rfl, _⟩ := h; rfl) fun f cdv A outer s H E hr => ⟨_, _,
  (dss_cons (ds_ownPar3 (i := 1) (j := 2) (l := 3) rfl sc_others.nd rfl rfl rfl (by decide) (by decide) (by decide) rfl rfl rfl (dn_lst da_nil) (da_cons de_non (da_cons de_bl da_nil)) (by rfl))
  (dss_cons (ds_for PassesOwn.never rfl (di_seq (de_var 0)) (dg_tupK (K := K) (n := 2) rfl (dgs_cons (dg_name (i := 4) sc_others.nd rfl (by first | exact Or.inl rfl | exact Or.inr rfl)) (dgs_cons (dg_name (i := 5) sc_others.nd rfl (by first | exact Or.inl rfl | exact Or.inr rfl)) dgs_nil))) (dss_cons (ds_if (DW.dt (dw_and (dt_cmp op_notN so_notN (db_var 4) (DE.toB de_non) (nomark _)) (dw_and1 (dt_val (de_var 3))))) (dss_one (ds_append 1 (pe_var rfl (by first | exact Or.inl rfl | exact Or.inr (Or.inl rfl) | exact Or.inr (Or.inr rfl)) (by decide) (by decide)) (de_tup (da_cons (de_var 2) (da_cons (de_op op_sub so_sub (db_var 4) (DE.toB de_int)) da_nil))))) dss_nil)
  (dss_cons (ds_set (i := 3) sc_others.nd rfl (by first | exact Or.inl rfl | exact Or.inr rfl) (de_cmp op_notN so_notN (db_var 5) (DE.toB de_non) (nomark _)))
  (dss_one (ds_set (i := 2) sc_others.nd rfl (by first | exact Or.inl rfl | exact Or.inr rfl) (de_ifE (dt_cmp op_isN so_isN (db_var 5) (DE.toB de_non) (nomark _)) de_non (de_op (op_addUK (K := K)) so_add (db_var 5) (DE.toB de_int))))))))
  (dss_cons (ds_if (dt_val (de_var 3)) (dss_one (ds_append 1 (pe_var rfl (by first | exact Or.inl rfl | exact Or.inr (Or.inl rfl) | exact Or.inr (Or.inr rfl)) (by decide) (by decide)) (de_tup (da_cons (de_var 2) (da_cons de_non da_nil))))) dss_nil)
  (dss_one (ds_frz 1 (ds_ret (de_clK (K := K) F_normal (hr.mono (by omega)) rfl (da_cons (de_var 1) da_nil)))))))), fun ds q h => ?_⟩
  obtain ⟨a, rfl, na, hl, hq⟩ := h
  walk_at "x"
  refine g_for (InOt a) ⟨[], a, [], none, true, _, _, rfl, rfl, InvO.start na, rfl⟩ ?_ ?_
  · rintro i d env' hd ⟨pre, post, found, low, op, x4, x5, rfl, rfl, I, rfl⟩
    obtain ⟨⟨st, en⟩, r, rfl, rfl⟩ := split_at hd
    have hop := I.op
    subst hop
    have hacc : (List.map pD found).length < sizeLine := len_lt (n := 90) (by have := I.len; rw [List.length_append] at hl; omega) (by decide)
    cases st <;> cases en <;> walk_at "x"
    · exact inOt_mk I rfl
    · exact inOt_mk I rfl
    · exact inOt_mk I (by rw [show oStep found low (some _, none) = found ++ [(low, some _)] from rfl, ← map_snoc]; try rfl)
    · exact inOt_mk I (by rw [show oStep found low (some _, some _) = found ++ [(low, some _)] from rfl, ← map_snoc]; try rfl)
  · rintro env' ⟨pre, post, found, low, op, x4, x5, rfl, hp2, I, rfl⟩
    have : post = [] := by
      rw [List.length_map, List.length_append] at hp2
      cases post with
      | nil => rfl
      | cons x r => simp at hp2
    subst this
    rw [List.append_nil] at *
    have hacc : (List.map pD found).length < sizeLine := len_lt (n := 90) (by have := I.len; omega) (by decide)
    have hfl := I.len
    cases op
    · walk_at "x"
      exact ⟨found, .inl rfl, by omega, fun r hn hm hlr => hq r hn (fun n => by rw [hm, I.done_shut]) (by omega)⟩
    · walk_at "x"
      exact ⟨found ++ [(low, none)], .inl (by rw [← map_snoc]; try rfl), by rw [List.length_append]; show found.length + 1 ≤ 100; omega, fun r hn hm hlr => hq r hn (fun n => by rw [hm, I.done_open]) (by rw [List.length_append] at hlr; exact Nat.le_trans hlr (by show found.length + 1 ≤ _; omega))⟩
theorem sc_meet : FnScope ["one", "other"] ["one", "other"] (defScope smeet) := ⟨rfl, rfl, rfl, by decide +kernel, rfl, by decide +kernel, by decide +kernel⟩
-- slots: 0 one, 1 other
theorem ok_meet (T : Txt mg) (h0 : Here K mg "meet" ["one", "other"] smeet)  (F_others : Df P w K mg base 2 "others" ["one"] wOthers) (F_union : Df P w K mg base 2 "union" ["one", "other"] wUnion) : Df P w K mg base 3 "meet" ["one", "other"] wMeet := by
  refine df_of h0 sc_meet (fun ds q h => by obtain ⟨a, b, rfl, _⟩ := h; rfl) fun f cdv A outer s H E hr => ⟨_, _,
  (dss_one (ds_ret (de_clK (K := K) F_others (hr.mono (by omega)) rfl (da_cons (de_clK (K := K) F_union (hr.mono (by omega)) rfl (da_cons (de_clK (K := K) F_others (hr.mono (by omega)) rfl (da_cons (de_var 0) da_nil)) (da_cons (de_clK (K := K) F_others (hr.mono (by omega)) rfl (da_cons (de_var 1) da_nil)) da_nil))) da_nil)))), fun ds q h => ?_⟩
  obtain ⟨a, b, rfl, na, nb, hl, hq⟩ := h
  walk_at "x"
  refine ⟨a, rfl, na, by omega, fun r1 n1 m1 l1 => ?_⟩
  walk_at "x"
  refine ⟨b, rfl, nb, by omega, fun r2 n2 m2 l2 => ?_⟩
  walk_at "x"
  refine ⟨r1, r2, rfl, n1, n2, by omega, fun r3 n3 m3 l3 => ?_⟩
  walk_at "x"
  refine ⟨r3, rfl, n3, by omega, fun r hn hm hlr => hq r hn (fun n => ?_) (by omega)⟩
  rw [hm, m3, m1, m2]
  cases mem n a <;> cases mem n b <;> rfl
theorem sc_has : FnScope ["one", "number", "low", "high"] ["one", "number"] (defScope shas) := ⟨rfl, rfl, rfl, by decide +kernel, rfl, by decide +kernel, by decide +kernel⟩
-- slots: 0 one, 1 number, 2 low, 3 high
theorem ok_has (T : Txt mg) (h0 : Here K mg "has" ["one", "number"] shas)   : Df P w K mg base 1 "has" ["one", "number"] wHas := by
  refine df_of h0 sc_has (fun ds q h => by obtain ⟨a, b, rfl, _⟩ := h; rfl) fun f cdv A outer s H E hr => ⟨_, _,
  (dss_one (ds_ret (de_cb (cr_anyK (K := K) rfl) sc_any rfl T.any (by with_unfolding_all rfl) (dab_cons (DE.toB (DN.toE (dn_lc (own := [("low", 2), ("high", 3)]) rfl sc_has.nd (dib_seq (db_var 0)) (blkOk_by (N := ["one", "number", "low", "high"]) (sc := defScope shas) (by decide +kernel)) (fun _ _ _ _ _ => (dg_tupK (K := K) (n := 2) rfl (dgs_cons (dg_name (i := 2) sc_has.nd rfl (by first | exact Or.inl rfl | exact Or.inr rfl)) (dgs_cons (dg_name (i := 3) sc_has.nd rfl (by first | exact Or.inl rfl | exact Or.inr rfl)) dgs_nil)))) (fun _ _ _ _ _ => dts_nil) (fun _ _ _ _ _ => (de_and (de_or (de_cmp op_isN so_isN (db_var 2) (DE.toB de_non) (nomark _)) (de_one (de_cmp op_le so_le (db_var 2) (db_var 1) (nomark _)))) (de_one (de_or (de_cmp op_isN so_isN (db_var 3) (DE.toB de_non) (nomark _)) (de_one (de_cmp op_le so_le (db_var 1) (db_var 3) (nomark _)))))))))) dab_nil)))), fun ds q h => ?_⟩
  obtain ⟨a, n, rfl, hl, hq⟩ := h
  walk_at "x"
  refine g_lcm (fun d => .bl (inB (unP d) n)) (len_le hl (by decide)) (fun d L R hm hL hR => ?_) ?_
  · obtain ⟨⟨lo, hi⟩, _, rfl⟩ := List.mem_map.mp hm
    simp only [unP_pD, inB, loB, hiB] at hR
    cases lo <;> cases hi <;> walk_at "x"
    all_goals simpa [*] using hR
  · have e : List.map (fun d => D.bl (inB (unP d) n)) (List.map pD a) = List.map D.bl (a.map fun p => inB p n) := by
      rw [List.map_map, List.map_map]
      exact List.map_congr_left fun p _ => by show D.bl (inB (unP (pD p)) n) = D.bl (inB p n); rw [unP_pD]
    rw [e]
    refine g_any ?_
    show q (.bl ((a.map fun p => inB p n).any id))
    rw [List.any_map]
    exact hq
end
end S55

namespace S55
open PySem L2 Y
theorem at_zero {p : P2} {r : List P2} : atI (List.map pD (p :: r)) 0 = some (pD p) := by
  unfold atI
  have e : ixN (List.map pD (p :: r)).length 0 = some 0 := by
    unfold ixN
    simp
  rw [e]; rfl
theorem d_ts {b : List P2} {p : P2} (h : D.tup (List.map pD (b ++ [p])) = .tup []) : False := by
  have := D.tup.inj h
  simp at this
local macro_rules | `(tactic| walk_at $_:str) => `(tactic| (conv => whnf) <;> repeat' (first
  | (refine And.intro (fun (hc : (_ : Prop)) => ?_) (fun (hc : (_ : Prop)) => ?_) <;> first | exact (d_ni hc).elim | exact (d_nt hc).elim | exact (d_nl hc).elim | exact (d_tc hc).elim | exact (d_lc hc).elim | exact (d_ts hc).elim | exact (hc rfl).elim | (conv => whnf))
  | (refine And.intro (by with_reducible first | exact lz1 | exact lz2 | exact lz3 | exact lz0 | exact lq2 | exact lq1 | exact lq3 | exact lq5 | assumption | exact ⟨puL _, pu_nl⟩ | exact ⟨puT _, pu_nt⟩ | exact ⟨puT _, puT _⟩ | exact rfl) ?_ <;> (conv => whnf))
  | (rw [at_last]; conv => whnf) | (rw [ixn_last]; conv => whnf) | (rw [at_zero]; conv => whnf)))

def loOf (a : List P2) : Option Int := match a with | [] => none | p :: _ => p.1
def hiOf (a : List P2) : Option Int := match a.getLast? with | none => none | some p => p.2
def isOpen (a : List P2) : Bool := a.any fun p => p.1.isNone || p.2.isNone
def count (a : List P2) : Int := (a.map fun p => p.2.getD 0 - p.1.getD 0 + 1).sum
def smem (p : P2) : Int := match p with | (none, none) => 0 | (none, some h) => h | (some l, _) => l
def wLeast : WD := fun ds q => ∃ a : List P2, ds = [sD a] ∧ q (oD (loOf a))
def wGreatest : WD := fun ds q => ∃ a : List P2, ds = [sD a] ∧ q (oD (hiOf a))
def wMany : WD := fun ds q => ∃ a : List P2, ds = [sD a] ∧ a.length ≤ 100 ∧ (isOpen a = true → q .non) ∧ (isOpen a = false → q (.int (count a)))
def wSome : WD := fun ds q => ∃ (p : P2) (r : List P2), ds = [sD (p :: r)] ∧ q (.int (smem p))
def wIn : WD := fun ds q => ∃ (l : List P2) (n : Int), ds = [.lst (l.map pD), .int n] ∧ q (.bl (mem n l))
section
variable {P : Program} {w : World} {K : PySem.W.Frag} {mg : Str → Option Value} {base : Heap}
theorem sc_least : FnScope ["one"] ["one"] (defScope sleast) := ⟨rfl, rfl, rfl, by decide +kernel, rfl, by decide +kernel, by decide +kernel⟩
-- slots: 0 one
theorem ok_least (T : Txt mg) (h0 : Here K mg "least" ["one"] sleast)   : Df P w K mg base 1 "least" ["one"] wLeast := by
  refine df_of h0 sc_least (fun ds q h => by obtain ⟨a, rfl, _⟩ := h; rfl) fun f cdv A outer s H E hr => ⟨_, _,
  (dss_one (ds_ret (de_ifE (dt_cmp (op_neDK (K := K) hr.units) so_neU (db_var 0) (DE.toB (de_tup da_nil)) (nomark _)) (de_ixK (K := K) (DE.toB (de_ixK (K := K) (db_var 0) (DE.toB de_int) (fun _ _ => rfl))) (DE.toB de_int) (fun _ _ => rfl)) de_non))), fun ds q h => ?_⟩
  obtain ⟨a, rfl, hq⟩ := h
  cases a with
  | nil => walk_at "x"; exact hq
  | cons p r => walk_at "x"; exact hq
theorem sc_greatest : FnScope ["one"] ["one"] (defScope sgreatest) := ⟨rfl, rfl, rfl, by decide +kernel, rfl, by decide +kernel, by decide +kernel⟩
-- slots: 0 one
theorem ok_greatest (T : Txt mg) (h0 : Here K mg "greatest" ["one"] sgreatest)   : Df P w K mg base 1 "greatest" ["one"] wGreatest := by
  refine df_of h0 sc_greatest (fun ds q h => by obtain ⟨a, rfl, _⟩ := h; rfl) fun f cdv A outer s H E hr => ⟨_, _,
  (dss_one (ds_ret (de_ifE (dt_cmp (op_neDK (K := K) hr.units) so_neU (db_var 0) (DE.toB (de_tup da_nil)) (nomark _)) (de_ixK (K := K) (DE.toB (de_ixK (K := K) (db_var 0) (DE.toB (de_neg de_int)) (fun _ _ => rfl))) (DE.toB de_int) (fun _ _ => rfl)) de_non))), fun ds q h => ?_⟩
  obtain ⟨a, rfl, hq⟩ := h
  rcases List.eq_nil_or_concat a with rfl | ⟨b, p, rfl⟩
  · walk_at "x"; exact hq
  · rw [List.concat_eq_append] at *
    have e : hiOf (b ++ [p]) = p.2 := by unfold hiOf; rw [List.getLast?_append]; rfl
    rw [e] at hq
    walk_at "x"; exact hq
theorem sc_how_many : FnScope ["one", "low", "high"] ["one"] (defScope show_many) := ⟨rfl, rfl, rfl, by decide +kernel, rfl, by decide +kernel, by decide +kernel⟩
-- slots: 0 one, 1 low, 2 high
theorem ok_how_many (T : Txt mg) (h0 : Here K mg "how_many" ["one"] show_many)   : Df P w K mg base 1 "how_many" ["one"] wMany := by
  refine df_of h0 sc_how_many (fun ds q h => by obtain ⟨a, rfl, _⟩ := h; rfl) fun f cdv A outer s H E hr => ⟨_, _,
  (dss_cons (ds_if (dt_val (de_cb (cr_anyK (K := K) rfl) sc_any rfl T.any (by with_unfolding_all rfl) (dab_cons (DE.toB (DN.toE (dn_lc (own := [("low", 1), ("high", 2)]) rfl sc_how_many.nd (dib_seq (db_var 0)) (blkOk_by (N := ["one", "low", "high"]) (sc := defScope show_many) (by decide +kernel)) (fun _ _ _ _ _ => (dg_tupK (K := K) (n := 2) rfl (dgs_cons (dg_name (i := 1) sc_how_many.nd rfl (by first | exact Or.inl rfl | exact Or.inr rfl)) (dgs_cons (dg_name (i := 2) sc_how_many.nd rfl (by first | exact Or.inl rfl | exact Or.inr rfl)) dgs_nil)))) (fun _ _ _ _ _ => dts_nil) (fun _ _ _ _ _ => (de_or (de_cmp op_isN so_isN (db_var 1) (DE.toB de_non) (nomark _)) (de_one (de_cmp op_isN so_isN (db_var 2) (DE.toB de_non) (nomark _)))))))) dab_nil))) (dss_one (ds_ret de_non)) dss_nil)
  (dss_one (ds_ret (de_cb (cr_sumK (K := K) rfl) sc_sum rfl T.sum (by with_unfolding_all rfl) (dab_cons (DE.toB (DN.toE (dn_lc (own := [("low", 1), ("high", 2)]) rfl sc_how_many.nd (dib_seq (db_var 0)) (blkOk_by (N := ["one", "low", "high"]) (sc := defScope show_many) (by decide +kernel)) (fun _ _ _ _ _ => (dg_tupK (K := K) (n := 2) rfl (dgs_cons (dg_name (i := 1) sc_how_many.nd rfl (by first | exact Or.inl rfl | exact Or.inr rfl)) (dgs_cons (dg_name (i := 2) sc_how_many.nd rfl (by first | exact Or.inl rfl | exact Or.inr rfl)) dgs_nil)))) (fun _ _ _ _ _ => dts_nil) (fun _ _ _ _ _ => (de_op (op_addUK (K := K)) so_add (DE.toB (de_op op_sub so_sub (db_var 2) (db_var 1))) (DE.toB de_int)))))) dab_nil))))), fun ds q h => ?_⟩
  obtain ⟨a, rfl, hl, h1, h0⟩ := h
  walk_at "x"
  refine g_lcm (fun d => .bl ((unP d).1.isNone || (unP d).2.isNone)) (len_le hl (by decide)) (fun d L R hm hL hR => ?_) ?_
  · obtain ⟨⟨lo, hi⟩, _, rfl⟩ := List.mem_map.mp hm
    simp only [unP_pD] at hR
    cases lo <;> cases hi <;> walk_at "x"
    all_goals simpa [*] using hR
  · have e : List.map (fun d => D.bl ((unP d).1.isNone || (unP d).2.isNone)) (List.map pD a) = List.map D.bl (a.map fun p => p.1.isNone || p.2.isNone) := by
      rw [List.map_map, List.map_map]
      exact List.map_congr_left fun p _ => by show D.bl ((unP (pD p)).1.isNone || (unP (pD p)).2.isNone) = _; rw [unP_pD]; rfl
    rw [e]
    dsimp only [wNil]
    refine g_any ?_
    have e2 : (a.map fun p : P2 => p.1.isNone || p.2.isNone).any id = isOpen a := by rw [List.any_map]; rfl
    rw [e2]
    cases ho : isOpen a with
    | true => walk_at "x"; exact h1 ho
    | false =>
      walk_at "x"
      refine g_lcm (fun d => .int ((unP d).2.getD 0 - (unP d).1.getD 0 + 1)) (len_le hl (by decide)) (fun d L R hm hL hR => ?_) ?_
      · obtain ⟨⟨lo, hi⟩, hp, rfl⟩ := List.mem_map.mp hm
        have hso : ((lo, hi) : P2).1.isNone = false ∧ ((lo, hi) : P2).2.isNone = false := by
          unfold isOpen at ho
          rw [List.any_eq_false] at ho
          have := ho _ hp
          rw [Bool.not_eq_true, Bool.or_eq_false_iff] at this
          exact this
        simp only [unP_pD] at hR
        cases lo with
        | none => cases hso.1
        | some l =>
          cases hi with
          | none => cases hso.2
          | some h => walk_at "x"; exact hR
      · have e3 : List.map (fun d => D.int ((unP d).2.getD 0 - (unP d).1.getD 0 + 1)) (List.map pD a) = List.map D.int (a.map fun p => p.2.getD 0 - p.1.getD 0 + 1) := by
          rw [List.map_map, List.map_map]
          exact List.map_congr_left fun p _ => by show D.int ((unP (pD p)).2.getD 0 - (unP (pD p)).1.getD 0 + 1) = _; rw [unP_pD]; rfl
        rw [e3]
        dsimp only [wNil]
        refine g_sum ?_
        exact h0 ho
theorem sc_some_member : FnScope ["one", "low", "high"] ["one"] (defScope ssome_member) := ⟨rfl, rfl, rfl, by decide +kernel, rfl, by decide +kernel, by decide +kernel⟩
-- slots: 0 one, 1 low, 2 high
theorem ok_some_member (T : Txt mg) (h0 : Here K mg "some_member" ["one"] ssome_member)   : Df P w K mg base 1 "some_member" ["one"] wSome := by
  refine df_of h0 sc_some_member (fun ds q h => by obtain ⟨a, b, rfl, _⟩ := h; rfl) fun f cdv A outer s H E hr => ⟨_, _,
  (dss_cons (ds_asg (de_ixK (K := K) (db_var 0) (DE.toB de_int) (fun _ _ => rfl)) (dg_tupK (K := K) (n := 2) rfl (dgs_cons (dg_name (i := 1) sc_some_member.nd rfl (by first | exact Or.inl rfl | exact Or.inr rfl)) (dgs_cons (dg_name (i := 2) sc_some_member.nd rfl (by first | exact Or.inl rfl | exact Or.inr rfl)) dgs_nil))))
  (dss_cons (ds_if (DW.dt (dw_and (dt_cmp op_isN so_isN (db_var 1) (DE.toB de_non) (nomark _)) (dw_and1 (dt_cmp op_isN so_isN (db_var 2) (DE.toB de_non) (nomark _))))) (dss_one (ds_ret de_int)) dss_nil)
  (dss_one (ds_ret (de_ifE (dt_cmp op_isN so_isN (db_var 1) (DE.toB de_non) (nomark _)) (de_var 2) (de_var 1)))))), fun ds q h => ?_⟩
  obtain ⟨⟨lo, hi⟩, r, rfl, hq⟩ := h
  cases lo <;> cases hi <;> walk_at "x"
  all_goals exact hq
theorem sc_law_in : FnScope ["_law_pairs_here", "_law_number_here", "_law_low", "_law_high"] ["_law_pairs_here", "_law_number_here"] (defScope sL_in) := ⟨rfl, rfl, rfl, by decide +kernel, rfl, by decide +kernel, by decide +kernel⟩
-- slots: 0 _law_pairs_here, 1 _law_number_here, 2 _law_low, 3 _law_high
theorem ok_law_in (T : Txt mg) (h0 : Here K mg "_law_in" ["_law_pairs_here", "_law_number_here"] sL_in)   : Df P w K mg base 1 "_law_in" ["_law_pairs_here", "_law_number_here"] wIn := by
  refine df_of h0 sc_law_in (fun ds q h => by obtain ⟨a, b, rfl, _⟩ := h; rfl) fun f cdv A outer s H E hr => ⟨_, _,
  (dss_cons (ds_for PassesOwn.never rfl (di_seq (de_var 0)) (dg_tupK (K := K) (n := 2) rfl (dgs_cons (dg_name (i := 2) sc_law_in.nd rfl (by first | exact Or.inl rfl | exact Or.inr rfl)) (dgs_cons (dg_name (i := 3) sc_law_in.nd rfl (by first | exact Or.inl rfl | exact Or.inr rfl)) dgs_nil))) (dss_one (ds_if (DW.dt (dw_and (DW.dt (dw_or (dt_cmp op_isN so_isN (db_var 2) (DE.toB de_non) (nomark _)) (dw_or1 (dt_cmp op_le so_le (db_var 2) (db_var 1) (nomark _))))) (dw_and1 (DW.dt (dw_or (dt_cmp op_isN so_isN (db_var 3) (DE.toB de_non) (nomark _)) (dw_or1 (dt_cmp op_le so_le (db_var 1) (db_var 3) (nomark _)))))))) (dss_one (ds_ret de_bl)) dss_nil)))
  (dss_one (ds_ret de_bl))), fun ds q h => ?_⟩
  obtain ⟨l, n, rfl, hq⟩ := h
  walk_at "x"
  refine g_for (fun i env => ∃ (pre post : List P2) (x2 x3 : Sl), l = pre ++ post ∧ pre.length = i ∧ mem n pre = false ∧ env = [.d (.lst (l.map pD)), .d (.int n), x2, x3]) ⟨[], l, _, _, rfl, rfl, rfl, rfl⟩ ?_ ?_
  · rintro i d env' hd ⟨pre, post, x2, x3, rfl, rfl, hm, rfl⟩
    obtain ⟨⟨lo, hi⟩, r, rfl, rfl⟩ := split_at hd
    have fin : ∀ b : Bool, inB (lo, hi) n = b → (b = true → q (.bl true)) ∧ (b = false → mem n (pre ++ [(lo, hi)]) = false) := fun b hb => ⟨fun e => by
      rw [mem_app, mem_cons, hb, e, Bool.true_or, Bool.or_true] at hq; exact hq, fun e => by rw [mem_app, mem_one, hm, hb, e]; rfl⟩
    have nxt : mem n (pre ++ [(lo, hi)]) = false → ∀ env, (∃ x2 x3, env = [.d (.lst ((pre ++ (lo, hi) :: r).map pD)), .d (.int n), x2, x3]) → ∃ (pre1 post : List P2) (x2 x3 : Sl), pre ++ (lo, hi) :: r = pre1 ++ post ∧ pre1.length = pre.length + 1 ∧ mem n pre1 = false ∧ env = [.d (.lst ((pre ++ (lo, hi) :: r).map pD)), .d (.int n), x2, x3] :=
      fun hm' env ⟨x2, x3, e⟩ => ⟨pre ++ [(lo, hi)], r, x2, x3, by rw [List.append_assoc]; rfl, by rw [List.length_append]; rfl, hm', e⟩
    cases lo <;> cases hi <;> walk_at "x"
    all_goals first
      | exact (fin true (by simp [inB, loB, hiB, *])).1 rfl
      | exact nxt ((fin false (by simp [inB, loB, hiB, *])).2 rfl) _ ⟨_, _, rfl⟩
  · rintro env' ⟨pre, post, x2, x3, rfl, hp2, hm, rfl⟩
    have : post = [] := by
      rw [List.length_map, List.length_append] at hp2
      cases post with
      | nil => rfl
      | cons x r => simp at hp2
    subst this
    walk_at "x"
    rw [List.append_nil, hm] at hq
    exact hq
end
end S55

namespace S55
open PySem L2 Y
def iD (l : List Int) : List D := l.map D.int
theorem mem_iD {l : List Int} {n : Int} : D.int n ∈ iD l ↔ n ∈ l := by
  unfold iD
  rw [List.mem_map]
  exact ⟨fun ⟨x, h, e⟩ => by cases e; exact h, fun h => ⟨n, h, rfl⟩⟩
theorem flat_iD {l : List Int} : ∀ x ∈ iD l, Flat x := fun x h => by
  obtain ⟨n, _, rfl⟩ := List.mem_map.mp h
  trivial
theorem fl_i {x : Int} {l : List Int} : Flat (D.int x) ∧ ∀ y ∈ iD l, Flat y := ⟨trivial, flat_iD⟩
theorem pu_i {m n : Int} : Pu 32 (D.int m) ∧ Pu 32 (D.int n) := ⟨by unfold Pu; trivial, by unfold Pu; trivial⟩
theorem pD_get {a : List P2} {i : Nat} {d : D} (h : (List.map pD a)[i]? = some d) : ∃ p, a[i]? = some p ∧ d = pD p := by
  rw [List.getElem?_map] at h
  cases e : a[i]? with
  | none => rw [e] at h; cases h
  | some p => rw [e] at h; cases h; exact ⟨p, rfl, rfl⟩
theorem norm_ok : ∀ {a : List P2}, Norm a → ∀ p ∈ a, okP p
  | [], _, p, h => absurd h List.not_mem_nil
  | x :: r, N, p, h => by
    rcases List.mem_cons.mp h with rfl | h
    · exact N.ok
    · exact norm_ok N.tail p h
theorem norm_gap : ∀ {a : List P2} {i : Nat} {p q : P2}, Norm a → a[i]? = some p → a[i + 1]? = some q → gap p q
  | [], _, _, _, _, h, _ => by cases h
  | [x], 0, _, _, _, _, h => by cases h
  | [x], i + 1, _, _, _, h, _ => by cases h
  | x :: y :: r, 0, _, _, N, h1, h2 => by cases h1; cases h2; exact N.2.1
  | x :: y :: r, i + 1, _, _, N, h1, h2 => norm_gap (a := y :: r) (i := i) N.2.2 h1 h2
theorem cut1 (ds : List D) : cutD ds (some 1) none = ds.drop 1 := by
  unfold cutD
  show (ds.drop (HT.sIx ds.length 0 (some 1))).take (ds.length - HT.sIx ds.length 0 (some 1)) = ds.drop 1
  cases ds with
  | nil => rfl
  | cons x r =>
    have e : HT.sIx (x :: r).length 0 (some 1) = 1 := by
      unfold HT.sIx
      simp
      try omega
    rw [e]
    show List.take _ r = r
    rw [List.take_of_length_le (by simp)]
theorem ints_get {lo : Int} {n i : Nat} {d : D} (h : (Y.intsFrom lo n)[i]? = some d) : i < n ∧ d = .int (lo + i) := by
  unfold Y.intsFrom at h
  rw [List.getElem?_map] at h
  by_cases hi : i < n
  · rw [List.getElem?_range hi] at h
    cases h; exact ⟨hi, rfl⟩
  · rw [List.getElem?_eq_none (by rw [List.length_range]; omega)] at h; cases h
theorem ints_len (lo : Int) (n : Nat) : (Y.intsFrom lo n).length = n := by unfold Y.intsFrom; rw [List.length_map, List.length_range]
theorem bound (l : List Int) : ∃ M : Int, ∀ y ∈ l, y < M := by
  induction l with
  | nil => exact ⟨0, fun y h => absurd h List.not_mem_nil⟩
  | cons a l ih =>
    obtain ⟨M, h⟩ := ih
    refine ⟨max M (a + 1), fun y hy => ?_⟩
    rcases List.mem_cons.mp hy with rfl | hy
    · omega
    · have := h y hy; omega
local macro_rules | `(tactic| walk_at $_:str) => `(tactic| (conv => whnf) <;> repeat' (first
  | (refine And.intro (fun (hc : (_ : Prop)) => ?_) (fun (hc : (_ : Prop)) => ?_) <;> first | exact (d_ni hc).elim | exact (d_nt hc).elim | exact (d_nl hc).elim | exact (d_tc hc).elim | exact (d_lc hc).elim | exact (d_ts hc).elim | exact (hc rfl).elim | (conv => whnf))
  | (refine And.intro (by first | exact dr_t rfl | with_reducible first | exact lz1 | exact lz2 | exact lz3 | exact lz0 | exact lq2 | exact lq1 | exact lq3 | exact lq5 | assumption | exact ⟨puL _, pu_nl⟩ | exact ⟨puT _, pu_nt⟩ | exact ⟨puT _, puT _⟩ | exact fl_i | exact pu_i | exact rfl) ?_ <;> (conv => whnf))
  | (rw [at_last]; conv => whnf) | (rw [ixn_last]; conv => whnf) | (rw [at_zero]; conv => whnf)))
def wBut : WD := fun ds q => ∃ (a : List P2) (seen : List Int), ds = [sD a, .lst (iD seen)] ∧ (∀ p ∈ a, okP p) ∧ seen.length ≤ 100 ∧ ((∀ n, mem n a = true → n ∈ seen) → q .non) ∧ ∀ v, mem v a = true → v ∉ seen → q (.int v)
def wIsNormal : WD := fun ds q => ∃ a : List P2, ds = [sD a] ∧ Norm a ∧ q (.bl true)
def wPairs : WD := fun ds q => ds = [] ∧ ∀ l : List P2, l.length ≤ 4 → (∀ p ∈ l, (∀ x, p.1 = some x → -4 ≤ x ∧ x ≤ 9) ∧ (∀ x, p.2 = some x → -5 ≤ x ∧ x ≤ 13)) → q (.lst (l.map pD))
/-- where the search of one interval stands -/
structure At (lo hi : Option Int) (seen : List Int) (x : Int) : Prop where
  l : ∀ l, lo = some l → l ≤ x
  h : ∀ h, hi = some h → x ≤ h
  s : ∀ l n, lo = some l → l ≤ n → n < x → n ∈ seen
  z : lo = none → x ∉ seen
def muBut (M : Int) (env : List Sl) : Nat := match env[4]? with | some (Sl.d (D.int x)) => (M - x).toNat | _ => 0
section
variable {P : Program} {w : World} {K : PySem.W.Frag} {mg : Str → Option Value} {base : Heap}
theorem sc_member_but : FnScope ["one", "seen", "low", "high", "number"] ["one", "seen"] (defScope smember_but) := ⟨rfl, rfl, rfl, by decide +kernel, rfl, by decide +kernel, by decide +kernel⟩
-- slots: 0 one, 1 seen, 2 low, 3 high, 4 number
theorem ok_member_but (T : Txt mg) (h0 : Here K mg "member_but" ["one", "seen"] smember_but)   : Df P w K mg base 1 "member_but" ["one", "seen"] wBut := by
  refine df_of h0 sc_member_but (fun ds q h => by obtain ⟨a, b, rfl, _⟩ := h; rfl) fun f cdv A outer s H E hr => ⟨_, _,
  (dss_cons (ds_for PassesOwn.never rfl (di_seq (de_var 0)) (dg_tupK (K := K) (n := 2) rfl (dgs_cons (dg_name (i := 2) sc_member_but.nd rfl (by first | exact Or.inl rfl | exact Or.inr rfl)) (dgs_cons (dg_name (i := 3) sc_member_but.nd rfl (by first | exact Or.inl rfl | exact Or.inr rfl)) dgs_nil))) (dss_cons (ds_set (i := 4) sc_member_but.nd rfl (by first | exact Or.inl rfl | exact Or.inr rfl) (de_ifE (dt_cmp op_notN so_notN (db_var 2) (DE.toB de_non) (nomark _)) (de_var 2) (de_op op_sub so_sub (DE.toB (de_cb (cr_minK1 (K := K) rfl) sc_min1 rfl T.min (by with_unfolding_all rfl) (dab_cons (DE.toB (DN.toE (dn_cat (DE.toB (DN.toE (dn_list rfl T.list (by with_unfolding_all rfl) (dab_cons (db_var 1) dab_nil)))) (DE.toB (DN.toE (dn_lst (da_cons (de_ifE (dt_cmp op_isN so_isN (db_var 3) (DE.toB de_non) (nomark _)) de_int (de_var 3)) da_nil))))))) dab_nil))) (DE.toB de_int))))
  (dss_cons (ds_while PassesOwn.never (DW.dt (dw_and (dt_cmp (op_inK (K := K)) so_in (db_var 4) (db_var 1) (by with_unfolding_all rfl)) (dw_and1 (DW.dt (dw_or (dt_cmp op_isN so_isN (db_var 3) (DE.toB de_non) (nomark _)) (dw_or1 (dt_cmp op_lt so_lt (db_var 4) (db_var 3) (nomark _)))))))) (dss_one (ds_set (i := 4) sc_member_but.nd rfl (by first | exact Or.inl rfl | exact Or.inr rfl) (de_op (op_addUK (K := K)) so_add (db_var 4) (DE.toB de_int)))))
  (dss_one (ds_if (dt_cmp (op_notInK (K := K)) so_notIn (db_var 4) (db_var 1) (by with_unfolding_all rfl)) (dss_one (ds_ret (de_var 4))) dss_nil)))))
  (dss_one (ds_ret de_non))), fun ds q h => ?_⟩
  obtain ⟨a, seen, rfl, hok, hl, h0, h1⟩ := h
  obtain ⟨M, hM⟩ := bound seen
  walk_at "x"
  refine g_for (fun i env => ∃ (pre post : List P2) (x2 x3 x4 : Sl), a = pre ++ post ∧ pre.length = i ∧ (∀ n, mem n pre = true → n ∈ seen) ∧ env = [.d (sD a), .d (.lst (iD seen)), x2, x3, x4]) ⟨[], a, _, _, _, rfl, rfl, fun n m => (by cases m), rfl⟩ ?_ ?_
  · rintro i d env' hd ⟨pre, post, x2, x3, x4, rfl, rfl, hm, rfl⟩
    obtain ⟨⟨lo, hi⟩, r, rfl, rfl⟩ := split_at hd
    have ho : okP (lo, hi) := hok _ (List.mem_append_right _ List.mem_cons_self)
    have cont : ∀ x, At lo hi seen x → D.int x ∈ iD seen → (∀ h, hi = some h → x < h) → At lo hi seen (x + 1) := fun x hx hs hh => ⟨fun l e => by have := hx.l l e; omega, fun h e => by have := hh h e; omega, fun l n e h1 h2 => by
      by_cases g : n < x
      · exact hx.s l n e h1 g
      · have : n = x := by omega
        subst this; exact mem_iD.mp hs, fun e => absurd (mem_iD.mp hs) (hx.z e)⟩
    have ret : ∀ x, At lo hi seen x → D.int x ∉ iD seen → q (.int x) := fun x hx hs => h1 x (by rw [mem_app, mem_cons, inB_mk (p := (lo, hi)) hx.l hx.h, Bool.true_or, Bool.or_true]) fun z => hs (mem_iD.mpr z)
    have nxt : ∀ x h, hi = some h → At lo hi seen x → D.int x ∈ iD seen → ¬ x < h → ∀ n, mem n (pre ++ [(lo, hi)]) = true → n ∈ seen := fun x h e hx hs hn n m => by
      rw [mem_app, mem_one, Bool.or_eq_true] at m
      rcases m with m | m
      · exact hm n m
      · have h1 := inB_hi m e
        have h2 := hx.h h e
        cases hlo : lo with
        | none => exact absurd (mem_iD.mp hs) (hx.z hlo)
        | some l =>
          have h3 := inB_lo m hlo
          by_cases g : n < x
          · exact hx.s l n hlo h3 g
          · have : n = x := by omega
            subst this; exact mem_iD.mp hs
    have mu : ∀ (x : Int) (a0 a1 a2 a3 b0 b1 b2 b3 : Sl), D.int x ∈ iD seen → muBut M [a0, a1, a2, a3, .d (.int (x + 1))] < muBut M [b0, b1, b2, b3, .d (.int x)] := fun x _ _ _ _ _ _ _ _ hs => by
      show (M - (x + 1)).toNat < (M - x).toNat
      have := hM x (mem_iD.mp hs)
      omega
    cases lo with
    | none =>
      cases hi with
      | none =>
      walk_at "x"
      refine ⟨by rw [show (iD seen).length = seen.length from List.length_map _]; exact Nat.le_trans (Nat.add_le_add_right hl 1) (by decide), ?_⟩
      dsimp only [wNil]
      rw [show iD seen ++ [D.int 0] = List.map D.int (seen ++ [0]) from by rw [List.map_append]; rfl]
      refine g_min1 (by rw [List.length_append]; exact Nat.succ_pos _) (fun m hm1 hm2 => ?_)
      walk_at "x"
      have hAt : At none none seen (m - 1) := ⟨fun l e => (by cases e), fun h e => (by cases e), fun l n e => (by cases e), fun _ z => by have := hm2 _ (List.mem_append_left _ z); omega⟩
      refine g_while (fun env => ∃ x, At none none seen x ∧ env = [.d (sD (pre ++ (none, none) :: r)), .d (.lst (iD seen)), .d (oD none), .d (oD none), .d (.int x)]) (muBut M) ⟨_, hAt, rfl⟩ ?_
      rintro env' ⟨x, hx, rfl⟩
      walk_at "x"
      all_goals first
        | exact absurd ‹D.int x ∈ iD seen› ‹D.int x ∉ iD seen›
        | exact ret x hx ‹D.int x ∉ iD seen›
        | exact ⟨⟨x + 1, cont x hx ‹D.int x ∈ iD seen› (by intro h e; cases e <;> assumption), rfl⟩, mu x _ _ _ _ _ _ _ _ ‹D.int x ∈ iD seen›⟩
        | exact ⟨pre ++ [_], r, _, _, _, by rw [List.append_assoc]; rfl, by rw [List.length_append]; rfl, nxt x _ rfl hx ‹D.int x ∈ iD seen› ‹¬ x < _›, rfl⟩
      | some hv =>
      walk_at "x"
      refine ⟨by rw [show (iD seen).length = seen.length from List.length_map _]; exact Nat.le_trans (Nat.add_le_add_right hl 1) (by decide), ?_⟩
      dsimp only [wNil]
      rw [show iD seen ++ [oD (some hv)] = List.map D.int (seen ++ [hv]) from by rw [List.map_append]; rfl]
      refine g_min1 (by rw [List.length_append]; exact Nat.succ_pos _) (fun m hm1 hm2 => ?_)
      walk_at "x"
      have hAt : At none (some hv) seen (m - 1) := ⟨fun l e => (by cases e), fun h e => by cases e; have := hm2 hv (List.mem_append_right _ (List.mem_singleton.mpr rfl)); omega, fun l n e => (by cases e), fun _ z => by have := hm2 _ (List.mem_append_left _ z); omega⟩
      refine g_while (fun env => ∃ x, At none (some hv) seen x ∧ env = [.d (sD (pre ++ (none, (some hv)) :: r)), .d (.lst (iD seen)), .d (oD none), .d (oD (some hv)), .d (.int x)]) (muBut M) ⟨_, hAt, rfl⟩ ?_
      rintro env' ⟨x, hx, rfl⟩
      walk_at "x"
      all_goals first
        | exact absurd ‹D.int x ∈ iD seen› ‹D.int x ∉ iD seen›
        | exact ret x hx ‹D.int x ∉ iD seen›
        | exact ⟨⟨x + 1, cont x hx ‹D.int x ∈ iD seen› (by intro h e; cases e <;> assumption), rfl⟩, mu x _ _ _ _ _ _ _ _ ‹D.int x ∈ iD seen›⟩
        | exact ⟨pre ++ [_], r, _, _, _, by rw [List.append_assoc]; rfl, by rw [List.length_append]; rfl, nxt x _ rfl hx ‹D.int x ∈ iD seen› ‹¬ x < _›, rfl⟩
    | some lv =>
      cases hi with
      | none =>
      walk_at "x"
      have hAt : At (some lv) none seen lv := ⟨fun l e => by cases e; exact Int.le_refl _, fun h e => (by cases e), fun l n e h1 h2 => by cases e; omega, fun e => (by cases e)⟩
      refine g_while (fun env => ∃ x, At (some lv) none seen x ∧ env = [.d (sD (pre ++ ((some lv), none) :: r)), .d (.lst (iD seen)), .d (oD (some lv)), .d (oD none), .d (.int x)]) (muBut M) ⟨_, hAt, rfl⟩ ?_
      rintro env' ⟨x, hx, rfl⟩
      walk_at "x"
      all_goals first
        | exact absurd ‹D.int x ∈ iD seen› ‹D.int x ∉ iD seen›
        | exact ret x hx ‹D.int x ∉ iD seen›
        | exact ⟨⟨x + 1, cont x hx ‹D.int x ∈ iD seen› (by intro h e; cases e <;> assumption), rfl⟩, mu x _ _ _ _ _ _ _ _ ‹D.int x ∈ iD seen›⟩
        | exact ⟨pre ++ [_], r, _, _, _, by rw [List.append_assoc]; rfl, by rw [List.length_append]; rfl, nxt x _ rfl hx ‹D.int x ∈ iD seen› ‹¬ x < _›, rfl⟩
      | some hv =>
      walk_at "x"
      have hAt : At (some lv) (some hv) seen lv := ⟨fun l e => by cases e; exact Int.le_refl _, fun h e => by cases e; exact ho lv hv rfl rfl, fun l n e h1 h2 => by cases e; omega, fun e => (by cases e)⟩
      refine g_while (fun env => ∃ x, At (some lv) (some hv) seen x ∧ env = [.d (sD (pre ++ ((some lv), (some hv)) :: r)), .d (.lst (iD seen)), .d (oD (some lv)), .d (oD (some hv)), .d (.int x)]) (muBut M) ⟨_, hAt, rfl⟩ ?_
      rintro env' ⟨x, hx, rfl⟩
      walk_at "x"
      all_goals first
        | exact absurd ‹D.int x ∈ iD seen› ‹D.int x ∉ iD seen›
        | exact ret x hx ‹D.int x ∉ iD seen›
        | exact ⟨⟨x + 1, cont x hx ‹D.int x ∈ iD seen› (by intro h e; cases e <;> assumption), rfl⟩, mu x _ _ _ _ _ _ _ _ ‹D.int x ∈ iD seen›⟩
        | exact ⟨pre ++ [_], r, _, _, _, by rw [List.append_assoc]; rfl, by rw [List.length_append]; rfl, nxt x _ rfl hx ‹D.int x ∈ iD seen› ‹¬ x < _›, rfl⟩
  · rintro env' ⟨pre, post, x2, x3, x4, rfl, hp2, hm, rfl⟩
    have : post = [] := by
      rw [List.length_map, List.length_append] at hp2
      cases post with
      | nil => rfl
      | cons x r => simp at hp2
    subst this
    rw [List.append_nil] at *
    walk_at "x"
    exact h0 hm
theorem sc_law_is_normal : FnScope ["_law_one", "_law_low", "_law_high", "_law_start", "_law_end"] ["_law_one"] (defScope sL_is_normal) := ⟨rfl, rfl, rfl, by decide +kernel, rfl, by decide +kernel, by decide +kernel⟩
-- slots: 0 _law_one, 1 _law_low, 2 _law_high, 3 _law_start, 4 _law_end
theorem ok_law_is_normal (T : Txt mg) (h0 : Here K mg "_law_is_normal" ["_law_one"] sL_is_normal)   : Df P w K mg base 1 "_law_is_normal" ["_law_one"] wIsNormal := by
  refine df_of h0 sc_law_is_normal (fun ds q h => by obtain ⟨a, rfl, _⟩ := h; rfl) fun f cdv A outer s H E hr => ⟨_, _,
  (dss_cons (ds_for PassesOwn.never rfl (di_seq (de_var 0)) (dg_tupK (K := K) (n := 2) rfl (dgs_cons (dg_name (i := 1) sc_law_is_normal.nd rfl (by first | exact Or.inl rfl | exact Or.inr rfl)) (dgs_cons (dg_name (i := 2) sc_law_is_normal.nd rfl (by first | exact Or.inl rfl | exact Or.inr rfl)) dgs_nil))) (dss_one (ds_if (DW.dt (dw_and (dt_cmp op_notN so_notN (db_var 1) (DE.toB de_non) (nomark _)) (dw_and (dt_cmp op_notN so_notN (db_var 2) (DE.toB de_non) (nomark _)) (dw_and1 (dt_cmp op_gt so_gt (db_var 1) (db_var 2) (nomark _)))))) (dss_one (ds_ret de_bl)) dss_nil)))
  (dss_cons (ds_for PassesOwn.never rfl (di_zip rfl T.zip (da_cons (de_var 0) (da_cons (de_sliceK (K := K) (db_var 0) (do_some de_int) do_none) da_nil))) (dg_tupK (K := K) (n := 2) rfl (dgs_cons (dg_tupK (K := K) (n := 2) rfl (dgs_cons (dg_name (i := 1) sc_law_is_normal.nd rfl (by first | exact Or.inl rfl | exact Or.inr rfl)) (dgs_cons (dg_name (i := 2) sc_law_is_normal.nd rfl (by first | exact Or.inl rfl | exact Or.inr rfl)) dgs_nil))) (dgs_cons (dg_tupK (K := K) (n := 2) rfl (dgs_cons (dg_name (i := 3) sc_law_is_normal.nd rfl (by first | exact Or.inl rfl | exact Or.inr rfl)) (dgs_cons (dg_name (i := 4) sc_law_is_normal.nd rfl (by first | exact Or.inl rfl | exact Or.inr rfl)) dgs_nil))) dgs_nil))) (dss_one (ds_if (DW.dt (dw_or (dt_cmp op_isN so_isN (db_var 2) (DE.toB de_non) (nomark _)) (dw_or (dt_cmp op_isN so_isN (db_var 3) (DE.toB de_non) (nomark _)) (dw_or1 (dt_cmp op_le so_le (db_var 3) (DE.toB (de_op (op_addUK (K := K)) so_add (db_var 2) (DE.toB de_int))) (nomark _)))))) (dss_one (ds_ret de_bl)) dss_nil)))
  (dss_one (ds_ret de_bl)))), fun ds q h => ?_⟩
  obtain ⟨a, rfl, na, hq⟩ := h
  walk_at "x"
  refine g_for (fun i env => ∃ x1 x2 x3 x4 : Sl, env = [.d (sD a), x1, x2, x3, x4]) ⟨_, _, _, _, rfl⟩ ?_ ?_
  · rintro i d env' hd ⟨x1, x2, x3, x4, rfl⟩
    obtain ⟨⟨lo, hi⟩, hp, rfl⟩ := pD_get hd
    have ho := norm_ok na _ (List.mem_of_getElem? hp)
    cases lo <;> cases hi <;> walk_at "x"
    all_goals first
      | exact ⟨_, _, _, _, rfl⟩
      | (have := ho _ _ rfl rfl; omega)
  · rintro env' ⟨x1, x2, x3, x4, rfl⟩
    walk_at "x"
    rw [cut1]
    refine g_for (fun i env => ∃ x1 x2 x3 x4 : Sl, env = [.d (sD a), x1, x2, x3, x4]) ⟨_, _, _, _, rfl⟩ ?_ ?_
    · rintro i d env' hd ⟨x1, x2, x3, x4, rfl⟩
      obtain ⟨x, y, hx, hy, rfl⟩ := zipD_get hd
      obtain ⟨⟨lo, hi⟩, hp, rfl⟩ := pD_get hx
      rw [List.getElem?_drop, Nat.add_comm] at hy
      obtain ⟨⟨lo2, hi2⟩, hp2, rfl⟩ := pD_get hy
      obtain ⟨h, l, e1, e2, g⟩ := norm_gap na hp hp2
      cases e1
      cases e2
      walk_at "x"
      all_goals first
        | exact ⟨_, _, _, _, rfl⟩
        | omega
    · rintro env' ⟨x1, x2, x3, x4, rfl⟩
      walk_at "x"
      exact hq
theorem sc_law_pairs : FnScope ["_law_draw", "_law_found", "_law_turn", "_law_low", "_law_high", "_law_kind_here"] ["_law_draw"] (defScope sL_pairs) := ⟨rfl, rfl, rfl, by decide +kernel, rfl, by decide +kernel, by decide +kernel⟩
-- slots: 0 _law_draw, 1 _law_found, 2 _law_turn, 3 _law_low, 4 _law_high, 5 _law_kind_here
theorem ok_law_pairs (T : Txt mg) (h0 : Here K mg "_law_pairs" ["_law_draw"] sL_pairs)  (F_law_take : Dr P w K mg base 2 "_law_take" ["_law_draw", "_law_many"] wTake) : Dr P w K mg base 3 "_law_pairs" ["_law_draw"] wPairs := by
  refine dr_of h0 sc_law_pairs (fun ds q h => by obtain ⟨rfl, _⟩ := h; rfl) fun f cdv A outer s H E hr => ⟨_, _,
  (dss_cons (ds_setN (i := 1) sc_law_pairs.nd rfl (by first | exact Or.inl rfl | exact Or.inr rfl) (dn_lst da_nil))
  (dss_cons (ds_for PassesOwn.never rfl (di_range1 rfl T.range (da_cons (de_clRK (K := K) 0 F_law_take (hr.mono (by omega)) rfl (pe_var rfl (by first | exact Or.inl rfl | exact Or.inr (Or.inl rfl) | exact Or.inr (Or.inr rfl)) (by decide) (by decide)) (da_cons de_int da_nil)) da_nil)) (dg_name (i := 2) sc_law_pairs.nd rfl (by first | exact Or.inl rfl | exact Or.inr rfl)) (dss_cons (ds_set (i := 3) sc_law_pairs.nd rfl (by first | exact Or.inl rfl | exact Or.inr rfl) (de_op op_sub so_sub (DE.toB (de_clRK (K := K) 0 F_law_take (hr.mono (by omega)) rfl (pe_var rfl (by first | exact Or.inl rfl | exact Or.inr (Or.inl rfl) | exact Or.inr (Or.inr rfl)) (by decide) (by decide)) (da_cons de_int da_nil))) (DE.toB de_int)))
  (dss_cons (ds_set (i := 4) sc_law_pairs.nd rfl (by first | exact Or.inl rfl | exact Or.inr rfl) (de_op op_sub so_sub (DE.toB (de_op (op_addUK (K := K)) so_add (db_var 3) (DE.toB (de_clRK (K := K) 0 F_law_take (hr.mono (by omega)) rfl (pe_var rfl (by first | exact Or.inl rfl | exact Or.inr (Or.inl rfl) | exact Or.inr (Or.inr rfl)) (by decide) (by decide)) (da_cons de_int da_nil))))) (DE.toB de_int)))
  (dss_cons (ds_set (i := 5) sc_law_pairs.nd rfl (by first | exact Or.inl rfl | exact Or.inr rfl) (de_clRK (K := K) 0 F_law_take (hr.mono (by omega)) rfl (pe_var rfl (by first | exact Or.inl rfl | exact Or.inr (Or.inl rfl) | exact Or.inr (Or.inr rfl)) (by decide) (by decide)) (da_cons de_int da_nil)))
  (dss_one (ds_append 1 (pe_var rfl (by first | exact Or.inl rfl | exact Or.inr (Or.inl rfl) | exact Or.inr (Or.inr rfl)) (by decide) (by decide)) (de_tup (da_cons (de_ifE (dt_cmp (op_eqDK (K := K) hr.units) so_eqU (db_var 5) (DE.toB de_int) (nomark _)) de_non (de_var 3)) (da_cons (de_ifE (dt_cmp (op_eqDK (K := K) hr.units) so_eqU (db_var 5) (DE.toB de_int) (nomark _)) de_non (de_var 4)) da_nil)))))))))
  (dss_one (ds_retO 1)))), fun ds q h => ?_⟩
  obtain ⟨rfl, hq⟩ := h
  walk_at "x"
  refine ⟨_, rfl, by decide, fun v h0 h1 => ?_⟩
  walk_at "x"
  refine ⟨⟨by omega, by omega⟩, ?_⟩
  have hv : v.toNat ≤ 4 := by omega
  refine g_for (fun i env => ∃ (l : List P2) (x2 x3 x4 x5 : Sl), l.length = i ∧ (∀ p ∈ l, (∀ x, p.1 = some x → -4 ≤ x ∧ x ≤ 9) ∧ (∀ x, p.2 = some x → -5 ≤ x ∧ x ≤ 13)) ∧ env = [.dr, .ol (l.map pD), x2, x3, x4, x5]) ⟨[], _, _, _, _, rfl, fun p hp => absurd hp List.not_mem_nil, rfl⟩ ?_ ?_
  · rintro i d env' hd ⟨l, x2, x3, x4, x5, hl, hb, rfl⟩
    obtain ⟨hi, rfl⟩ := ints_get hd
    have hacc : (List.map pD l).length < sizeLine := len_lt (n := 90) (by omega) (by decide)
    have add : ∀ (p : P2), ((∀ x, p.1 = some x → -4 ≤ x ∧ x ≤ 9) ∧ (∀ x, p.2 = some x → -5 ≤ x ∧ x ≤ 13)) → ∀ env : List Sl, (∃ x2 x3 x4 x5 : Sl, env = [.dr, .ol (l.map pD ++ [pD p]), x2, x3, x4, x5]) → ∃ (l : List P2) (x2 x3 x4 x5 : Sl), l.length = i + 1 ∧ (∀ p ∈ l, (∀ x, p.1 = some x → -4 ≤ x ∧ x ≤ 9) ∧ (∀ x, p.2 = some x → -5 ≤ x ∧ x ≤ 13)) ∧ env = [.dr, .ol (l.map pD), x2, x3, x4, x5] := fun p hp env ⟨x2, x3, x4, x5, e⟩ =>
      ⟨l ++ [p], x2, x3, x4, x5, by rw [List.length_append, hl]; rfl, fun z hz => by
        rcases List.mem_append.mp hz with hz | hz
        · exact hb z hz
        · rw [List.mem_singleton.mp hz]; exact hp, by rw [e, map_snoc]⟩
    walk_at "x"
    refine ⟨_, rfl, by decide, fun v1 a0 a1 => ?_⟩
    walk_at "x"
    refine ⟨_, rfl, by decide, fun v2 b0 b1 => ?_⟩
    walk_at "x"
    refine ⟨_, rfl, by decide, fun v3 c0 c1 => ?_⟩
    walk_at "x"
    all_goals first
      | exact absurd ((D.int.inj ‹D.int v3 = D.int 0›).symm.trans (D.int.inj ‹D.int v3 = D.int 1›)) (by decide)
      | exact add (none, some _) ⟨fun x e => (by cases e), fun x e => by cases e; constructor <;> omega⟩ _ ⟨_, _, _, _, rfl⟩
      | exact add (some _, none) ⟨fun x e => by cases e; constructor <;> omega, fun x e => (by cases e)⟩ _ ⟨_, _, _, _, rfl⟩
      | exact add (some _, some _) ⟨fun x e => by cases e; constructor <;> omega, fun x e => by cases e; constructor <;> omega⟩ _ ⟨_, _, _, _, rfl⟩
  · rintro env' ⟨l, x2, x3, x4, x5, hl, hb, rfl⟩
    rw [ints_len] at hl
    walk_at "x"
    exact hq l (by omega) hb
end
end S55

namespace S55
open PySem L2 Y
def rng : List Int := (List.range 100).map fun i : Nat => (-40 : Int) + i
def ins (a : List P2) : List Int := rng.filter fun n => mem n a
theorem mem_rng {n : Int} : n ∈ rng ↔ -40 ≤ n ∧ n < 60 := by
  unfold rng
  rw [List.mem_map]
  constructor
  · rintro ⟨i, hi, rfl⟩
    have := List.mem_range.mp hi
    omega
  · rintro ⟨h1, h2⟩
    exact ⟨(n + 40).toNat, List.mem_range.mpr (by omega), by omega⟩
theorem mem_ins {a : List P2} {n : Int} : n ∈ ins a ↔ (-40 ≤ n ∧ n < 60) ∧ mem n a = true := by
  unfold ins
  rw [List.mem_filter, mem_rng]
theorem rng_lt : rng.Pairwise (· < ·) := by
  unfold rng
  rw [List.pairwise_map]
  exact (List.pairwise_lt_range (n := 100)).imp fun {x y} h => by
    show (-40 : Int) + (x : Int) < -40 + (y : Int)
    omega
theorem ins_lt (a : List P2) : (ins a).Pairwise (· < ·) := rng_lt.filter _
theorem cnt_int (A l h : Int) (hl : l ≤ h + 1) : ∀ N : Nat, ((((List.range N).map fun i : Nat => A + (i : Int)).countP fun n => decide (l ≤ n) && decide (n ≤ h)) : Nat) = (min (h + 1) (A + N) - max l A).toNat
  | 0 => by
    show 0 = _
    omega
  | N + 1 => by
    rw [List.range_succ, List.map_append, List.countP_append, cnt_int A l h hl N]
    show _ + (List.countP _ [A + (N : Int)]) = _
    rw [List.countP_cons, List.countP_nil]
    by_cases h1 : l ≤ A + N
    · by_cases h2 : A + N ≤ h
      · simp only [decide_eq_true h1, decide_eq_true h2, Bool.and_self, if_true]
        omega
      · simp only [decide_eq_false h2, Bool.and_false, Bool.false_eq_true, if_false]
        omega
    · simp only [decide_eq_false h1, Bool.false_and, Bool.false_eq_true, if_false]
      omega
theorem countP_or {f g : Int → Bool} : ∀ L : List Int, (∀ x, f x = true → g x = false) → L.countP (fun x => f x || g x) = L.countP f + L.countP g
  | [], _ => rfl
  | x :: L, h => by
    rw [List.countP_cons, List.countP_cons, List.countP_cons, countP_or L h]
    cases hf : f x with
    | true => rw [h x hf]; simp; omega
    | false => cases hg : g x <;> simp <;> omega
theorem isOpen_cons {p : P2} {r : List P2} (h : isOpen (p :: r) = false) : (∃ l x, p = (some l, some x)) ∧ isOpen r = false := by
  unfold isOpen at h ⊢
  rw [List.any_cons, Bool.or_eq_false_iff] at h
  refine ⟨?_, h.2⟩
  obtain ⟨lo', hi'⟩ := p
  cases lo' with
  | none => simp at h
  | some l =>
    cases hi' with
    | none => simp at h
    | some x => exact ⟨l, x, rfl⟩
theorem ins_len : ∀ {a : List P2}, Norm a → isOpen a = false → (∀ n, mem n a = true → -40 ≤ n ∧ n < 60) → ((ins a).length : Int) = count a
  | [], _, _, _ => by
    have : ins [] = [] := by unfold ins; exact List.filter_eq_nil_iff.mpr fun x _ => by simp [mem_nil]
    rw [this]; rfl
  | p :: r, N, ho, hb => by
    obtain ⟨⟨l, x, rfl⟩, ho'⟩ := isOpen_cons ho
    have hlx : l ≤ x := N.ok l x rfl rfl
    have ih := ins_len N.tail ho' (fun n m => hb n (by rw [mem_cons, m, Bool.or_true]))
    have hl := hb l (N.low_mem rfl)
    have hx := hb x (mem_head (inB_mk (fun l' e => by cases e; exact hlx) fun h e => by cases e; exact Int.le_refl _))
    have e1 : (ins ((some l, some x) :: r)).length = rng.countP (fun n => inB (some l, some x) n) + (ins r).length := by
      unfold ins
      rw [← List.countP_eq_length_filter, ← List.countP_eq_length_filter]
      show rng.countP (fun n => inB (some l, some x) n || mem n r) = _
      refine countP_or _ fun n hn => Bool.eq_false_iff.mpr fun z => ?_
      have := N.above rfl z
      have := inB_hi hn rfl
      omega
    have e2 : rng.countP (fun n => inB (some l, some x) n) = (x - l + 1).toNat := by
      have := cnt_int (-40) l x (by omega) 100
      refine Eq.trans ?_ (this.trans (by omega))
      rfl
    have e3 : count ((some l, some x) :: r) = (x - l + 1) + count r := by unfold count; rw [List.map_cons, List.sum_cons]; rfl
    rw [e1, e2, e3, ← ih]
    omega
theorem norm_hi : ∀ (b : List P2) {q : P2} {h n : Int}, Norm (b ++ [q]) → q.2 = some h → mem n (b ++ [q]) = true → n ≤ h
  | [], q, h, n, _, e, m => by rw [List.nil_append, mem_one] at m; exact inB_hi m e
  | p :: b, q, h, n, N, e, m => by
    rw [List.cons_append, mem_cons, Bool.or_eq_true] at m
    have N' : Norm (b ++ [q]) := N.tail
    rcases m with m | m
    · cases hp : p.2 with
      | none => have := Norm.last (p := p) (r := b ++ [q]) N hp; simp at this
      | some h' =>
        have h1 := inB_hi m hp
        obtain ⟨z, mz⟩ : ∃ z, mem z (b ++ [q]) = true := by
          cases b with
          | nil => exact Norm.wit (p := q) (r := []) N'
          | cons c b => exact Norm.wit (p := c) (r := b ++ [q]) N'
        have h2 := Norm.above (p := p) (r := b ++ [q]) N hp mz
        have h3 := norm_hi b N' e mz
        omega
    · exact norm_hi b N' e m
theorem bounded {a l : List P2} (N : Norm a) (ho : isOpen a = false) (hm : ∀ n, mem n a = mem n l) (hb : ∀ p ∈ l, (∀ x, p.1 = some x → -4 ≤ x ∧ x ≤ 9) ∧ (∀ x, p.2 = some x → -5 ≤ x ∧ x ≤ 13)) : ∀ n, mem n a = true → -40 ≤ n ∧ n < 60 := by
  intro n mn
  have mn0 := mn
  rw [hm] at mn
  obtain ⟨p, hp, hin⟩ := List.any_eq_true.mp mn
  have up : ∀ m, inB p m = true → mem m a = true := fun m h => by rw [hm]; exact List.any_eq_true.mpr ⟨p, hp, h⟩
  obtain ⟨h1, h2⟩ := hb p hp
  have hlo : ∃ x, p.1 = some x := by
    cases e : p.1 with
    | some x => exact ⟨x, rfl⟩
    | none =>
      cases a with
      | nil => cases mn0
      | cons c r =>
        obtain ⟨⟨l', x', rfl⟩, _⟩ := isOpen_cons ho
        have := N.low (l := l') rfl (up (min n (l' - 1)) (inB_mk (fun y z => by rw [e] at z; cases z) fun y z => by have := inB_hi hin z; omega))
        omega
  have hhi : ∃ x, p.2 = some x := by
    cases e : p.2 with
    | some x => exact ⟨x, rfl⟩
    | none =>
      rcases List.eq_nil_or_concat a with rfl | ⟨b, c, rfl⟩
      · cases mn0
      · rw [List.concat_eq_append] at *
        have hc : ∃ l' x', c = (some l', some x') := by
          unfold isOpen at ho
          rw [List.any_eq_false] at ho
          have := ho c (List.mem_append_right _ (List.mem_singleton.mpr rfl))
          obtain ⟨lo, hi⟩ := c
          cases lo <;> cases hi <;> simp at this
          exact ⟨_, _, rfl⟩
        obtain ⟨l', x', rfl⟩ := hc
        have := norm_hi b (h := x') N rfl (up (max n (x' + 1)) (inB_mk (fun y z => by have := inB_lo hin z; omega) fun y z => by rw [e] at z; cases z))
        omega
  obtain ⟨x, ex⟩ := hlo
  obtain ⟨y, ey⟩ := hhi
  have a1 := inB_lo hin ex
  have a2 := inB_hi hin ey
  have a3 := h1 x ex
  have a4 := h2 y ey
  omega
theorem ins_ends {p : P2} {r : List P2} (N : Norm (p :: r)) (ho : isOpen (p :: r) = false) (hb : ∀ n, mem n (p :: r) = true → -40 ≤ n ∧ n < 60) : ∃ l h : Int, loOf (p :: r) = some l ∧ hiOf (p :: r) = some h ∧ (ins (p :: r)).head? = some l ∧ (ins (p :: r)).getLast? = some h := by
  obtain ⟨b, q, e⟩ : ∃ b q, p :: r = b ++ [q] := by
    rcases List.eq_nil_or_concat (p :: r) with z | ⟨b, q, z⟩
    · cases z
    · exact ⟨b, q, by rw [z, List.concat_eq_append]⟩
  have hq : ∃ l' x', q = (some l', some x') := by
    have ho2 := ho
    unfold isOpen at ho2
    rw [List.any_eq_false] at ho2
    have := ho2 q (by rw [e]; exact List.mem_append_right _ (List.mem_singleton.mpr rfl))
    obtain ⟨lo, hi⟩ := q
    cases lo <;> cases hi <;> simp at this
    exact ⟨_, _, rfl⟩
  obtain ⟨l', x', rfl⟩ := hq
  obtain ⟨⟨l, x, rfl⟩, _⟩ := isOpen_cons ho
  have mlo : l ∈ ins ((some l, some x) :: r) := mem_ins.mpr ⟨hb l (N.low_mem rfl), N.low_mem rfl⟩
  have mh : mem x' ((some l, some x) :: r) = true := by
    rw [e, mem_app, mem_one]
    have := norm_last b (e ▸ N) l' x' rfl rfl
    rw [inB_mk (p := (some l', some x')) (fun y z => by cases z; exact this) (fun y z => by cases z; exact Int.le_refl _), Bool.or_true]
  have mhi : x' ∈ ins ((some l, some x) :: r) := mem_ins.mpr ⟨hb x' mh, mh⟩
  have srt := ins_lt ((some l, some x) :: r)
  refine ⟨l, x', rfl, ?_, ?_, ?_⟩
  · unfold hiOf; rw [e, List.getLast?_append]; rfl
  · cases hz : ins ((some l, some x) :: r) with
    | nil => rw [hz] at mlo; cases mlo
    | cons y t =>
      rw [hz] at mlo srt
      have my : mem y ((some l, some x) :: r) = true := (mem_ins.mp (by rw [hz]; exact List.mem_cons_self)).2
      have h1 := N.low (l := l) rfl my
      rcases List.mem_cons.mp mlo with h2 | h2
      · show some y = some l; rw [h2]
      · have := (List.pairwise_cons.mp srt).1 l h2
        omega
  · rcases List.eq_nil_or_concat (ins ((some l, some x) :: r)) with z | ⟨t, y, z⟩
    · rw [z] at mhi; cases mhi
    · rw [List.concat_eq_append] at z
      rw [z] at mhi srt ⊢
      have my : mem y ((some l, some x) :: r) = true := (mem_ins.mp (by rw [z]; exact List.mem_append_right _ (List.mem_singleton.mpr rfl))).2
      have h1 : y ≤ x' := by rw [e] at my; exact norm_hi b (e ▸ N) rfl my
      rcases List.mem_append.mp mhi with h2 | h2
      · have := (List.pairwise_append.mp srt).2.2 x' h2 y (List.mem_singleton.mpr rfl)
        omega
      · rw [List.getLast?_append, List.mem_singleton.mp h2]; rfl
theorem smem_mem {p : P2} {r : List P2} (N : Norm (p :: r)) : mem (smem p) (p :: r) = true := by
  have ok := N.ok
  obtain ⟨lo, hi⟩ := p
  refine mem_head (inB_mk (fun l e => ?_) fun h e => ?_) <;> cases lo <;> cases hi <;> simp [smem] at e ⊢ <;> try omega
  all_goals (subst e; first | exact Int.le_refl _ | exact ok _ _ rfl rfl)
theorem iD_at0 {l : List Int} {x : Int} (h : l.head? = some x) : atI (iD l) 0 = some (.int x) := by
  cases l with
  | nil => cases h
  | cons y t =>
    cases h
    unfold atI
    have e : ixN (iD (x :: t)).length 0 = some 0 := by
      unfold ixN iD
      simp
    rw [e]; rfl
theorem iD_last {l : List Int} {x : Int} (h : l.getLast? = some x) : atI (iD l) (-1) = some (.int x) := by
  rcases List.eq_nil_or_concat l with rfl | ⟨t, y, rfl⟩
  · cases h
  · rw [List.concat_eq_append] at *
    have e0 : y = x := by rw [List.getLast?_append] at h; simpa using h
    subst e0
    unfold atI
    have e : ixN (iD (t ++ [y])).length (-1) = some t.length := by unfold iD; rw [List.length_map, List.length_append]; exact ixn_snoc _
    rw [e]
    show (iD (t ++ [y]))[t.length]? = _
    unfold iD
    rw [List.map_append, List.getElem?_append_right (by rw [List.length_map]; exact Nat.le_refl _), List.length_map, Nat.sub_self]; rfl
end S55

namespace S55
open PySem L2 Y
abbrev NL : List Str := ["_law_script", "_law_draw", "_law_turn", "_law_pairs_here", "_law_more", "_law_one", "_law_other", "_law_number_here", "_law_mine", "_law_theirs", "_law_inside", "_law_seen", "_law_free", "_law_again"]
theorem sc_law : FnScope NL ["_law_script"] (defScope slaw) := ⟨rfl, rfl, rfl, by decide +kernel, rfl, by decide +kernel, by decide +kernel⟩
-- slots 0 _law_script, 1 _law_draw, 2 _law_turn, 3 _law_pairs_here, 4 _law_more, 5 _law_one, 6 _law_other, 7 _law_number_here, 8 _law_mine, 9 _law_theirs, 10 _law_inside, 11 _law_seen, 12 _law_free, 13 _law_again
local macro_rules | `(tactic| walk_at $_:str) => `(tactic| (conv => whnf) <;> repeat' (first
  | (refine And.intro (fun (hc : (_ : Prop)) => ?_) (fun (hc : (_ : Prop)) => ?_) <;> first | exact (d_ni hc).elim | exact (d_nt hc).elim | exact (d_nl hc).elim | exact (d_tc hc).elim | exact (d_lc hc).elim | exact (d_ts hc).elim | exact (hc rfl).elim | (conv => whnf))
  | (refine And.intro (by first | exact dr_t rfl | with_reducible first | exact lz1 | exact lz2 | exact lz3 | exact lz0 | exact lq2 | exact lq1 | exact lq3 | exact lq5 | assumption | exact ⟨puL _, pu_nl⟩ | exact ⟨puT _, pu_nt⟩ | exact ⟨puT _, puT _⟩ | exact fl_i | exact pu_i | exact rfl) ?_ <;> (conv => whnf))
  | (rw [at_last]; conv => whnf) | (rw [ixn_last]; conv => whnf) | (rw [at_zero]; conv => whnf)))

def unI (d : D) : Int := match d with | .int i => i | _ => 0
theorem ins_eq {a : List P2} : List.map (fun d : D => d) ((Y.intsFrom (-40) (60 - -40 : Int).toNat).filter fun d => mem (unI d) a) = iD (ins a) := by
  rw [List.map_id' , show Y.intsFrom (-40) (60 - -40 : Int).toNat = iD rng from by unfold Y.intsFrom iD rng; rw [List.map_map]; rfl]
  unfold iD ins
  rw [List.filter_map]
  rfl
section
variable {P : Program} {w : World} {K : PySem.W.Frag} {mg : Str → Option Value} {base : Heap}
theorem law_rest (T : Txt mg) {aE : Addr} (mg_EV : mg "EVERYTHING" = some (.ref aE)) (rd_EV : ∀ G, R K G (sD [(none, none)]) (.ref aE)) (F_law_take : Dr P w K mg base 2 "_law_take" ["_law_draw", "_law_many"] wTake) (F_law_pairs : Dr P w K mg base 3 "_law_pairs" ["_law_draw"] wPairs) (F_normal : Df P w K mg base 1 "normal" ["pairs"] wNormal) (F_law_is_normal : Df P w K mg base 1 "_law_is_normal" ["_law_one"] wIsNormal) (F_others : Df P w K mg base 2 "others" ["one"] wOthers) (F_law_in : Df P w K mg base 1 "_law_in" ["_law_pairs_here", "_law_number_here"] wIn) (F_has : Df P w K mg base 1 "has" ["one", "number"] wHas) (F_union : Df P w K mg base 2 "union" ["one", "other"] wUnion) (F_meet : Df P w K mg base 3 "meet" ["one", "other"] wMeet) (F_how_many : Df P w K mg base 1 "how_many" ["one"] wMany) (F_least : Df P w K mg base 1 "least" ["one"] wLeast) (F_greatest : Df P w K mg base 1 "greatest" ["one"] wGreatest) (F_some_member : Df P w K mg base 1 "some_member" ["one"] wSome) (F_member_but : Df P w K mg base 1 "member_but" ["one", "seen"] wBut) {f : Addr} {cdv : Value} {A : Around} {outer : List Env} {s : Shared} {H : Hp} {E : XK} (hr : Room 3 (A.deeper (PyProof.Rows.envOfC "law" (defScope slaw) s.heap.objs.size f cdv))) :
  ∃ t wS, DSs (cxOf CX0 P w K mg base NL "law" (defScope slaw) f cdv A outer s H E).nox ((defBody slaw).drop 1) t wS ∧ wS (.no :: .dr :: List.replicate 12 .no) { nx := fun _ => False, rt := fun d => d = .bl true } := by
  refine ⟨_, _,
  (dss_cons (ds_for PassesOwn.never rfl (di_range1 rfl T.range (da_cons de_int da_nil)) (dg_name (i := 2) sc_law.nd rfl (by first | exact Or.inl rfl | exact Or.inr rfl)) (dss_cons (ds_par (i := 3) (j := 4) rfl sc_law.nd rfl rfl (by decide) rfl rfl (da_cons (de_clRK (K := K) 1 F_law_pairs (hr.mono (by omega)) rfl (pe_var rfl (by first | exact Or.inl rfl | exact Or.inr (Or.inl rfl) | exact Or.inr (Or.inr rfl)) (by decide) (by decide)) da_nil) (da_cons (de_clRK (K := K) 1 F_law_pairs (hr.mono (by omega)) rfl (pe_var rfl (by first | exact Or.inl rfl | exact Or.inr (Or.inl rfl) | exact Or.inr (Or.inr rfl)) (by decide) (by decide)) da_nil) da_nil)) (by rfl))
  (dss_cons (ds_asg (de_tup (da_cons (de_clK (K := K) F_normal (hr.mono (by omega)) rfl (da_cons (de_var 3) da_nil)) (da_cons (de_clK (K := K) F_normal (hr.mono (by omega)) rfl (da_cons (de_var 4) da_nil)) da_nil))) (dg_tupK (K := K) (n := 2) rfl (dgs_cons (dg_name (i := 5) sc_law.nd rfl (by first | exact Or.inl rfl | exact Or.inr rfl)) (dgs_cons (dg_name (i := 6) sc_law.nd rfl (by first | exact Or.inl rfl | exact Or.inr rfl)) dgs_nil))))
  (dss_cons (ds_if (DW.dt (dw_or (dt_not (dt_val (de_clK (K := K) F_law_is_normal (hr.mono (by omega)) rfl (da_cons (de_var 5) da_nil)))) (dw_or (dt_cmp (op_neDK (K := K) hr.units) so_neU (DE.toB (de_clK (K := K) F_normal (hr.mono (by omega)) rfl (da_cons (de_var 5) da_nil))) (db_var 5) (nomark _)) (dw_or1 (dt_cmp (op_neDK (K := K) hr.units) so_neU (DE.toB (de_clK (K := K) F_others (hr.mono (by omega)) rfl (da_cons (de_clK (K := K) F_others (hr.mono (by omega)) rfl (da_cons (de_var 5) da_nil)) da_nil))) (db_var 5) (nomark _)))))) (dss_one (ds_ret de_bl)) dss_nil)
  (dss_cons (ds_for PassesOwn.never rfl (di_range2 rfl T.range (da_cons (de_neg de_int) (da_cons de_int da_nil))) (dg_name (i := 7) sc_law.nd rfl (by first | exact Or.inl rfl | exact Or.inr rfl)) (dss_cons (ds_par (i := 8) (j := 9) rfl sc_law.nd rfl rfl (by decide) rfl rfl (da_cons (de_clK (K := K) F_law_in (hr.mono (by omega)) rfl (da_cons (de_var 3) (da_cons (de_var 7) da_nil))) (da_cons (de_clK (K := K) F_law_in (hr.mono (by omega)) rfl (da_cons (de_var 4) (da_cons (de_var 7) da_nil))) da_nil)) (by rfl))
  (dss_cons (ds_if (DW.dt (dw_or (dt_cmp (op_neDK (K := K) hr.units) so_neU (DE.toB (de_clK (K := K) F_has (hr.mono (by omega)) rfl (da_cons (de_var 5) (da_cons (de_var 7) da_nil)))) (db_var 8) (nomark _)) (dw_or1 (dt_cmp (op_neDK (K := K) hr.units) so_neU (DE.toB (de_clK (K := K) F_has (hr.mono (by omega)) rfl (da_cons (de_clK (K := K) F_union (hr.mono (by omega)) rfl (da_cons (de_var 5) (da_cons (de_var 6) da_nil))) (da_cons (de_var 7) da_nil)))) (DE.toB (de_or (de_var 8) (de_one (de_var 9)))) (nomark _))))) (dss_one (ds_ret de_bl)) dss_nil)
  (dss_one (ds_if (DW.dt (dw_or (dt_cmp (op_neDK (K := K) hr.units) so_neU (DE.toB (de_clK (K := K) F_has (hr.mono (by omega)) rfl (da_cons (de_clK (K := K) F_meet (hr.mono (by omega)) rfl (da_cons (de_var 5) (da_cons (de_var 6) da_nil))) (da_cons (de_var 7) da_nil)))) (DE.toB (de_and (de_var 8) (de_one (de_var 9)))) (nomark _)) (dw_or1 (dt_cmp (op_neDK (K := K) hr.units) so_neU (DE.toB (de_clK (K := K) F_has (hr.mono (by omega)) rfl (da_cons (de_clK (K := K) F_others (hr.mono (by omega)) rfl (da_cons (de_var 5) da_nil)) (da_cons (de_var 7) da_nil)))) (DE.toB (de_not (de_var 8))) (nomark _))))) (dss_one (ds_ret de_bl)) dss_nil)))))
  (dss_cons (ds_if (DW.dt (dw_or (dt_cmp (op_neDK (K := K) hr.units) so_neU (DE.toB (de_clK (K := K) F_union (hr.mono (by omega)) rfl (da_cons (de_var 5) (da_cons (de_clK (K := K) F_others (hr.mono (by omega)) rfl (da_cons (de_var 5) da_nil)) da_nil)))) (DE.toB (de_glob (v := .ref aE) rfl mg_EV rfl rd_EV (by decide))) (nomark _)) (dw_or1 (dt_cmp (op_neDK (K := K) hr.units) so_neU (DE.toB (de_clK (K := K) F_meet (hr.mono (by omega)) rfl (da_cons (de_var 5) (da_cons (de_clK (K := K) F_others (hr.mono (by omega)) rfl (da_cons (de_var 5) da_nil)) da_nil)))) (DE.toB (de_tup da_nil)) (nomark _))))) (dss_one (ds_ret de_bl)) dss_nil)
  (dss_cons (ds_lc (i := 10) (own := [("_law_number_here", 7)]) rfl sc_law.nd rfl rfl (by rfl) (DI.toB (di_range2 rfl T.range (da_cons (de_neg de_int) (da_cons de_int da_nil)))) (blkOk_by (N := ["_law_script", "_law_draw", "_law_turn", "_law_pairs_here", "_law_more", "_law_one", "_law_other", "_law_number_here", "_law_mine", "_law_theirs", "_law_inside", "_law_seen", "_law_free", "_law_again"]) (sc := defScope slaw) (by decide +kernel)) (fun _ _ _ _ _ => (dg_name (i := 7) sc_law.nd rfl (by first | exact Or.inl rfl | exact Or.inr rfl))) (fun _ _ _ _ _ => (dts_one (dt_val (de_clK (K := K) F_has (hr.mono (by omega)) rfl (da_cons (de_var 5) (da_cons (de_var 7) da_nil)))))) (fun _ _ _ _ _ => (de_var 7)))
  (dss_cons (ds_if (DW.dt (dw_and (dt_cmp op_notN so_notN (DE.toB (de_clK (K := K) F_how_many (hr.mono (by omega)) rfl (da_cons (de_var 5) da_nil))) (DE.toB de_non) (nomark _)) (dw_and1 (DW.dt (dw_or (dt_cmp (op_neDK (K := K) hr.units) so_neU (DE.toB (de_clK (K := K) F_how_many (hr.mono (by omega)) rfl (da_cons (de_var 5) da_nil))) (DE.toB (de_cb (call_lenK (K := K)) sc_len rfl T.len (by with_unfolding_all rfl) (dab_cons (db_var 10) dab_nil))) (nomark _)) (dw_or1 (DW.dt (dw_and (dt_cmp (op_neDK (K := K) hr.units) so_neU (db_var 5) (DE.toB (de_tup da_nil)) (nomark _)) (dw_and1 (dt_cmp (op_neDK (K := K) hr.units) so_neU (DE.toB (de_tup (da_cons (de_clK (K := K) F_least (hr.mono (by omega)) rfl (da_cons (de_var 5) da_nil)) (da_cons (de_clK (K := K) F_greatest (hr.mono (by omega)) rfl (da_cons (de_var 5) da_nil)) da_nil)))) (DE.toB (de_tup (da_cons (de_ixK (K := K) (db_var 10) (DE.toB de_int) (fun _ _ => rfl)) (da_cons (de_ixK (K := K) (db_var 10) (DE.toB (de_neg de_int)) (fun _ _ => rfl)) da_nil)))) (nomark _))))))))))) (dss_one (ds_ret de_bl)) dss_nil)
  (dss_cons (ds_if (DW.dt (dw_and (dt_cmp (op_neDK (K := K) hr.units) so_neU (db_var 5) (DE.toB (de_tup da_nil)) (nomark _)) (dw_and1 (dt_not (dt_val (de_clK (K := K) F_has (hr.mono (by omega)) rfl (da_cons (de_var 5) (da_cons (de_clK (K := K) F_some_member (hr.mono (by omega)) rfl (da_cons (de_var 5) da_nil)) da_nil)))))))) (dss_one (ds_ret de_bl)) dss_nil)
  (dss_cons (ds_set (i := 11) sc_law.nd rfl (by first | exact Or.inl rfl | exact Or.inr rfl) (DN.toE (dn_lc (own := [("_law_again", 13)]) rfl sc_law.nd (DI.toB (di_range1 rfl T.range (da_cons (de_clRK (K := K) 1 F_law_take (hr.mono (by omega)) rfl (pe_var rfl (by first | exact Or.inl rfl | exact Or.inr (Or.inl rfl) | exact Or.inr (Or.inr rfl)) (by decide) (by decide)) (da_cons de_int da_nil)) da_nil))) (blkOk_by (N := ["_law_script", "_law_draw", "_law_turn", "_law_pairs_here", "_law_more", "_law_one", "_law_other", "_law_number_here", "_law_mine", "_law_theirs", "_law_inside", "_law_seen", "_law_free", "_law_again"]) (sc := defScope slaw) (by decide +kernel)) (fun _ _ _ _ _ => (dg_name (i := 13) sc_law.nd rfl (by first | exact Or.inl rfl | exact Or.inr rfl))) (fun _ _ _ _ _ => dts_nil) (fun _ _ _ _ _ => (de_op op_sub so_sub (DE.toB (de_clRK (K := K) 1 F_law_take (hr.mono (by omega)) rfl (pe_var rfl (by first | exact Or.inl rfl | exact Or.inr (Or.inl rfl) | exact Or.inr (Or.inr rfl)) (by decide) (by decide)) (da_cons de_int da_nil))) (DE.toB de_int))))))
  (dss_cons (ds_set (i := 12) sc_law.nd rfl (by first | exact Or.inl rfl | exact Or.inr rfl) (de_clK (K := K) F_member_but (hr.mono (by omega)) rfl (da_cons (de_var 5) (da_cons (de_var 11) da_nil))))
  (dss_cons (ds_if (DW.dt (dw_and (dt_cmp op_isN so_isN (db_var 12) (DE.toB de_non) (nomark _)) (dw_and1 (dt_val (de_cb (cr_anyK (K := K) rfl) sc_any rfl T.any (by with_unfolding_all rfl) (dab_cons (DE.toB (DN.toE (dn_lc (own := [("_law_number_here", 7)]) rfl sc_law.nd (dib_seq (db_var 10)) (blkOk_by (N := ["_law_script", "_law_draw", "_law_turn", "_law_pairs_here", "_law_more", "_law_one", "_law_other", "_law_number_here", "_law_mine", "_law_theirs", "_law_inside", "_law_seen", "_law_free", "_law_again"]) (sc := defScope slaw) (by decide +kernel)) (fun _ _ _ _ _ => (dg_name (i := 7) sc_law.nd rfl (by first | exact Or.inl rfl | exact Or.inr rfl))) (fun _ _ _ _ _ => dts_nil) (fun _ _ _ _ _ => (de_cmp (op_notInK (K := K)) so_notIn (db_var 7) (db_var 11) (by with_unfolding_all rfl)))))) dab_nil)))))) (dss_one (ds_ret de_bl)) dss_nil)
  (dss_one (ds_if (DW.dt (dw_and (dt_cmp op_notN so_notN (db_var 12) (DE.toB de_non) (nomark _)) (dw_and1 (DW.dt (dw_or (dt_cmp (op_inK (K := K)) so_in (db_var 12) (db_var 11) (by with_unfolding_all rfl)) (dw_or1 (dt_not (dt_val (de_clK (K := K) F_has (hr.mono (by omega)) rfl (da_cons (de_var 5) (da_cons (de_var 12) da_nil))))))))))) (dss_one (ds_ret de_bl)) dss_nil))))))))))))))
  (dss_one (ds_ret de_bl))), ?_⟩
  walk_at "x"
  refine ⟨by decide, ?_⟩
  have envI : ∀ (g : List Sl → Prop), g = (fun env => ∃ x2 x3 x4 x5 x6 x7 x8 x9 x10 x11 x12 x13 : Sl, env = [.no, .dr, x2, x3, x4, x5, x6, x7, x8, x9, x10, x11, x12, x13]) → True := fun _ _ => trivial
  refine g_for (fun i env => ∃ x2 x3 x4 x5 x6 x7 x8 x9 x10 x11 x12 x13 : Sl, env = [.no, .dr, x2, x3, x4, x5, x6, x7, x8, x9, x10, x11, x12, x13]) ⟨_, _, _, _, _, _, _, _, _, _, _, _, rfl⟩ ?_ ?_
  · rintro i d env' hd ⟨x2, x3, x4, x5, x6, x7, x8, x9, x10, x11, x12, x13, rfl⟩
    obtain ⟨_, rfl⟩ := ints_get hd
    walk_at "x"
    intro l1 hl1 hb1
    walk_at "x"
    intro l2 hl2 hb2
    walk_at "x"
    refine ⟨l1, .inl rfl, by omega, fun r1 n1 m1 len1 => ?_⟩
    walk_at "x"
    refine ⟨l2, .inl rfl, by omega, fun r2 n2 m2 len2 => ?_⟩
    walk_at "x"
    refine ⟨r1, rfl, n1, ?_⟩
    walk_at "x"
    refine ⟨r1, .inr rfl, by omega, fun a na ma la => ?_⟩
    have ea := norm_uniq a r1 na n1 ma
    subst ea
    walk_at "x"
    refine ⟨a, rfl, n1, by omega, fun o no mo lo => ?_⟩
    walk_at "x"
    refine ⟨o, rfl, no, by omega, fun o2 no2 mo2 lo2 => ?_⟩
    have eo := norm_uniq o2 a no2 n1 (fun n => by rw [mo2, mo, Bool.not_not])
    subst eo
    walk_at "x"
    refine ⟨by decide, ?_⟩
    refine g_for (fun i env => ∃ x2 x7 x8 x9 x10 x11 x12 x13 : Sl, env = [.no, .dr, x2, .d (.lst (l1.map pD)), .d (.lst (l2.map pD)), .d (sD o2), .d (sD r2), x7, x8, x9, x10, x11, x12, x13]) ⟨_, _, _, _, _, _, _, _, rfl⟩ ?_ ?_
    · rintro i d env' hd ⟨x2, x7, x8, x9, x10, x11, x12, x13, rfl⟩
      obtain ⟨_, rfl⟩ := ints_get hd
      generalize ((-12 : Int) + (i : Int)) = n
      walk_at "x"
      refine ⟨l1, n, rfl, ?_⟩
      walk_at "x"
      refine ⟨l2, n, rfl, ?_⟩
      walk_at "x"
      refine ⟨o2, n, rfl, by omega, ?_⟩
      rw [m1]
      cases h1 : mem n l1 <;> cases h2 : mem n l2
      all_goals
        walk_at "x"
        refine ⟨o2, r2, rfl, n1, n2, by omega, fun u nu mu lu => ?_⟩
        walk_at "x"
        refine ⟨u, n, rfl, by omega, ?_⟩
        rw [mu, m1, m2, h1, h2]
        walk_at "x"
        refine ⟨o2, r2, rfl, n1, n2, by omega, fun e ne me le => ?_⟩
        walk_at "x"
        refine ⟨e, n, rfl, by omega, ?_⟩
        rw [me, m1, m2, h1, h2]
        walk_at "x"
        refine ⟨o2, rfl, n1, by omega, fun o3 no3 mo3 lo3 => ?_⟩
        walk_at "x"
        refine ⟨o3, n, rfl, by omega, ?_⟩
        rw [mo3, m1, h1]
        walk_at "x"
        exact ⟨_, _, _, _, _, _, _, _, rfl⟩
    · rintro env' ⟨x2, x7, x8, x9, x10, x11, x12, x13, rfl⟩
      walk_at "x"
      refine ⟨o2, rfl, n1, by omega, fun c nc mc lc => ?_⟩
      walk_at "x"
      refine ⟨o2, c, rfl, n1, nc, by omega, fun u nu mu lu => ?_⟩
      have eu := norm_uniq u [(none, none)] nu (fun l h e => by cases e) (fun n => by rw [mu, mc, mem_one]; cases mem n o2 <;> rfl)
      subst eu
      walk_at "x"
      refine ⟨o2, rfl, n1, by omega, fun c2 nc2 mc2 lc2 => ?_⟩
      walk_at "x"
      refine ⟨o2, c2, rfl, n1, nc2, by omega, fun e ne me le => ?_⟩
      have ee := norm_uniq e [] ne trivial (fun n => by rw [me, mc2]; cases mem n o2 <;> rfl)
      subst ee
      walk_at "x"
      refine ⟨by decide, ?_⟩
      refine g_lcf (fun d => mem (unI d) o2) (fun d => d) (by rw [ints_len]; decide) (fun d L n R hd hL h1 h0 => ?_) ?_
      · obtain ⟨i, hi, rfl⟩ := List.mem_map.mp hd
        generalize ((-40 : Int) + (i : Int)) = z at h1 h0
        walk_at "x"
        refine ⟨o2, z, rfl, by omega, ?_⟩
        cases hz : mem z o2
        · walk_at "x"; exact h0 hz
        · walk_at "x"; exact h1 hz
      rw [ins_eq]
      walk_at "x"
      have hne : D.tup (List.map pD o2) ≠ D.tup [] → ∃ p r, o2 = p :: r := fun h => by
        cases o2 with
        | nil => exact (h rfl).elim
        | cons p r => exact ⟨p, r, rfl⟩
      refine ⟨o2, rfl, by omega, fun ho => ?_, fun ho => ?_⟩
      · walk_at "x"
        · obtain ⟨p, r, e⟩ := hne ‹_›
          subst e
          refine ⟨p, r, rfl, ?_⟩
          walk_at "x"
          refine ⟨p :: r, smem p, rfl, by omega, ?_⟩
          rw [smem_mem n1]
          walk_at "x"
          refine ⟨_, rfl, by decide, fun v v0 v1 => ?_⟩
          walk_at "x"
          refine ⟨⟨by omega, by omega⟩, ?_⟩
          refine kLc_i ⟨fun k acc => ∃ l : List Int, acc = iD l ∧ l.length = k, ⟨[], rfl, rfl⟩, ?_, ?_⟩
          · rintro k d acc hd ⟨l, rfl, hl⟩
            obtain ⟨hk, rfl⟩ := ints_get hd
            walk_at "x"
            refine ⟨_, rfl, by decide, fun v' _ _ => ?_⟩
            walk_at "x"
            exact ⟨by unfold iD; rw [List.length_map]; exact Nat.lt_of_lt_of_le (by omega : l.length < 100) (by decide), l ++ [v' - 6], by unfold iD; rw [List.map_append]; rfl, by rw [List.length_append, hl]; rfl⟩
          · rintro acc ⟨seen, rfl, hl⟩
            rw [ints_len] at hl
            walk_at "x"
            refine ⟨p :: r, seen, rfl, norm_ok n1, by omega, fun hall => ?_, fun v hv hns => ?_⟩
            · walk_at "x"
              refine g_lcm (fun d => .bl false) (by unfold iD ins; rw [List.length_map]; exact Nat.le_trans (List.length_filter_le ..) (by unfold rng; rw [List.length_map, List.length_range]; decide)) (fun d L R hm hL hR => ?_) ?_
              · obtain ⟨n, hn, rfl⟩ := List.mem_map.mp hm
                have hs := hall n (mem_ins.mp hn).2
                walk_at "x"
                · exact absurd (mem_iD.mpr hs) ‹_›
                · exact hR
              rw [show List.map (fun _ => D.bl false) (iD (ins (p :: r))) = List.map D.bl ((ins (p :: r)).map fun _ => false) from by unfold iD; rw [List.map_map, List.map_map]; rfl]
              dsimp only [wNil]
              refine g_any ?_
              rw [show ((ins (p :: r)).map fun _ => false).any id = false from by rw [List.any_map]; exact List.any_eq_false.mpr fun x _ => by simp]
              walk_at "x"
              exact ⟨_, _, _, _, _, _, _, _, _, _, _, _, rfl⟩
            · walk_at "x"
              · exact absurd (mem_iD.mp ‹_›) hns
              · refine ⟨p :: r, v, rfl, by omega, ?_⟩
                rw [hv]
                walk_at "x"
                exact ⟨_, _, _, _, _, _, _, _, _, _, _, _, rfl⟩
        · 
          refine ⟨_, rfl, by decide, fun v v0 v1 => ?_⟩
          walk_at "x"
          refine ⟨⟨by omega, by omega⟩, ?_⟩
          refine kLc_i ⟨fun k acc => ∃ l : List Int, acc = iD l ∧ l.length = k, ⟨[], rfl, rfl⟩, ?_, ?_⟩
          · rintro k d acc hd ⟨l, rfl, hl⟩
            obtain ⟨hk, rfl⟩ := ints_get hd
            walk_at "x"
            refine ⟨_, rfl, by decide, fun v' _ _ => ?_⟩
            walk_at "x"
            exact ⟨by unfold iD; rw [List.length_map]; exact Nat.lt_of_lt_of_le (by omega : l.length < 100) (by decide), l ++ [v' - 6], by unfold iD; rw [List.map_append]; rfl, by rw [List.length_append, hl]; rfl⟩
          · rintro acc ⟨seen, rfl, hl⟩
            rw [ints_len] at hl
            walk_at "x"
            refine ⟨o2, seen, rfl, norm_ok n1, by omega, fun hall => ?_, fun v hv hns => ?_⟩
            · walk_at "x"
              refine g_lcm (fun d => .bl false) (by unfold iD ins; rw [List.length_map]; exact Nat.le_trans (List.length_filter_le ..) (by unfold rng; rw [List.length_map, List.length_range]; decide)) (fun d L R hm hL hR => ?_) ?_
              · obtain ⟨n, hn, rfl⟩ := List.mem_map.mp hm
                have hs := hall n (mem_ins.mp hn).2
                walk_at "x"
                · exact absurd (mem_iD.mpr hs) ‹_›
                · exact hR
              rw [show List.map (fun _ => D.bl false) (iD (ins (o2))) = List.map D.bl ((ins (o2)).map fun _ => false) from by unfold iD; rw [List.map_map, List.map_map]; rfl]
              dsimp only [wNil]
              refine g_any ?_
              rw [show ((ins (o2)).map fun _ => false).any id = false from by rw [List.any_map]; exact List.any_eq_false.mpr fun x _ => by simp]
              walk_at "x"
              exact ⟨_, _, _, _, _, _, _, _, _, _, _, _, rfl⟩
            · walk_at "x"
              · exact absurd (mem_iD.mp ‹_›) hns
              · refine ⟨o2, v, rfl, by omega, ?_⟩
                rw [hv]
                walk_at "x"
                exact ⟨_, _, _, _, _, _, _, _, _, _, _, _, rfl⟩
      · walk_at "x"
        refine ⟨o2, rfl, by omega, fun z => (by rw [ho] at z; cases z), fun _ => ?_⟩
        have hb := bounded n1 ho m1 hb1
        have hlen : count o2 = ((iD (ins o2)).length : Int) := by rw [← ins_len n1 ho hb]; unfold iD; rw [List.length_map]
        rw [hlen]
        walk_at "x"
        · obtain ⟨p, r, e⟩ := hne ‹_›
          subst e
          obtain ⟨l0, h0, el, eh, e1, e2⟩ := ins_ends n1 ho hb
          refine ⟨_, rfl, ?_⟩
          rw [el]
          walk_at "x"
          refine ⟨_, rfl, ?_⟩
          rw [eh]
          walk_at "x"
          rw [iD_at0 e1]
          walk_at "x"
          rw [iD_last e2]
          walk_at "x"
          refine ⟨⟨puP (some l0, some h0) 31, puP (some l0, some h0) 31⟩, fun hc => (hc rfl).elim, fun _ => ?_⟩
          walk_at "x"
          refine ⟨p, r, rfl, ?_⟩
          walk_at "x"
          refine ⟨p :: r, smem p, rfl, by omega, ?_⟩
          rw [smem_mem n1]
          walk_at "x"
          refine ⟨_, rfl, by decide, fun v v0 v1 => ?_⟩
          walk_at "x"
          refine ⟨⟨by omega, by omega⟩, ?_⟩
          refine kLc_i ⟨fun k acc => ∃ l : List Int, acc = iD l ∧ l.length = k, ⟨[], rfl, rfl⟩, ?_, ?_⟩
          · rintro k d acc hd ⟨l, rfl, hl⟩
            obtain ⟨hk, rfl⟩ := ints_get hd
            walk_at "x"
            refine ⟨_, rfl, by decide, fun v' _ _ => ?_⟩
            walk_at "x"
            exact ⟨by unfold iD; rw [List.length_map]; exact Nat.lt_of_lt_of_le (by omega : l.length < 100) (by decide), l ++ [v' - 6], by unfold iD; rw [List.map_append]; rfl, by rw [List.length_append, hl]; rfl⟩
          · rintro acc ⟨seen, rfl, hl⟩
            rw [ints_len] at hl
            walk_at "x"
            refine ⟨p :: r, seen, rfl, norm_ok n1, by omega, fun hall => ?_, fun v hv hns => ?_⟩
            · walk_at "x"
              refine g_lcm (fun d => .bl false) (by unfold iD ins; rw [List.length_map]; exact Nat.le_trans (List.length_filter_le ..) (by unfold rng; rw [List.length_map, List.length_range]; decide)) (fun d L R hm hL hR => ?_) ?_
              · obtain ⟨n, hn, rfl⟩ := List.mem_map.mp hm
                have hs := hall n (mem_ins.mp hn).2
                walk_at "x"
                · exact absurd (mem_iD.mpr hs) ‹_›
                · exact hR
              rw [show List.map (fun _ => D.bl false) (iD (ins (p :: r))) = List.map D.bl ((ins (p :: r)).map fun _ => false) from by unfold iD; rw [List.map_map, List.map_map]; rfl]
              dsimp only [wNil]
              refine g_any ?_
              rw [show ((ins (p :: r)).map fun _ => false).any id = false from by rw [List.any_map]; exact List.any_eq_false.mpr fun x _ => by simp]
              walk_at "x"
              exact ⟨_, _, _, _, _, _, _, _, _, _, _, _, rfl⟩
            · walk_at "x"
              · exact absurd (mem_iD.mp ‹_›) hns
              · refine ⟨p :: r, v, rfl, by omega, ?_⟩
                rw [hv]
                walk_at "x"
                exact ⟨_, _, _, _, _, _, _, _, _, _, _, _, rfl⟩
        · obtain ⟨p, r, e⟩ := hne ‹_›
          subst e
          refine ⟨p, r, rfl, ?_⟩
          walk_at "x"
          refine ⟨p :: r, smem p, rfl, by omega, ?_⟩
          rw [smem_mem n1]
          walk_at "x"
          refine ⟨_, rfl, by decide, fun v v0 v1 => ?_⟩
          walk_at "x"
          refine ⟨⟨by omega, by omega⟩, ?_⟩
          refine kLc_i ⟨fun k acc => ∃ l : List Int, acc = iD l ∧ l.length = k, ⟨[], rfl, rfl⟩, ?_, ?_⟩
          · rintro k d acc hd ⟨l, rfl, hl⟩
            obtain ⟨hk, rfl⟩ := ints_get hd
            walk_at "x"
            refine ⟨_, rfl, by decide, fun v' _ _ => ?_⟩
            walk_at "x"
            exact ⟨by unfold iD; rw [List.length_map]; exact Nat.lt_of_lt_of_le (by omega : l.length < 100) (by decide), l ++ [v' - 6], by unfold iD; rw [List.map_append]; rfl, by rw [List.length_append, hl]; rfl⟩
          · rintro acc ⟨seen, rfl, hl⟩
            rw [ints_len] at hl
            walk_at "x"
            refine ⟨p :: r, seen, rfl, norm_ok n1, by omega, fun hall => ?_, fun v hv hns => ?_⟩
            · walk_at "x"
              refine g_lcm (fun d => .bl false) (by unfold iD ins; rw [List.length_map]; exact Nat.le_trans (List.length_filter_le ..) (by unfold rng; rw [List.length_map, List.length_range]; decide)) (fun d L R hm hL hR => ?_) ?_
              · obtain ⟨n, hn, rfl⟩ := List.mem_map.mp hm
                have hs := hall n (mem_ins.mp hn).2
                walk_at "x"
                · exact absurd (mem_iD.mpr hs) ‹_›
                · exact hR
              rw [show List.map (fun _ => D.bl false) (iD (ins (p :: r))) = List.map D.bl ((ins (p :: r)).map fun _ => false) from by unfold iD; rw [List.map_map, List.map_map]; rfl]
              dsimp only [wNil]
              refine g_any ?_
              rw [show ((ins (p :: r)).map fun _ => false).any id = false from by rw [List.any_map]; exact List.any_eq_false.mpr fun x _ => by simp]
              walk_at "x"
              exact ⟨_, _, _, _, _, _, _, _, _, _, _, _, rfl⟩
            · walk_at "x"
              · exact absurd (mem_iD.mp ‹_›) hns
              · refine ⟨p :: r, v, rfl, by omega, ?_⟩
                rw [hv]
                walk_at "x"
                exact ⟨_, _, _, _, _, _, _, _, _, _, _, _, rfl⟩
        · 
          refine ⟨_, rfl, by decide, fun v v0 v1 => ?_⟩
          walk_at "x"
          refine ⟨⟨by omega, by omega⟩, ?_⟩
          refine kLc_i ⟨fun k acc => ∃ l : List Int, acc = iD l ∧ l.length = k, ⟨[], rfl, rfl⟩, ?_, ?_⟩
          · rintro k d acc hd ⟨l, rfl, hl⟩
            obtain ⟨hk, rfl⟩ := ints_get hd
            walk_at "x"
            refine ⟨_, rfl, by decide, fun v' _ _ => ?_⟩
            walk_at "x"
            exact ⟨by unfold iD; rw [List.length_map]; exact Nat.lt_of_lt_of_le (by omega : l.length < 100) (by decide), l ++ [v' - 6], by unfold iD; rw [List.map_append]; rfl, by rw [List.length_append, hl]; rfl⟩
          · rintro acc ⟨seen, rfl, hl⟩
            rw [ints_len] at hl
            walk_at "x"
            refine ⟨o2, seen, rfl, norm_ok n1, by omega, fun hall => ?_, fun v hv hns => ?_⟩
            · walk_at "x"
              refine g_lcm (fun d => .bl false) (by unfold iD ins; rw [List.length_map]; exact Nat.le_trans (List.length_filter_le ..) (by unfold rng; rw [List.length_map, List.length_range]; decide)) (fun d L R hm hL hR => ?_) ?_
              · obtain ⟨n, hn, rfl⟩ := List.mem_map.mp hm
                have hs := hall n (mem_ins.mp hn).2
                walk_at "x"
                · exact absurd (mem_iD.mpr hs) ‹_›
                · exact hR
              rw [show List.map (fun _ => D.bl false) (iD (ins (o2))) = List.map D.bl ((ins (o2)).map fun _ => false) from by unfold iD; rw [List.map_map, List.map_map]; rfl]
              dsimp only [wNil]
              refine g_any ?_
              rw [show ((ins (o2)).map fun _ => false).any id = false from by rw [List.any_map]; exact List.any_eq_false.mpr fun x _ => by simp]
              walk_at "x"
              exact ⟨_, _, _, _, _, _, _, _, _, _, _, _, rfl⟩
            · walk_at "x"
              · exact absurd (mem_iD.mp ‹_›) hns
              · refine ⟨o2, v, rfl, by omega, ?_⟩
                rw [hv]
                walk_at "x"
                exact ⟨_, _, _, _, _, _, _, _, _, _, _, _, rfl⟩
  · rintro env' ⟨x2, x3, x4, x5, x6, x7, x8, x9, x10, x11, x12, x13, rfl⟩
    walk_at "x"
end
end S55

namespace S55
open PySem L2 Y
def spLaw (K : PySem.W.Frag) : Sp := fun vs H Q _ => ∃ (a : Addr) (ns : List Int), vs = [.ref a] ∧ SqL K H a (ns.map V.int) ∧ ns.length ≤ 63 ∧ ∀ H', Q (.bl true) H'
section
variable {P : Program} {w : World} {K : PySem.W.Frag} {mg : Str → Option Value} {base : Heap}
theorem ok_law {f : Addr} {fd : FuncData} (F : Fun K "law" "law" slaw f fd) (T : Txt mg) {aE : Addr} (mg_EV : mg "EVERYTHING" = some (.ref aE)) (rd_EV : ∀ G, R K G (sD [(none, none)]) (.ref aE)) (Lo : Low K mg) (h_law_number : Here K mg "_law_number" ["_law_script", "_law_index"] sL_number) (h_law_take : Here K mg "_law_take" ["_law_draw", "_law_many"] sL_take) (h_law_pairs : Here K mg "_law_pairs" ["_law_draw"] sL_pairs) (h_normal : Here K mg "normal" ["pairs"] snormal) (h_law_is_normal : Here K mg "_law_is_normal" ["_law_one"] sL_is_normal) (h_others : Here K mg "others" ["one"] sothers) (h_law_in : Here K mg "_law_in" ["_law_pairs_here", "_law_number_here"] sL_in) (h_has : Here K mg "has" ["one", "number"] shas) (h_union : Here K mg "union" ["one", "other"] sunion) (h_meet : Here K mg "meet" ["one", "other"] smeet) (h_how_many : Here K mg "how_many" ["one"] show_many) (h_least : Here K mg "least" ["one"] sleast) (h_greatest : Here K mg "greatest" ["one"] sgreatest) (h_some_member : Here K mg "some_member" ["one"] ssome_member) (h_member_but : Here K mg "member_but" ["one", "seen"] smember_but) : FnOk P w K mg base CX0 4 f fd ["_law_script"] (spLaw K) := by
  have F_law_take : Dr P w K mg base 2 "_law_take" ["_law_draw", "_law_many"] wTake := dr_take h_law_take h_law_number T.d
  have F_law_pairs : Dr P w K mg base 3 "_law_pairs" ["_law_draw"] wPairs := ok_law_pairs T h_law_pairs F_law_take
  have F_normal : Df P w K mg base 1 "normal" ["pairs"] wNormal := ok_normal T h_normal Lo
  have F_law_is_normal : Df P w K mg base 1 "_law_is_normal" ["_law_one"] wIsNormal := ok_law_is_normal T h_law_is_normal
  have F_others : Df P w K mg base 2 "others" ["one"] wOthers := ok_others T h_others F_normal
  have F_law_in : Df P w K mg base 1 "_law_in" ["_law_pairs_here", "_law_number_here"] wIn := ok_law_in T h_law_in
  have F_has : Df P w K mg base 1 "has" ["one", "number"] wHas := ok_has T h_has
  have F_union : Df P w K mg base 2 "union" ["one", "other"] wUnion := ok_union T h_union F_normal
  have F_meet : Df P w K mg base 3 "meet" ["one", "other"] wMeet := ok_meet T h_meet F_others F_union
  have F_how_many : Df P w K mg base 1 "how_many" ["one"] wMany := ok_how_many T h_how_many
  have F_least : Df P w K mg base 1 "least" ["one"] wLeast := ok_least T h_least
  have F_greatest : Df P w K mg base 1 "greatest" ["one"] wGreatest := ok_greatest T h_greatest
  have F_some_member : Df P w K mg base 1 "some_member" ["one"] wSome := ok_some_member T h_some_member
  have F_member_but : Df P w K mg base 1 "member_but" ["one", "seen"] wBut := ok_member_but T h_member_but
  refine F.ok sc_law (fun vs H Q E h => ?_) (fun cdv A outer s H vs Q E hr h => ?_)
  · obtain ⟨a, ns, rfl, _⟩ := h
    rfl
  · obtain ⟨a, ns, rfl, hS, hlen, k⟩ := h
    obtain ⟨t, wS, D, hw⟩ := law_rest (E := E) T mg_EV rd_EV F_law_take F_law_pairs F_normal F_law_is_normal F_others F_law_in F_has F_union F_meet F_how_many F_least F_greatest F_some_member F_member_but hr
    refine ⟨_, pss_cons (ps_set (i := 1) sc_law.nd rfl (by first | exact Or.inl rfl | exact Or.inr rfl) (pe_lst (pa_cons (pv 0) (pa_cons pe_int pa_nil)))) D.ps, ?_⟩
    refine ⟨_, rfl, by show 2 ≤ sizeLine; decide, fun dr hdr => ?_⟩
    refine D.snd _ H _ _ _ _ _ (fr_law (n := 12) hS hdr) hw ⟨fun _ _ _ _ _ z => z.elim, fun v d G H' env σ f' r e => ?_, fun _ _ _ _ _ z => z.elim, fun _ _ _ _ _ z => z.elim⟩
    have e' : d = .bl true := e
    subst e'
    have e2 : v = .bl true := r
    subst e2
    exact k H'
end
theorem low_mk {K : PySem.W.Frag} {mg : Str → Option Value} {f : Addr} {oc : Value} {od an : Option Addr} {osl : Array (Option Value)} {kV doc pm cdv ct : Value} (hm : mg "low_of" = some (.ref f)) (l : K.lookup f = some ⟨oc, od, .func (PySem.W.fnOf "low_of" "low_of" (defArgs slow_of) (defBody slow_of) (defScope slow_of) .none kV doc pm an cdv ct), osl⟩)
    (c : PySem.W.codeIn K cdv "low_of" = true) : Low K mg := ⟨f, hm, fun {X k} e hr => by
  subst e
  exact cr_sortLow l c rfl rfl rfl rfl (fun _ => rfl) hr⟩
theorem every_mk {K : PySem.W.Frag} {a b : Addr} {od od1 : Option Addr} {n n1 : Nat} {sl sl1 : Array (Option Value)} (h : K.lookup a = some ⟨.type "tuple", od, .seq #[.ref b] n, sl⟩) (h1 : K.lookup b = some ⟨.type "tuple", od1, .seq #[.none, .none] n1, sl1⟩) : ∀ G, R K G (sD [(none, none)]) (.ref a) := fun G =>
  .tup (.inr ⟨_, _, _, h, rfl, rfl, by show 1 ≤ sizeLine; decide, (.cons rfl .nil : Vals [V.ref b] [Value.ref b])⟩)
    (.cons (.tup (.inr ⟨_, _, _, h1, rfl, rfl, by show 2 ≤ sizeLine; decide, (.cons rfl (.cons rfl .nil) : Vals [V.non, V.non] [Value.none, Value.none])⟩) (.cons R.non_ (.cons R.non_ .nil))) .nil)
end S55

namespace S55
open PySem L2 Y
theorem all_mk {l : PySem.W.OpenLaw} {w : World} {K : PySem.W.Frag} {h : Heap} {mg : Str → Option Value} {fa  f_law_number f_law_take f_law_pairs f_normal f_law_is_normal f_others f_law_in f_has f_union f_meet f_how_many f_least f_greatest f_some_member f_member_but f_low_of f_law : Addr} (X : K.In h) (G : h.Ns mainGlobals mg) (hfa : mg "law" = some (.ref fa))
    {od_law_number an_law_number od_law_take an_law_take od_law_pairs an_law_pairs od_normal an_normal od_law_is_normal an_law_is_normal od_others an_others od_law_in an_law_in od_has an_has od_union an_union od_meet an_meet od_how_many an_how_many od_least an_least od_greatest an_greatest od_some_member an_some_member od_member_but an_member_but od_low_of an_low_of od_law an_law : Option Addr} {sl_law_number sl_law_take sl_law_pairs sl_normal sl_law_is_normal sl_others sl_law_in sl_has sl_union sl_meet sl_how_many sl_least sl_greatest sl_some_member sl_member_but sl_low_of sl_law : Array (Option Value)} {oc_law_number kV_law_number dc_law_number pm_law_number cd_law_number ct_law_number oc_law_take kV_law_take dc_law_take pm_law_take cd_law_take ct_law_take oc_law_pairs kV_law_pairs dc_law_pairs pm_law_pairs cd_law_pairs ct_law_pairs oc_normal kV_normal dc_normal pm_normal cd_normal ct_normal oc_law_is_normal kV_law_is_normal dc_law_is_normal pm_law_is_normal cd_law_is_normal ct_law_is_normal oc_others kV_others dc_others pm_others cd_others ct_others oc_law_in kV_law_in dc_law_in pm_law_in cd_law_in ct_law_in oc_has kV_has dc_has pm_has cd_has ct_has oc_union kV_union dc_union pm_union cd_union ct_union oc_meet kV_meet dc_meet pm_meet cd_meet ct_meet oc_how_many kV_how_many dc_how_many pm_how_many cd_how_many ct_how_many oc_least kV_least dc_least pm_least cd_least ct_least oc_greatest kV_greatest dc_greatest pm_greatest cd_greatest ct_greatest oc_some_member kV_some_member dc_some_member pm_some_member cd_some_member ct_some_member oc_member_but kV_member_but dc_member_but pm_member_but cd_member_but ct_member_but oc_low_of kV_low_of dc_low_of pm_low_of cd_low_of ct_low_of oc_law kV_law dc_law pm_law cd_law ct_law : Value} {E0 E1 : Addr} {od0E od1E : Option Addr} {n0E n1E : Nat} {sl0E sl1E : Array (Option Value)}
    (a_law_number : PySem.W.nsIn K mainGlobals "_law_number" = some (some (.ref f_law_number)))
    (l_law_number : K.lookup f_law_number = some ⟨oc_law_number, od_law_number, .func (PySem.W.fnOf "_law_number" "_law_number" (defArgs sL_number) (defBody sL_number) (defScope sL_number) .none kV_law_number dc_law_number pm_law_number an_law_number cd_law_number ct_law_number), sl_law_number⟩) (c_law_number : PySem.W.codeIn K cd_law_number "_law_number" = true) (k_law_number : PySem.W.keepIn K (.ref f_law_number) = true)
    (a_law_take : PySem.W.nsIn K mainGlobals "_law_take" = some (some (.ref f_law_take)))
    (l_law_take : K.lookup f_law_take = some ⟨oc_law_take, od_law_take, .func (PySem.W.fnOf "_law_take" "_law_take" (defArgs sL_take) (defBody sL_take) (defScope sL_take) .none kV_law_take dc_law_take pm_law_take an_law_take cd_law_take ct_law_take), sl_law_take⟩) (c_law_take : PySem.W.codeIn K cd_law_take "_law_take" = true) (k_law_take : PySem.W.keepIn K (.ref f_law_take) = true)
    (a_law_pairs : PySem.W.nsIn K mainGlobals "_law_pairs" = some (some (.ref f_law_pairs)))
    (l_law_pairs : K.lookup f_law_pairs = some ⟨oc_law_pairs, od_law_pairs, .func (PySem.W.fnOf "_law_pairs" "_law_pairs" (defArgs sL_pairs) (defBody sL_pairs) (defScope sL_pairs) .none kV_law_pairs dc_law_pairs pm_law_pairs an_law_pairs cd_law_pairs ct_law_pairs), sl_law_pairs⟩) (c_law_pairs : PySem.W.codeIn K cd_law_pairs "_law_pairs" = true) (k_law_pairs : PySem.W.keepIn K (.ref f_law_pairs) = true)
    (a_normal : PySem.W.nsIn K mainGlobals "normal" = some (some (.ref f_normal)))
    (l_normal : K.lookup f_normal = some ⟨oc_normal, od_normal, .func (PySem.W.fnOf "normal" "normal" (defArgs snormal) (defBody snormal) (defScope snormal) .none kV_normal dc_normal pm_normal an_normal cd_normal ct_normal), sl_normal⟩) (c_normal : PySem.W.codeIn K cd_normal "normal" = true) (k_normal : PySem.W.keepIn K (.ref f_normal) = true)
    (a_law_is_normal : PySem.W.nsIn K mainGlobals "_law_is_normal" = some (some (.ref f_law_is_normal)))
    (l_law_is_normal : K.lookup f_law_is_normal = some ⟨oc_law_is_normal, od_law_is_normal, .func (PySem.W.fnOf "_law_is_normal" "_law_is_normal" (defArgs sL_is_normal) (defBody sL_is_normal) (defScope sL_is_normal) .none kV_law_is_normal dc_law_is_normal pm_law_is_normal an_law_is_normal cd_law_is_normal ct_law_is_normal), sl_law_is_normal⟩) (c_law_is_normal : PySem.W.codeIn K cd_law_is_normal "_law_is_normal" = true) (k_law_is_normal : PySem.W.keepIn K (.ref f_law_is_normal) = true)
    (a_others : PySem.W.nsIn K mainGlobals "others" = some (some (.ref f_others)))
    (l_others : K.lookup f_others = some ⟨oc_others, od_others, .func (PySem.W.fnOf "others" "others" (defArgs sothers) (defBody sothers) (defScope sothers) .none kV_others dc_others pm_others an_others cd_others ct_others), sl_others⟩) (c_others : PySem.W.codeIn K cd_others "others" = true) (k_others : PySem.W.keepIn K (.ref f_others) = true)
    (a_law_in : PySem.W.nsIn K mainGlobals "_law_in" = some (some (.ref f_law_in)))
    (l_law_in : K.lookup f_law_in = some ⟨oc_law_in, od_law_in, .func (PySem.W.fnOf "_law_in" "_law_in" (defArgs sL_in) (defBody sL_in) (defScope sL_in) .none kV_law_in dc_law_in pm_law_in an_law_in cd_law_in ct_law_in), sl_law_in⟩) (c_law_in : PySem.W.codeIn K cd_law_in "_law_in" = true) (k_law_in : PySem.W.keepIn K (.ref f_law_in) = true)
    (a_has : PySem.W.nsIn K mainGlobals "has" = some (some (.ref f_has)))
    (l_has : K.lookup f_has = some ⟨oc_has, od_has, .func (PySem.W.fnOf "has" "has" (defArgs shas) (defBody shas) (defScope shas) .none kV_has dc_has pm_has an_has cd_has ct_has), sl_has⟩) (c_has : PySem.W.codeIn K cd_has "has" = true) (k_has : PySem.W.keepIn K (.ref f_has) = true)
    (a_union : PySem.W.nsIn K mainGlobals "union" = some (some (.ref f_union)))
    (l_union : K.lookup f_union = some ⟨oc_union, od_union, .func (PySem.W.fnOf "union" "union" (defArgs sunion) (defBody sunion) (defScope sunion) .none kV_union dc_union pm_union an_union cd_union ct_union), sl_union⟩) (c_union : PySem.W.codeIn K cd_union "union" = true) (k_union : PySem.W.keepIn K (.ref f_union) = true)
    (a_meet : PySem.W.nsIn K mainGlobals "meet" = some (some (.ref f_meet)))
    (l_meet : K.lookup f_meet = some ⟨oc_meet, od_meet, .func (PySem.W.fnOf "meet" "meet" (defArgs smeet) (defBody smeet) (defScope smeet) .none kV_meet dc_meet pm_meet an_meet cd_meet ct_meet), sl_meet⟩) (c_meet : PySem.W.codeIn K cd_meet "meet" = true) (k_meet : PySem.W.keepIn K (.ref f_meet) = true)
    (a_how_many : PySem.W.nsIn K mainGlobals "how_many" = some (some (.ref f_how_many)))
    (l_how_many : K.lookup f_how_many = some ⟨oc_how_many, od_how_many, .func (PySem.W.fnOf "how_many" "how_many" (defArgs show_many) (defBody show_many) (defScope show_many) .none kV_how_many dc_how_many pm_how_many an_how_many cd_how_many ct_how_many), sl_how_many⟩) (c_how_many : PySem.W.codeIn K cd_how_many "how_many" = true) (k_how_many : PySem.W.keepIn K (.ref f_how_many) = true)
    (a_least : PySem.W.nsIn K mainGlobals "least" = some (some (.ref f_least)))
    (l_least : K.lookup f_least = some ⟨oc_least, od_least, .func (PySem.W.fnOf "least" "least" (defArgs sleast) (defBody sleast) (defScope sleast) .none kV_least dc_least pm_least an_least cd_least ct_least), sl_least⟩) (c_least : PySem.W.codeIn K cd_least "least" = true) (k_least : PySem.W.keepIn K (.ref f_least) = true)
    (a_greatest : PySem.W.nsIn K mainGlobals "greatest" = some (some (.ref f_greatest)))
    (l_greatest : K.lookup f_greatest = some ⟨oc_greatest, od_greatest, .func (PySem.W.fnOf "greatest" "greatest" (defArgs sgreatest) (defBody sgreatest) (defScope sgreatest) .none kV_greatest dc_greatest pm_greatest an_greatest cd_greatest ct_greatest), sl_greatest⟩) (c_greatest : PySem.W.codeIn K cd_greatest "greatest" = true) (k_greatest : PySem.W.keepIn K (.ref f_greatest) = true)
    (a_some_member : PySem.W.nsIn K mainGlobals "some_member" = some (some (.ref f_some_member)))
    (l_some_member : K.lookup f_some_member = some ⟨oc_some_member, od_some_member, .func (PySem.W.fnOf "some_member" "some_member" (defArgs ssome_member) (defBody ssome_member) (defScope ssome_member) .none kV_some_member dc_some_member pm_some_member an_some_member cd_some_member ct_some_member), sl_some_member⟩) (c_some_member : PySem.W.codeIn K cd_some_member "some_member" = true) (k_some_member : PySem.W.keepIn K (.ref f_some_member) = true)
    (a_member_but : PySem.W.nsIn K mainGlobals "member_but" = some (some (.ref f_member_but)))
    (l_member_but : K.lookup f_member_but = some ⟨oc_member_but, od_member_but, .func (PySem.W.fnOf "member_but" "member_but" (defArgs smember_but) (defBody smember_but) (defScope smember_but) .none kV_member_but dc_member_but pm_member_but an_member_but cd_member_but ct_member_but), sl_member_but⟩) (c_member_but : PySem.W.codeIn K cd_member_but "member_but" = true) (k_member_but : PySem.W.keepIn K (.ref f_member_but) = true)
    (a_low_of : PySem.W.nsIn K mainGlobals "low_of" = some (some (.ref f_low_of)))
    (l_low_of : K.lookup f_low_of = some ⟨oc_low_of, od_low_of, .func (PySem.W.fnOf "low_of" "low_of" (defArgs slow_of) (defBody slow_of) (defScope slow_of) .none kV_low_of dc_low_of pm_low_of an_low_of cd_low_of ct_low_of), sl_low_of⟩) (c_low_of : PySem.W.codeIn K cd_low_of "low_of" = true) (k_low_of : PySem.W.keepIn K (.ref f_low_of) = true)
    (a_law : PySem.W.nsIn K mainGlobals "law" = some (some (.ref f_law)))
    (l_law : K.lookup f_law = some ⟨oc_law, od_law, .func (PySem.W.fnOf "law" "law" (defArgs slaw) (defBody slaw) (defScope slaw) .none kV_law dc_law pm_law an_law cd_law ct_law), sl_law⟩) (c_law : PySem.W.codeIn K cd_law "law" = true) (k_law : PySem.W.keepIn K (.ref f_law) = true)
    (z_int : PySem.W.nsIn K mainGlobals "int" = some none)
    (z_len : PySem.W.nsIn K mainGlobals "len" = some none)
    (z_abs : PySem.W.nsIn K mainGlobals "abs" = some none)
    (z_range : PySem.W.nsIn K mainGlobals "range" = some none)
    (z_tuple : PySem.W.nsIn K mainGlobals "tuple" = some none)
    (z_list : PySem.W.nsIn K mainGlobals "list" = some none)
    (z_any : PySem.W.nsIn K mainGlobals "any" = some none)
    (z_sum : PySem.W.nsIn K mainGlobals "sum" = some none)
    (z_max : PySem.W.nsIn K mainGlobals "max" = some none)
    (z_min : PySem.W.nsIn K mainGlobals "min" = some none)
    (z_zip : PySem.W.nsIn K mainGlobals "zip" = some none)
    (z_sorted : PySem.W.nsIn K mainGlobals "sorted" = some none)
    (a_EV : PySem.W.nsIn K mainGlobals "EVERYTHING" = some (some (.ref E0))) (t_EV : K.lookup E0 = some ⟨.type "tuple", od0E, .seq #[.ref E1] n0E, sl0E⟩) (t_EW : K.lookup E1 = some ⟨.type "tuple", od1E, .seq #[.none, .none] n1E, sl1E⟩) :
    ∃ fd : FuncData, (∀ (s : Shared) (v : Value), BindsTo s fd ⟨[v], []⟩ [("_law_script", v)]) ∧ ∀ base : Heap, K.In base → base.Ns mainGlobals mg → FnOk l.prog w K mg base CX0 4 fa fd ["_law_script"] (spLaw K) := by
  have e := hfa.symm.trans (PySem.W.mg_of X G a_law)
  cases e
  have F_law_number := fun_mk (st := sL_number) l_law_number c_law_number k_law_number
  have B_law_number := F_law_number.binds (ps := ["_law_script", "_law_index"]) fun _ _ _ _ _ _ us hl => match us, hl with | [_, _], _ => rfl
  have M_law_number := PySem.W.mg_of X G a_law_number
  have h_law_number : Here K mg "_law_number" ["_law_script", "_law_index"] sL_number := ⟨_, _, F_law_number, M_law_number, B_law_number⟩
  have F_law_take := fun_mk (st := sL_take) l_law_take c_law_take k_law_take
  have B_law_take := F_law_take.binds (ps := ["_law_draw", "_law_many"]) fun _ _ _ _ _ _ us hl => match us, hl with | [_, _], _ => rfl
  have M_law_take := PySem.W.mg_of X G a_law_take
  have h_law_take : Here K mg "_law_take" ["_law_draw", "_law_many"] sL_take := ⟨_, _, F_law_take, M_law_take, B_law_take⟩
  have F_law_pairs := fun_mk (st := sL_pairs) l_law_pairs c_law_pairs k_law_pairs
  have B_law_pairs := F_law_pairs.binds (ps := ["_law_draw"]) fun _ _ _ _ _ _ us hl => match us, hl with | [_], _ => rfl
  have M_law_pairs := PySem.W.mg_of X G a_law_pairs
  have h_law_pairs : Here K mg "_law_pairs" ["_law_draw"] sL_pairs := ⟨_, _, F_law_pairs, M_law_pairs, B_law_pairs⟩
  have F_normal := fun_mk (st := snormal) l_normal c_normal k_normal
  have B_normal := F_normal.binds (ps := ["pairs"]) fun _ _ _ _ _ _ us hl => match us, hl with | [_], _ => rfl
  have M_normal := PySem.W.mg_of X G a_normal
  have h_normal : Here K mg "normal" ["pairs"] snormal := ⟨_, _, F_normal, M_normal, B_normal⟩
  have F_law_is_normal := fun_mk (st := sL_is_normal) l_law_is_normal c_law_is_normal k_law_is_normal
  have B_law_is_normal := F_law_is_normal.binds (ps := ["_law_one"]) fun _ _ _ _ _ _ us hl => match us, hl with | [_], _ => rfl
  have M_law_is_normal := PySem.W.mg_of X G a_law_is_normal
  have h_law_is_normal : Here K mg "_law_is_normal" ["_law_one"] sL_is_normal := ⟨_, _, F_law_is_normal, M_law_is_normal, B_law_is_normal⟩
  have F_others := fun_mk (st := sothers) l_others c_others k_others
  have B_others := F_others.binds (ps := ["one"]) fun _ _ _ _ _ _ us hl => match us, hl with | [_], _ => rfl
  have M_others := PySem.W.mg_of X G a_others
  have h_others : Here K mg "others" ["one"] sothers := ⟨_, _, F_others, M_others, B_others⟩
  have F_law_in := fun_mk (st := sL_in) l_law_in c_law_in k_law_in
  have B_law_in := F_law_in.binds (ps := ["_law_pairs_here", "_law_number_here"]) fun _ _ _ _ _ _ us hl => match us, hl with | [_, _], _ => rfl
  have M_law_in := PySem.W.mg_of X G a_law_in
  have h_law_in : Here K mg "_law_in" ["_law_pairs_here", "_law_number_here"] sL_in := ⟨_, _, F_law_in, M_law_in, B_law_in⟩
  have F_has := fun_mk (st := shas) l_has c_has k_has
  have B_has := F_has.binds (ps := ["one", "number"]) fun _ _ _ _ _ _ us hl => match us, hl with | [_, _], _ => rfl
  have M_has := PySem.W.mg_of X G a_has
  have h_has : Here K mg "has" ["one", "number"] shas := ⟨_, _, F_has, M_has, B_has⟩
  have F_union := fun_mk (st := sunion) l_union c_union k_union
  have B_union := F_union.binds (ps := ["one", "other"]) fun _ _ _ _ _ _ us hl => match us, hl with | [_, _], _ => rfl
  have M_union := PySem.W.mg_of X G a_union
  have h_union : Here K mg "union" ["one", "other"] sunion := ⟨_, _, F_union, M_union, B_union⟩
  have F_meet := fun_mk (st := smeet) l_meet c_meet k_meet
  have B_meet := F_meet.binds (ps := ["one", "other"]) fun _ _ _ _ _ _ us hl => match us, hl with | [_, _], _ => rfl
  have M_meet := PySem.W.mg_of X G a_meet
  have h_meet : Here K mg "meet" ["one", "other"] smeet := ⟨_, _, F_meet, M_meet, B_meet⟩
  have F_how_many := fun_mk (st := show_many) l_how_many c_how_many k_how_many
  have B_how_many := F_how_many.binds (ps := ["one"]) fun _ _ _ _ _ _ us hl => match us, hl with | [_], _ => rfl
  have M_how_many := PySem.W.mg_of X G a_how_many
  have h_how_many : Here K mg "how_many" ["one"] show_many := ⟨_, _, F_how_many, M_how_many, B_how_many⟩
  have F_least := fun_mk (st := sleast) l_least c_least k_least
  have B_least := F_least.binds (ps := ["one"]) fun _ _ _ _ _ _ us hl => match us, hl with | [_], _ => rfl
  have M_least := PySem.W.mg_of X G a_least
  have h_least : Here K mg "least" ["one"] sleast := ⟨_, _, F_least, M_least, B_least⟩
  have F_greatest := fun_mk (st := sgreatest) l_greatest c_greatest k_greatest
  have B_greatest := F_greatest.binds (ps := ["one"]) fun _ _ _ _ _ _ us hl => match us, hl with | [_], _ => rfl
  have M_greatest := PySem.W.mg_of X G a_greatest
  have h_greatest : Here K mg "greatest" ["one"] sgreatest := ⟨_, _, F_greatest, M_greatest, B_greatest⟩
  have F_some_member := fun_mk (st := ssome_member) l_some_member c_some_member k_some_member
  have B_some_member := F_some_member.binds (ps := ["one"]) fun _ _ _ _ _ _ us hl => match us, hl with | [_], _ => rfl
  have M_some_member := PySem.W.mg_of X G a_some_member
  have h_some_member : Here K mg "some_member" ["one"] ssome_member := ⟨_, _, F_some_member, M_some_member, B_some_member⟩
  have F_member_but := fun_mk (st := smember_but) l_member_but c_member_but k_member_but
  have B_member_but := F_member_but.binds (ps := ["one", "seen"]) fun _ _ _ _ _ _ us hl => match us, hl with | [_, _], _ => rfl
  have M_member_but := PySem.W.mg_of X G a_member_but
  have h_member_but : Here K mg "member_but" ["one", "seen"] smember_but := ⟨_, _, F_member_but, M_member_but, B_member_but⟩
  have F_low_of := fun_mk (st := slow_of) l_low_of c_low_of k_low_of
  have B_low_of := F_low_of.binds (ps := ["pair"]) fun _ _ _ _ _ _ us hl => match us, hl with | [_], _ => rfl
  have M_low_of := PySem.W.mg_of X G a_low_of
  have h_low_of : Here K mg "low_of" ["pair"] slow_of := ⟨_, _, F_low_of, M_low_of, B_low_of⟩
  have F_law := fun_mk (st := slaw) l_law c_law k_law
  have Z_int := PySem.W.mg_none_of X G z_int
  have Z_len := PySem.W.mg_none_of X G z_len
  have Z_abs := PySem.W.mg_none_of X G z_abs
  have Z_range := PySem.W.mg_none_of X G z_range
  have Z_tuple := PySem.W.mg_none_of X G z_tuple
  have Z_list := PySem.W.mg_none_of X G z_list
  have Z_any := PySem.W.mg_none_of X G z_any
  have Z_sum := PySem.W.mg_none_of X G z_sum
  have Z_max := PySem.W.mg_none_of X G z_max
  have Z_min := PySem.W.mg_none_of X G z_min
  have Z_zip := PySem.W.mg_none_of X G z_zip
  have Z_sorted := PySem.W.mg_none_of X G z_sorted
  exact ⟨PySem.W.fnOf "law" "law" (defArgs slaw) (defBody slaw) (defScope slaw) .none kV_law dc_law pm_law an_law cd_law ct_law, fun s v => .of_eq rfl, fun base _ _ => ok_law F_law ⟨⟨Z_int, Z_len, Z_abs⟩, Z_len, Z_range, Z_tuple, Z_list, Z_any, Z_sum, Z_max, Z_min, Z_zip, Z_sorted⟩ (PySem.W.mg_of X G a_EV) (every_mk t_EV t_EW) (low_mk M_low_of l_low_of c_low_of) h_law_number h_law_take h_law_pairs h_normal h_law_is_normal h_others h_law_in h_has h_union h_meet h_how_many h_least h_greatest h_some_member h_member_but⟩
theorem walk {l : PySem.W.OpenLaw} {q : Program} {loose : List Str} {XP : (Str → Option Value) → Heap → Prop} {YP : World → Heap → Prop} {d : DefRec} {K : Params → PySem.W.Frag} (hn : l.most = some 63) (hdf : d.params.defaults = [])
    (hY : ∀ (w : World) (h : Heap), YP w h → (K w.params).In h)
    (F : ∀ (w : World) (mg : Str → Option Value) (fa : Addr) (h : Heap), (K w.params).In h → h.Ns mainGlobals mg → mg d.name = some (.ref fa) →
      ∃ fd : FuncData, (∀ (s : Shared) (u : Value), BindsTo s fd ⟨[u], []⟩ [("_law_script", u)]) ∧ ∀ base : Heap, (K w.params).In base → base.Ns mainGlobals mg → FnOk l.prog w (K w.params) mg base CX0 4 fa fd ["_law_script"] (spLaw (K w.params))) :
    PySem.W.WalkO q loose XP YP l.row.toRowW d [] (fun f vs => PySem.call f vs) :=
  L2.walk_of (n := 63) (k := 4) (x := "_law_script") (CX := fun _ => CX0) (sp := fun w => spLaw (K w.params)) hn (by decide) hdf ⟨rfl, by decide, by decide⟩ hY F (fun _ _ a ns hl _ hS => ⟨a, ns, rfl, hS, hl, fun _ => rfl⟩) fun _ _ _ _ _ z => z
end S55
open PySem PySem.W PyProof.Rows
set_option maxRecDepth 100000 in
set_option maxHeartbeats 0 in
theorem PySem.Challenge.cw_streamsure_k55_whole_sets_holds : PySem.Challenge.rw_streamsure_k55_whole_sets.Holds := by
  w_on; o_law; k_head; (case hw => w_witness2)
  k_fill
  refine S55.walk (l := PySem.Challenge.rw_streamsure_k55_whole_sets) rfl rfl (fun w h Y => PySem.W.kIn_of Y) ?F
  case F =>
    intro w mg fa h KX G hmg
    refine' S55.all_mk KX G hmg ?a_law_number ?l_law_number ?c_law_number ?k_law_number ?a_law_take ?l_law_take ?c_law_take ?k_law_take ?a_law_pairs ?l_law_pairs ?c_law_pairs ?k_law_pairs ?a_normal ?l_normal ?c_normal ?k_normal ?a_law_is_normal ?l_law_is_normal ?c_law_is_normal ?k_law_is_normal ?a_others ?l_others ?c_others ?k_others ?a_law_in ?l_law_in ?c_law_in ?k_law_in ?a_has ?l_has ?c_has ?k_has ?a_union ?l_union ?c_union ?k_union ?a_meet ?l_meet ?c_meet ?k_meet ?a_how_many ?l_how_many ?c_how_many ?k_how_many ?a_least ?l_least ?c_least ?k_least ?a_greatest ?l_greatest ?c_greatest ?k_greatest ?a_some_member ?l_some_member ?c_some_member ?k_some_member ?a_member_but ?l_member_but ?c_member_but ?k_member_but ?a_low_of ?l_low_of ?c_low_of ?k_low_of ?a_law ?l_law ?c_law ?k_law ?z_int ?z_len ?z_abs ?z_range ?z_tuple ?z_list ?z_any ?z_sum ?z_max ?z_min ?z_zip ?z_sorted ?a_EV ?t_EV ?t_EW
    (case a_law_number => k_is)
    (case l_law_number => k_is)
    (case c_law_number => k_is)
    (case k_law_number => k_is)
    (case a_law_take => k_is)
    (case l_law_take => k_is)
    (case c_law_take => k_is)
    (case k_law_take => k_is)
    (case a_law_pairs => k_is)
    (case l_law_pairs => k_is)
    (case c_law_pairs => k_is)
    (case k_law_pairs => k_is)
    (case a_normal => k_is)
    (case l_normal => k_is)
    (case c_normal => k_is)
    (case k_normal => k_is)
    (case a_law_is_normal => k_is)
    (case l_law_is_normal => k_is)
    (case c_law_is_normal => k_is)
    (case k_law_is_normal => k_is)
    (case a_others => k_is)
    (case l_others => k_is)
    (case c_others => k_is)
    (case k_others => k_is)
    (case a_law_in => k_is)
    (case l_law_in => k_is)
    (case c_law_in => k_is)
    (case k_law_in => k_is)
    (case a_has => k_is)
    (case l_has => k_is)
    (case c_has => k_is)
    (case k_has => k_is)
    (case a_union => k_is)
    (case l_union => k_is)
    (case c_union => k_is)
    (case k_union => k_is)
    (case a_meet => k_is)
    (case l_meet => k_is)
    (case c_meet => k_is)
    (case k_meet => k_is)
    (case a_how_many => k_is)
    (case l_how_many => k_is)
    (case c_how_many => k_is)
    (case k_how_many => k_is)
    (case a_least => k_is)
    (case l_least => k_is)
    (case c_least => k_is)
    (case k_least => k_is)
    (case a_greatest => k_is)
    (case l_greatest => k_is)
    (case c_greatest => k_is)
    (case k_greatest => k_is)
    (case a_some_member => k_is)
    (case l_some_member => k_is)
    (case c_some_member => k_is)
    (case k_some_member => k_is)
    (case a_member_but => k_is)
    (case l_member_but => k_is)
    (case c_member_but => k_is)
    (case k_member_but => k_is)
    (case a_low_of => k_is)
    (case l_low_of => k_is)
    (case c_low_of => k_is)
    (case k_low_of => k_is)
    (case a_law => k_is)
    (case l_law => k_is)
    (case c_law => k_is)
    (case k_law => k_is)
    (case z_int => k_is)
    (case z_len => k_is)
    (case z_abs => k_is)
    (case z_range => k_is)
    (case z_tuple => k_is)
    (case z_list => k_is)
    (case z_any => k_is)
    (case z_sum => k_is)
    (case z_max => k_is)
    (case z_min => k_is)
    (case z_zip => k_is)
    (case z_sorted => k_is)
    (case a_EV => k_is)
    (case t_EV => k_is)
    (case t_EW => k_is)
#print axioms PySem.Challenge.cw_streamsure_k55_whole_sets_holds
