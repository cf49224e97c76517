import PyProof.Rows.All
import Wide.All
import OpenK.AllK
import Wide.FinOn
import HandS.ForMost
import HandS.TupAny
import HandS.Walk
import HandS.Zip
import HandS.SortKw
import KE.SortKeyHeap
import HandS.Style
import KE.DataMinMax
import KE.SortData
import HandS.Iter
import HandS.Text
import HandS.IsInst
import KE.KExcSuper
import HandS.ExcInit
import HandS.ExcField
import HandS.WordsExc
import KE.GoesEnum
import KE.GoesMore
import KE.IntTextLaws
import HandS.ExcIs
import PySem.Challenge.RW_streamsure_k02_whole_cuts
set_option Elab.async false
set_option maxRecDepth 100000
set_option maxHeartbeats 4000000
set_option linter.all false
/-! Readings over plain data: data D, what represents them, frames with owned lists. -/
namespace Y
open PySem L2
/-- plain data -/
inductive D where
  | non | bl (b : Bool) | int (i : Int) | str (s : Str)
  | tup (xs : List D) | lst (xs : List D) | dct (kvs : List (Key × D)) | ins (C : Addr) (fs : List (Str × D))
mutual
/-- v represents d in the heap H -/
def R (K : PySem.W.Frag) (H : Hp) : D → V → Prop
  | .non, v => v = .non
  | .bl b, v => v = .bl b
  | .int i, v => v = .int i
  | .str s, v => v = .str s
  | .tup ds, v => ∃ a vs, v = .ref a ∧ SqT K H a vs ∧ RL K H ds vs
  | .lst ds, v => ∃ a vs, v = .ref a ∧ H a = some (.lst vs) ∧ RL K H ds vs
  | .dct kvs, v => ∃ a ws, v = .ref a ∧ H a = some (.dK ws) ∧ RK K H kvs ws
  | .ins C fs, v => ∃ a dx ws, v = .ref a ∧ H a = some (.ins C dx ws) ∧ RF K H fs ws
def RL (K : PySem.W.Frag) (H : Hp) : List D → List V → Prop
  | [], vs => vs = []
  | d :: ds, vs => ∃ v r, vs = v :: r ∧ R K H d v ∧ RL K H ds r
def RK (K : PySem.W.Frag) (H : Hp) : List (Key × D) → List (Key × V) → Prop
  | [], ws => ws = []
  | (k, d) :: ds, ws => ∃ v r, ws = (k, v) :: r ∧ R K H d v ∧ RK K H ds r
def RF (K : PySem.W.Frag) (H : Hp) : List (Str × D) → List (Str × V) → Prop
  | [], ws => ws = []
  | (k, d) :: ds, ws => ∃ v r, ws = (k, v) :: r ∧ R K H d v ∧ RF K H ds r
end
section
variable {K : PySem.W.Frag} {H H' : Hp}
theorem sqt_same {a : Addr} {xs : List V} (e : Same H H') (h : SqT K H a xs) : SqT K H' a xs := by
  rcases h with (h | ⟨o, h⟩) | h
  · exact .inl (.inl (e _ _ h))
  · exact .inl (.inr ⟨o, e _ _ h⟩)
  · exact .inr h
mutual
theorem R.mono (e : Same H H') : ∀ (d : D) (v : V), R K H d v → R K H' d v
  | .non, _, h => h
  | .bl _, _, h => h
  | .int _, _, h => h
  | .str _, _, h => h
  | .tup ds, v, h => by
    unfold R at h ⊢
    obtain ⟨a, vs, rfl, h1, h2⟩ := h
    exact ⟨a, vs, rfl, sqt_same e h1, RL.mono e ds vs h2⟩
  | .lst ds, v, h => by
    unfold R at h ⊢
    obtain ⟨a, vs, rfl, h1, h2⟩ := h
    exact ⟨a, vs, rfl, e _ _ h1, RL.mono e ds vs h2⟩
  | .dct kvs, v, h => by
    unfold R at h ⊢
    obtain ⟨a, vs, rfl, h1, h2⟩ := h
    exact ⟨a, vs, rfl, e _ _ h1, RK.mono e kvs vs h2⟩
  | .ins C fs, v, h => by
    unfold R at h ⊢
    obtain ⟨a, dx, vs, rfl, h1, h2⟩ := h
    exact ⟨a, dx, vs, rfl, e _ _ h1, RF.mono e fs vs h2⟩
theorem RL.mono (e : Same H H') : ∀ (ds : List D) (vs : List V), RL K H ds vs → RL K H' ds vs
  | [], _, h => h
  | d :: ds, vs, h => by
    unfold RL at h ⊢
    obtain ⟨v, r, rfl, h1, h2⟩ := h
    exact ⟨v, r, rfl, R.mono e d v h1, RL.mono e ds r h2⟩
theorem RK.mono (e : Same H H') : ∀ (ds : List (Key × D)) (vs : List (Key × V)), RK K H ds vs → RK K H' ds vs
  | [], _, h => h
  | (k, d) :: ds, vs, h => by
    unfold RK at h ⊢
    obtain ⟨v, r, rfl, h1, h2⟩ := h
    exact ⟨v, r, rfl, R.mono e d v h1, RK.mono e ds r h2⟩
theorem RF.mono (e : Same H H') : ∀ (ds : List (Str × D)) (vs : List (Str × V)), RF K H ds vs → RF K H' ds vs
  | [], _, h => h
  | (k, d) :: ds, vs, h => by
    unfold RF at h ⊢
    obtain ⟨v, r, rfl, h1, h2⟩ := h
    exact ⟨v, r, rfl, R.mono e d v h1, RF.mono e ds r h2⟩
end
theorem RL.length : ∀ {ds : List D} {vs : List V}, RL K H ds vs → vs.length = ds.length
  | [], _, h => by unfold RL at h; rw [h]; rfl
  | d :: ds, vs, h => by
    unfold RL at h
    obtain ⟨v, r, rfl, _, h2⟩ := h
    rw [List.length_cons, List.length_cons, RL.length h2]
theorem RL.get : ∀ {ds : List D} {vs : List V} {i : Nat} {d : D}, RL K H ds vs → ds[i]? = some d → ∃ v, vs[i]? = some v ∧ R K H d v
  | [], _, _, _, _, e => by simp at e
  | d :: ds, vs, 0, x, h, e => by
    unfold RL at h
    obtain ⟨v, r, rfl, h1, _⟩ := h
    simp at e; subst e
    exact ⟨v, rfl, h1⟩
  | d :: ds, vs, i + 1, x, h, e => by
    unfold RL at h
    obtain ⟨v, r, rfl, _, h2⟩ := h
    obtain ⟨u, h3, h4⟩ := RL.get (i := i) h2 (by simpa using e)
    exact ⟨u, by simpa using h3, h4⟩
theorem RL.get' : ∀ {ds : List D} {vs : List V} {i : Nat} {v : V}, RL K H ds vs → vs[i]? = some v → ∃ d, ds[i]? = some d ∧ R K H d v := by
  intro ds vs i v h e
  have hl := h.length
  have hi : i < vs.length := (List.getElem?_eq_some_iff.mp e).1
  obtain ⟨u, h1, h2⟩ := h.get (i := i) (List.getElem?_eq_getElem (hl ▸ hi))
  rw [e] at h1
  cases h1
  exact ⟨_, List.getElem?_eq_getElem (hl ▸ hi), h2⟩
theorem RL.append : ∀ {ds es : List D} {vs us : List V}, RL K H ds vs → RL K H es us → RL K H (ds ++ es) (vs ++ us)
  | [], _, _, _, h, g => by unfold RL at h; subst h; exact g
  | d :: ds, es, vs, us, h, g => by
    unfold RL at h
    obtain ⟨v, r, rfl, h1, h2⟩ := h
    show RL K H (d :: (ds ++ es)) (v :: (r ++ us))
    unfold RL
    exact ⟨v, _, rfl, h1, RL.append h2 g⟩
theorem RL.nil : RL K H [] [] := by unfold RL; rfl
theorem RL.cons {d : D} {v : V} {ds : List D} {vs : List V} (h : R K H d v) (g : RL K H ds vs) : RL K H (d :: ds) (v :: vs) := by unfold RL; exact ⟨v, vs, rfl, h, g⟩
theorem RL.one {d : D} {v : V} (h : R K H d v) : RL K H [d] [v] := .cons h .nil
theorem RL.snoc {ds : List D} {vs : List V} {d : D} {v : V} (h : RL K H ds vs) (g : R K H d v) : RL K H (ds ++ [d]) (vs ++ [v]) := h.append (.one g)
theorem RL.drop : ∀ {ds : List D} {vs : List V} (n : Nat), RL K H ds vs → RL K H (ds.drop n) (vs.drop n)
  | _, _, 0, h => h
  | [], _, n + 1, h => by unfold RL at h; subst h; exact .nil
  | d :: ds, vs, n + 1, h => by
    unfold RL at h
    obtain ⟨v, r, rfl, _, h2⟩ := h
    exact RL.drop n h2
theorem RL.take : ∀ {ds : List D} {vs : List V} (n : Nat), RL K H ds vs → RL K H (ds.take n) (vs.take n)
  | _, _, 0, _ => .nil
  | [], _, n + 1, h => by unfold RL at h; subst h; exact .nil
  | d :: ds, vs, n + 1, h => by
    unfold RL at h
    obtain ⟨v, r, rfl, h1, h2⟩ := h
    exact .cons h1 (RL.take n h2)
theorem RL.set {ds : List D} {vs : List V} {d : D} {v : V} (hd : R K H d v) : ∀ (i : Nat), RL K H ds vs → RL K H (ds.set i d) (vs.set i v) := by
  induction ds generalizing vs with
  | nil => intro i h; unfold RL at h; subst h; exact .nil
  | cons x ds ih =>
    intro i h
    unfold RL at h
    obtain ⟨u, r, rfl, h1, h2⟩ := h
    cases i with
    | zero => exact .cons hd h2
    | succ i => exact .cons h1 (ih i h2)
theorem R.tup {a : Addr} {ds : List D} {vs : List V} (h : SqT K H a vs) (g : RL K H ds vs) : R K H (.tup ds) (.ref a) := by unfold R; exact ⟨a, vs, rfl, h, g⟩
theorem R.lst {a : Addr} {ds : List D} {vs : List V} (h : H a = some (.lst vs)) (g : RL K H ds vs) : R K H (.lst ds) (.ref a) := by unfold R; exact ⟨a, vs, rfl, h, g⟩
theorem R.int_ {i : Int} : R K H (.int i) (.int i) := rfl
theorem R.bl_ {i : Bool} : R K H (.bl i) (.bl i) := rfl
theorem R.str_ {i : Str} : R K H (.str i) (.str i) := rfl
theorem R.non_ : R K H .non .non := rfl
theorem R.tupE {ds : List D} {v : V} (h : R K H (.tup ds) v) : ∃ a vs, v = .ref a ∧ SqT K H a vs ∧ RL K H ds vs := by unfold R at h; exact h
theorem R.lstE {ds : List D} {v : V} (h : R K H (.lst ds) v) : ∃ a vs, v = .ref a ∧ H a = some (.lst vs) ∧ RL K H ds vs := by unfold R at h; exact h
theorem RL.consE {d : D} {ds : List D} {vs : List V} (h : RL K H (d :: ds) vs) : ∃ v r, vs = v :: r ∧ R K H d v ∧ RL K H ds r := by unfold RL at h; exact h
theorem RL.nilE {vs : List V} (h : RL K H [] vs) : vs = [] := by unfold RL at h; exact h
end

/-! ### frames -/
/-- a slot: unknown; frozen data; a list of ours, data in it; the draw; a caught exception, its dict -/
inductive Sl where
  | no | d (d : D) | ol (xs : List D) | dr | ex (a d : Addr) (fs : List (Str × D))
structure Ctx where
  G0 : Hp
  H0 : Hp
  da : Option Addr
/-- the draw's cell -/
def DrC (K : PySem.W.Frag) (G H : Hp) (a : Addr) : Prop := G a = none ∧ ∃ (s : Addr) (n : Int) (ns : List Int), H a = some (.lst [.ref s, .int n]) ∧ SqL K G s (ns.map V.int)
def SlOk (K : PySem.W.Frag) (c : Ctx) (G H : Hp) : Sl → Option V → Prop
  | .no, _ => True
  | .d d, o => ∃ v, o = some v ∧ R K G d v
  | .ol ds, o => ∃ a vs, o = some (.ref a) ∧ H a = some (.lst vs) ∧ RL K G ds vs ∧ G a = none ∧ c.H0 a = none
  | .dr, o => ∃ a, o = some (.ref a) ∧ c.da = some a
  | .ex a d fs, o => o = some (.ref a) ∧ ∃ ws, G d = some (.xd ws) ∧ RF K G fs ws
def ownAt : Sl → Option V → Option Addr
  | .ol _, some (.ref a) => some a
  | _, _ => none
structure Fr (K : PySem.W.Frag) (c : Ctx) (G H : Hp) (env : List Sl) (σ : St) : Prop where
  hb : ∀ a o, c.H0 a = some o → c.da ≠ some a → H a = some o
  gg : Same c.G0 G
  gh : Same G H
  old : ∀ a o, c.H0 a = some o → c.G0 a = none → G a = none
  dr0 : ∀ a, c.da = some a → ∃ o, c.H0 a = some o
  dr : ∀ a, c.da = some a → DrC K G H a
  len : env.length = σ.length
  sl : ∀ (i : Nat) (s : Sl) (o : Option V), env[i]? = some s → σ[i]? = some o → SlOk K c G H s o
  sep : ∀ (i j : Nat) (a : Addr) (si sj : Sl) (oi oj : Option V), env[i]? = some si → σ[i]? = some oi → env[j]? = some sj → σ[j]? = some oj → ownAt si oi = some a → ownAt sj oj = some a → i = j
/-- how heaps go on -/
structure Gr (K : PySem.W.Frag) (da : Option Addr) (G H G' H' : Hp) : Prop where
  gg : Same G G'
  gh : Same G' H'
  hh : ∀ a o, H a = some o → da ≠ some a → H' a = some o
  old : ∀ a o, H a = some o → G a = none → G' a = none
  dr : ∀ a, da = some a → DrC K G' H' a
section
variable {K : PySem.W.Frag} {c : Ctx} {G H G' H' : Hp} {env : List Sl} {σ : St}
theorem Fr.own_ne (f : Fr K c G H env σ) {a : Addr} (h : c.H0 a = none) : c.da ≠ some a := fun e => by
  obtain ⟨o, q⟩ := f.dr0 a e
  rw [h] at q; cases q
theorem Fr.step (f : Fr K c G H env σ) (g : Gr K c.da G H G' H') : Fr K c G' H' env σ where
  hb := fun a o h n => g.hh a o (f.hb a o h n) n
  gg := f.gg.trans g.gg
  gh := g.gh
  old := fun a o h n => by
    have h1 := f.old a o h n
    by_cases e : c.da = some a
    · obtain ⟨_, s, k, ns, h2, _⟩ := f.dr a e
      exact g.old a _ h2 h1
    · exact g.old a o (f.hb a o h e) h1
  dr0 := f.dr0
  dr := g.dr
  len := f.len
  sl := fun i s o h1 h2 => by
    have q := f.sl i s o h1 h2
    cases s with
    | no => trivial
    | d d => obtain ⟨v, e, r⟩ := q; exact ⟨v, e, r.mono g.gg⟩
    | ol ds =>
      obtain ⟨a, vs, e, e1, r, e2, e3⟩ := q
      exact ⟨a, vs, e, g.hh a _ e1 (f.own_ne e3), RL.mono g.gg _ _ r, g.old a _ e1 e2, e3⟩
    | dr => exact q
    | ex a d fs => obtain ⟨e, ws, h1, h2⟩ := q; exact ⟨e, ws, g.gg _ _ h1, RF.mono g.gg _ _ h2⟩
  sep := f.sep
theorem Gr.refl (f : Fr K c G H env σ) : Gr K c.da G H G H := ⟨Same.refl G, f.gh, fun _ _ h _ => h, fun _ _ _ h => h, f.dr⟩
theorem DrC.same {a : Addr} (d : DrC K G H a) (gg : Same G G') (n : G' a = none) (hh : ∀ o, H a = some o → H' a = some o) : DrC K G' H' a := by
  obtain ⟨_, s, k, ns, h2, h3⟩ := d
  exact ⟨n, s, k, ns, hh _ h2, gg.seq h3⟩
/-- a new frozen thing -/
theorem Fr.newG (f : Fr K c G H env σ) {p : Addr} {o : HO} (h : H p = none) : Gr K c.da G H (upd G p o) (upd H p o) where
  gg := Same.trans (Same.refl G) (fun b u e => by rw [upd_ne (ne_of_none (f.gh _ _ e) h)]; exact e)
  gh := fun b u e => by
    by_cases q : b = p
    · rw [q, upd_same] at e ⊢; exact e
    · rw [upd_ne q] at e ⊢; exact f.gh _ _ e
  hh := fun a u e _ => by rw [upd_ne (ne_of_none e h)]; exact e
  old := fun a u e n => by rw [upd_ne (ne_of_none e h)]; exact n
  dr := fun a e => by
    obtain ⟨n, s, k, ns, h2, h3⟩ := f.dr a e
    refine ⟨by rw [upd_ne (ne_of_none h2 h)]; exact n, s, k, ns, by rw [upd_ne (ne_of_none h2 h)]; exact h2, ?_⟩
    exact (show Same G (upd G p o) from fun b u e => by rw [upd_ne (ne_of_none (f.gh _ _ e) h)]; exact e).seq h3
/-- a new thing that is not frozen -/
theorem Fr.newH (f : Fr K c G H env σ) {p : Addr} {o : HO} (h : H p = none) : Gr K c.da G H G (upd H p o) where
  gg := Same.refl G
  gh := fun b u e => by rw [upd_ne (ne_of_none (f.gh _ _ e) h)]; exact f.gh _ _ e
  hh := fun a u e _ => by rw [upd_ne (ne_of_none e h)]; exact e
  old := fun _ _ _ n => n
  dr := fun a e => (f.dr a e).same (Same.refl G) (f.dr a e).1 fun o' h' => by rw [upd_ne (ne_of_none h' h)]; exact h'
theorem Fr.gnone (f : Fr K c G H env σ) {p : Addr} (h : H p = none) : G p = none := f.gh.free h
theorem Fr.h0none (f : Fr K c G H env σ) {p : Addr} (h : H p = none) : c.H0 p = none := by
  cases e : c.H0 p with
  | none => rfl
  | some o =>
    by_cases q : c.da = some p
    · obtain ⟨_, s, k, ns, h2, _⟩ := f.dr p q
      rw [h] at h2; cases h2
    · rw [f.hb p o e q] at h; cases h
def NoOwn (env : List Sl) (σ : St) (a : Addr) : Prop := ∀ (j : Nat) (s : Sl) (o : Option V), env[j]? = some s → σ[j]? = some o → ownAt s o ≠ some a
theorem Fr.noOwn (f : Fr K c G H env σ) {p : Addr} (h : H p = none) : NoOwn env σ p := fun j s o h1 h2 e => by
  have q := f.sl j s o h1 h2
  cases s with
  | ol ds =>
    obtain ⟨a, vs, rfl, e1, _⟩ := q
    cases e
    rw [h] at e1; cases e1
  | _ => cases e
theorem len_set {α : Type} (l : List α) (i : Nat) (x : α) : (l.set i x).length = l.length := List.length_set
/-- a slot takes frozen data (or is forgotten) -/
theorem Fr.set (f : Fr K c G H env σ) (i : Nat) {s : Sl} {o : Option V} (h : SlOk K c G H s o) (n : ∀ a, ownAt s o = some a → NoOwn env σ a) : Fr K c G H (env.set i s) (σ.set i o) where
  hb := f.hb
  gg := f.gg
  gh := f.gh
  old := f.old
  dr0 := f.dr0
  dr := f.dr
  len := by rw [List.length_set, List.length_set, f.len]
  sl := fun j s' o' h1 h2 => by
    by_cases e : j = i
    · subst e
      have hj : j < env.length := by have := (List.getElem?_eq_some_iff.mp h1).1; rwa [List.length_set] at this
      rw [List.getElem?_set_self hj] at h1
      rw [List.getElem?_set_self (f.len ▸ hj)] at h2
      cases h1; cases h2; exact h
    · rw [List.getElem?_set_ne (Ne.symm e)] at h1 h2
      exact f.sl j s' o' h1 h2
  sep := fun j k a sj sk oj ok h1 h2 h3 h4 h5 h6 => by
    have get : ∀ (j : Nat) (sj : Sl) (oj : Option V), (env.set i s)[j]? = some sj → (σ.set i o)[j]? = some oj → (j = i ∧ sj = s ∧ oj = o) ∨ (j ≠ i ∧ env[j]? = some sj ∧ σ[j]? = some oj) := by
      intro j sj oj h1 h2
      by_cases e : j = i
      · subst e
        have hj : j < env.length := by have := (List.getElem?_eq_some_iff.mp h1).1; rwa [List.length_set] at this
        rw [List.getElem?_set_self hj] at h1
        rw [List.getElem?_set_self (f.len ▸ hj)] at h2
        cases h1; cases h2
        exact .inl ⟨rfl, rfl, rfl⟩
      · rw [List.getElem?_set_ne (Ne.symm e)] at h1 h2
        exact .inr ⟨e, h1, h2⟩
    rcases get j sj oj h1 h2 with ⟨e1, e2, e3⟩ | ⟨e1, e2, e3⟩
    · rcases get k sk ok h3 h4 with ⟨g1, g2, g3⟩ | ⟨g1, g2, g3⟩
      · rw [e1, g1]
      · subst e2; subst e3
        exact absurd h6 (n a h5 k sk ok g2 g3)
    · rcases get k sk ok h3 h4 with ⟨g1, g2, g3⟩ | ⟨g1, g2, g3⟩
      · subst g2; subst g3
        exact absurd h5 (n a h6 j sj oj e2 e3)
      · exact f.sep j k a sj sk oj ok e2 e3 g2 g3 h5 h6
theorem Fr.setD (f : Fr K c G H env σ) (i : Nat) {d : D} {v : V} (h : R K G d v) : Fr K c G H (env.set i (.d d)) (σ.set i (some v)) := f.set i ⟨v, rfl, h⟩ fun a e => by cases e
theorem Fr.setNo (f : Fr K c G H env σ) (i : Nat) (o : Option V) : Fr K c G H (env.set i .no) (σ.set i o) := f.set i trivial fun a e => by cases e
theorem Fr.get (f : Fr K c G H env σ) {i : Nat} {s : Sl} (h : env[i]? = some s) : ∃ o, σ[i]? = some o ∧ SlOk K c G H s o := by
  have hi : i < env.length := (List.getElem?_eq_some_iff.mp h).1
  have e : σ[i]? = some (σ[i]'(f.len ▸ hi)) := List.getElem?_eq_getElem (f.len ▸ hi)
  exact ⟨_, e, f.sl i s _ h e⟩
theorem Fr.getD (f : Fr K c G H env σ) {i : Nat} {d : D} (h : env[i]? = some (.d d)) : ∃ v, σ[i]? = some (some v) ∧ R K G d v := by
  obtain ⟨o, e, v, rfl, r⟩ := f.get h
  exact ⟨v, e, r⟩
theorem Fr.getO (f : Fr K c G H env σ) {i : Nat} {ds : List D} (h : env[i]? = some (.ol ds)) : ∃ a vs, σ[i]? = some (some (.ref a)) ∧ H a = some (.lst vs) ∧ RL K G ds vs ∧ G a = none ∧ c.H0 a = none := by
  obtain ⟨o, e, a, vs, rfl, q⟩ := f.get h
  exact ⟨a, vs, e, q⟩
/-- an owned list is written -/
theorem Fr.write (f : Fr K c G H env σ) {i : Nat} {ds es : List D} {a : Addr} {us : List V} (h : env[i]? = some (.ol ds)) (ha : σ[i]? = some (some (.ref a))) (r : RL K G es us) : Fr K c G (upd H a (.lst us)) (env.set i (.ol es)) σ := by
  obtain ⟨a', vs, e, h1, h2, h3, h4⟩ := f.getO h
  rw [ha] at e; cases e
  refine ⟨fun b o hb n => ?_, f.gg, fun b o hb => ?_, f.old, f.dr0, fun b e => ?_, by rw [List.length_set]; exact f.len, fun j s o g1 g2 => ?_, fun j k b sj sk oj ok g1 g2 g3 g4 g5 g6 => ?_⟩
  · rw [upd_ne (fun z => by rw [z, h4] at hb; cases hb)]; exact f.hb b o hb n
  · rw [upd_ne (fun z => by rw [z, h3] at hb; cases hb)]; exact f.gh b o hb
  · have nb : b ≠ a := fun z => f.own_ne h4 (z ▸ e)
    exact (f.dr b e).same (Same.refl G) (f.dr b e).1 fun o q => by rw [upd_ne nb]; exact q
  · by_cases e : j = i
    · subst e
      rw [ha] at g2; cases g2
      rw [List.getElem?_set_self (List.getElem?_eq_some_iff.mp h).1] at g1
      cases g1
      exact ⟨a, us, rfl, upd_same, r, h3, h4⟩
    · rw [List.getElem?_set_ne (Ne.symm e)] at g1
      have q := f.sl j s o g1 g2
      cases s with
      | no => trivial
      | d d => exact q
      | ol xs =>
        obtain ⟨b, ws, rfl, e1, r', e2, e3⟩ := q
        have nb : b ≠ a := fun z => e (f.sep j i b _ _ _ _ g1 g2 h ha rfl (by rw [z]; rfl))
        exact ⟨b, ws, rfl, by rw [upd_ne nb]; exact e1, r', e2, e3⟩
      | dr => exact q
      | ex b d fs => exact q
  · have get : ∀ (j : Nat) (sj : Sl) (oj : Option V), (env.set i (.ol es))[j]? = some sj → σ[j]? = some oj → ownAt sj oj = some b → ∃ s', env[j]? = some s' ∧ ownAt s' oj = some b := by
      intro j sj oj g1 g2 g5
      by_cases e : j = i
      · subst e
        rw [List.getElem?_set_self (List.getElem?_eq_some_iff.mp h).1] at g1
        cases g1
        refine ⟨_, h, ?_⟩
        cases oj with
        | none => cases g5
        | some v => cases v <;> first | exact g5 | cases g5
      · rw [List.getElem?_set_ne (Ne.symm e)] at g1
        exact ⟨_, g1, g5⟩
    obtain ⟨s1, k1, k2⟩ := get j sj oj g1 g2 g5
    obtain ⟨s2, k3, k4⟩ := get k sk ok g3 g4 g6
    exact f.sep j k b _ _ _ _ k1 g2 k3 g4 k2 k4
/-- an owned list is frozen -/
theorem Fr.freeze (f : Fr K c G H env σ) {i : Nat} {ds : List D} (h : env[i]? = some (.ol ds)) : ∃ a vs, σ[i]? = some (some (.ref a)) ∧ H a = some (.lst vs) ∧ RL K G ds vs ∧ Same G (upd G a (.lst vs)) ∧ Fr K c (upd G a (.lst vs)) H (env.set i (.d (.lst ds))) σ := by
  obtain ⟨a, vs, ha, h1, h2, h3, h4⟩ := f.getO h
  have sm : Same G (upd G a (.lst vs)) := fun b o hb => by rw [upd_ne (ne_of_none hb h3)]; exact hb
  refine ⟨a, vs, ha, h1, h2, sm, f.hb, f.gg.trans sm, fun b o hb => ?_, fun b o hb n => ?_, f.dr0, fun b e => ?_, by rw [List.length_set]; exact f.len, fun j s o g1 g2 => ?_, fun j k b sj sk oj ok g1 g2 g3 g4 g5 g6 => ?_⟩
  · by_cases e : b = a
    · rw [e, upd_same] at hb; cases hb; rw [e]; exact h1
    · rw [upd_ne e] at hb; exact f.gh b o hb
  · rw [upd_ne (fun z => by rw [z, h4] at hb; cases hb)]; exact f.old b o hb n
  · have nb : b ≠ a := fun z => f.own_ne h4 (z ▸ e)
    exact (f.dr b e).same sm (by rw [upd_ne nb]; exact (f.dr b e).1) fun o q => q
  · by_cases e : j = i
    · subst e
      rw [ha] at g2; cases g2
      rw [List.getElem?_set_self (List.getElem?_eq_some_iff.mp h).1] at g1
      cases g1
      exact ⟨.ref a, rfl, .lst upd_same (RL.mono sm _ _ h2)⟩
    · rw [List.getElem?_set_ne (Ne.symm e)] at g1
      have q := f.sl j s o g1 g2
      cases s with
      | no => trivial
      | d d => obtain ⟨v, e1, r⟩ := q; exact ⟨v, e1, r.mono sm⟩
      | ol xs =>
        obtain ⟨b, ws, rfl, e1, r', e2, e3⟩ := q
        have nb : b ≠ a := fun z => e (f.sep j i b _ _ _ _ g1 g2 h ha rfl (by rw [z]; rfl))
        exact ⟨b, ws, rfl, e1, RL.mono sm _ _ r', by rw [upd_ne nb]; exact e2, e3⟩
      | dr => exact q
      | ex b d fs => obtain ⟨e, ws, h1, h2⟩ := q; exact ⟨e, ws, sm _ _ h1, RF.mono sm _ _ h2⟩
  · have get : ∀ (j : Nat) (sj : Sl) (oj : Option V), (env.set i (.d (.lst ds)))[j]? = some sj → σ[j]? = some oj → ownAt sj oj = some b → env[j]? = some sj := by
      intro j sj oj g1 g2 g5
      by_cases e : j = i
      · subst e
        rw [List.getElem?_set_self (List.getElem?_eq_some_iff.mp h).1] at g1
        cases g1
        cases g5
      · rw [List.getElem?_set_ne (Ne.symm e)] at g1
        exact g1
    exact f.sep j k b _ _ _ _ (get j sj oj g1 g2 g5) g2 (get k sk ok g3 g4 g6) g4 g5 g6
theorem Fr.rebase (f : Fr K c G H env σ) : Fr K { c with G0 := G } G H env σ := ⟨f.hb, Same.refl G, f.gh, fun _ _ _ n => n, f.dr0, f.dr, f.len, f.sl, f.sep⟩
theorem Fr.unbase (f0 : Fr K c G H env σ) {G' H' : Hp} {env' : List Sl} {σ' : St} (f : Fr K { c with G0 := G } G' H' env' σ') : Fr K c G' H' env' σ' :=
  ⟨f.hb, f0.gg.trans f.gg, f.gh, fun a o h n => f.old a o h (f0.old a o h n), f.dr0, f.dr, f.len, f.sl, f.sep⟩
theorem Gr.fresh {da : Option Addr} {G H G1 H1 : Hp} (g : Gr K da G H G1 H1) {p : Addr} (h : H1 p = none) : H p = none := by
  cases e : H p with
  | none => rfl
  | some o =>
    by_cases q : da = some p
    · obtain ⟨_, s, k, ns, h2, _⟩ := g.dr p q
      rw [h] at h2; cases h2
    · rw [g.hh p o e q] at h; cases h
theorem Gr.trans {da : Option Addr} {G1 H1 G2 H2 : Hp} (a : Gr K da G H G1 H1) (b : Gr K da G1 H1 G2 H2) : Gr K da G H G2 H2 where
  gg := a.gg.trans b.gg
  gh := b.gh
  hh := fun x o h n => b.hh x o (a.hh x o h n) n
  old := fun x o h n => by
    have h1 := a.old x o h n
    by_cases e : da = some x
    · obtain ⟨_, s, k, ns, h2, _⟩ := a.dr x e
      exact b.old x _ h2 h1
    · exact b.old x o (a.hh x o h e) h1
  dr := b.dr
end
end Y

namespace Y
open PySem L2
abbrev WE := List Sl → (D → Prop) → Prop
abbrev WT := List Sl → (Bool → Prop) → Prop
abbrev WA := List Sl → (List D → Prop) → Prop
/-- a list is read in H, its items in G -/
def RH (K : PySem.W.Frag) (G H : Hp) : D → V → Prop
  | .lst ds, v => ∃ a vs, v = .ref a ∧ H a = some (.lst vs) ∧ RL K G ds vs
  | d, v => R K G d v
theorem RH.of {K : PySem.W.Frag} {G H : Hp} (s : Same G H) {d : D} {v : V} (h : R K G d v) : RH K G H d v := by
  cases d with
  | lst ds => obtain ⟨a, vs, e, h1, h2⟩ := h.lstE; exact ⟨a, vs, e, s _ _ h1, h2⟩
  | _ => exact h
theorem RH.r {K : PySem.W.Frag} {G H : Hp} (s : Same G H) {d : D} {v : V} (h : RH K G H d v) : R K H d v := by
  cases d with
  | lst ds => obtain ⟨a, vs, rfl, h1, h2⟩ := h; exact .lst h1 (RL.mono s _ _ h2)
  | _ => exact R.mono s _ _ h
/-- .. and so it stays while the frame stays -/
def RB (K : PySem.W.Frag) (c : Ctx) (G : Hp) (env : List Sl) (σ : L2.St) (d : D) (v : V) : Prop := ∀ G' H', Fr K c G' H' env σ → Same G G' → RH K G' H' d v
theorem RB.of {K : PySem.W.Frag} {c : Ctx} {G : Hp} {env : List Sl} {σ : L2.St} {d : D} {v : V} (h : R K G d v) : RB K c G env σ d v := fun _ _ f s => .of f.gh (h.mono s)
theorem RB.mono {K : PySem.W.Frag} {c : Ctx} {G G' : Hp} {env : List Sl} {σ : L2.St} {d : D} {v : V} (s : Same G G') (h : RB K c G env σ d v) : RB K c G' env σ d v := fun G2 H2 f s2 => h G2 H2 f (s.trans s2)

def Snd (K : PySem.W.Frag) (t : TE) (w : WE) : Prop := ∀ (c : Ctx) (G H : Hp) (env : List Sl) (σ : L2.St) (Q : VK) (q : D → Prop), Fr K c G H env σ → w env q →
  (∀ v d G' H', Fr K c G' H' env σ → Gr K c.da G H G' H' → R K G' d v → q d → Q v H') → t σ H Q
def SndB (K : PySem.W.Frag) (t : TE) (w : WE) : Prop := ∀ (c : Ctx) (G H : Hp) (env : List Sl) (σ : L2.St) (Q : VK) (q : D → Prop), Fr K c G H env σ → w env q →
  (∀ v d G' H', Fr K c G' H' env σ → Gr K c.da G H G' H' → RB K c G' env σ d v → q d → Q v H') → t σ H Q
/-- a new list of ours -/
def SndN (K : PySem.W.Frag) (t : TE) (w : WA) : Prop := ∀ (c : Ctx) (G H : Hp) (env : List Sl) (σ : L2.St) (Q : VK) (q : List D → Prop), Fr K c G H env σ → w env q →
  (∀ a vs ds G' H', Fr K c G' H' env σ → Gr K c.da G H G' H' → H' a = some (.lst vs) → RL K G' ds vs → G' a = none → c.H0 a = none → H a = none → NoOwn env σ a → q ds → Q (.ref a) H') → t σ H Q
def SndT (K : PySem.W.Frag) (t : TT) (w : WT) : Prop := ∀ (c : Ctx) (G H : Hp) (env : List Sl) (σ : L2.St) (Q : Bool → Hp → Prop) (q : Bool → Prop), Fr K c G H env σ → w env q →
  (∀ b G' H', Fr K c G' H' env σ → Gr K c.da G H G' H' → q b → Q b H') → t σ H Q
def SndA (K : PySem.W.Frag) (t : TA) (w : WA) : Prop := ∀ (c : Ctx) (G H : Hp) (env : List Sl) (σ : L2.St) (Q : List V → Hp → Prop) (q : List D → Prop), Fr K c G H env σ → w env q →
  (∀ vs ds G' H', Fr K c G' H' env σ → Gr K c.da G H G' H' → RL K G' ds vs → q ds → Q vs H') → t σ H Q
structure DE (X : Cx) (e : Expr) (t : TE) (w : WE) : Prop where
  pe : PE X e t
  snd : Snd X.K t w
structure DB (X : Cx) (e : Expr) (t : TE) (w : WE) : Prop where
  pe : PE X e t
  snd : SndB X.K t w
structure DN (X : Cx) (e : Expr) (t : TE) (w : WA) : Prop where
  pe : PE X e t
  snd : SndN X.K t w
structure DT (X : Cx) (e : Expr) (t : TT) (w : WT) : Prop where
  pt : PT X e t
  snd : SndT X.K t w
structure DA (X : Cx) (es : List Expr) (t : TA) (w : WA) : Prop where
  pa : PA X es t
  snd : SndA X.K t w
section
variable {X : Cx} {e a b cnd : Expr} {es : List Expr} {t ta tb tc : TE} {w wa wb wc : WE} {tA : TA} {wA : WA} {tt tt' : TT} {wt wt' : WT} {pos : Pos}
theorem DE.toB (h : DE X e t w) : DB X e t w := ⟨h.pe, fun c G H env σ Q q f hw k => h.snd c G H env σ Q q f hw fun v d G' H' f' s r hq => k v d G' H' f' s (.of r) hq⟩
def wN (w : WA) : WE := fun env q => w env fun ds => q (.lst ds)
/-- a new list is frozen -/
theorem DN.toE {w : WA} (h : DN X e t w) : DE X e t (wN w) := ⟨h.pe, fun c G H env σ Q q f hw k => h.snd c G H env σ Q (fun ds => q (.lst ds)) f hw fun a vs ds G' H' f' s h1 r h2 h3 na no hq => by
  have sm : Same G' (upd G' a (.lst vs)) := fun b o hb => by rw [upd_ne (ne_of_none hb h2)]; exact hb
  have gr : Gr X.K c.da G H (upd G' a (.lst vs)) H' := by
    refine ⟨s.gg.trans sm, fun b o hb => ?_, s.hh, fun x o hx n => by rw [upd_ne (ne_of_none hx na)]; exact s.old x o hx n, fun x e => ?_⟩
    · by_cases e : b = a
      · rw [e, upd_same] at hb; cases hb; rw [e]; exact h1
      · rw [upd_ne e] at hb; exact f'.gh b o hb
    · obtain ⟨_, z, k, ns, h4, _⟩ := f.dr x e
      exact (s.dr x e).same sm (by rw [upd_ne (ne_of_none h4 na)]; exact (s.dr x e).1) fun o q => q
  exact k (.ref a) (.lst ds) (upd G' a (.lst vs)) H' (f.step gr) gr (.lst upd_same (RL.mono sm _ _ r)) hq⟩

/-! ### names, constants -/
def wVar (i : Nat) : WE := fun env q => match env[i]? with | some (.d d) => q d | _ => False
/-- a name, be its list ours -/
def wOwn (i : Nat) : WE := fun env q => match env[i]? with | some (.d d) => q d | some (.ol ds) => q (.lst ds) | _ => False
def wC (d : D) : WE := fun _ q => q d
theorem de_var (i : Nat) {x : Str} (hN : X.N[i]? = some x := by rfl) (hv : Vis X.env.scope x := by first | exact Or.inl rfl | exact Or.inr (Or.inl rfl) | exact Or.inr (Or.inr rfl)) (hd : (x == ("__debug__" : Str)) = false := by decide)
    (hcd : (x == ("__classdict__" : Str)) = false := by decide) : DE X (.Name x pos) (tVar i) (wVar i) := ⟨pe_var hN hv hd hcd, fun c G H env σ Q q f hw k => by
  unfold wVar at hw
  split at hw
  · rename_i d e
    obtain ⟨v, e1, r⟩ := f.getD e
    exact ⟨v, e1, k v d G H f (Gr.refl f) r hw⟩
  · exact hw.elim⟩
theorem db_var (i : Nat) {x : Str} (hN : X.N[i]? = some x := by rfl) (hv : Vis X.env.scope x := by first | exact Or.inl rfl | exact Or.inr (Or.inl rfl) | exact Or.inr (Or.inr rfl)) (hd : (x == ("__debug__" : Str)) = false := by decide)
    (hcd : (x == ("__classdict__" : Str)) = false := by decide) : DB X (.Name x pos) (tVar i) (wOwn i) := ⟨pe_var hN hv hd hcd, fun c G H env σ Q q f hw k => by
  unfold wOwn at hw
  split at hw
  · rename_i d e
    obtain ⟨v, e1, r⟩ := f.getD e
    exact ⟨v, e1, k v d G H f (Gr.refl f) (.of r) hw⟩
  · rename_i ds e
    obtain ⟨a, vs, e1, _⟩ := f.getO e
    refine ⟨.ref a, e1, k _ _ G H f (Gr.refl f) (fun G' H' f' s => ?_) hw⟩
    obtain ⟨a', vs', e2, h1, h2, _⟩ := f'.getO e
    rw [e1] at e2; cases e2
    exact ⟨a, vs', rfl, h1, h2⟩
  · exact hw.elim⟩
theorem de_c {d : D} {v : V} (h : PE X e (tC v)) (r : ∀ G, R X.K G d v) : DE X e (tC v) (wC d) := ⟨h, fun _ G H _ _ _ _ f hw k => k v d G H f (Gr.refl f) (r G) hw⟩
theorem de_int {i j pos} : DE X (.Constant (.int i) j pos) (tC (.int i)) (wC (.int i)) := de_c pe_int fun _ => R.int_
theorem de_bl {i j pos} : DE X (.Constant (.bool i) j pos) (tC (.bl i)) (wC (.bl i)) := de_c pe_bl fun _ => R.bl_
theorem de_non {j pos} : DE X (.Constant .none j pos) (tC .non) (wC .non) := de_c pe_non fun _ => R.non_
theorem de_str {s j pos} : DE X (.Constant (.str s) j pos) (tC (.str s)) (wC (.str s)) := de_c pe_str fun _ => R.str_
theorem de_glob {x : Str} {v : V} {u : Value} {d : D} (hg : Gl X x) (hm : X.mg x = some u) (r : RelV v u) (rd : ∀ G, R X.K G d v) (hd : (x == ("__debug__" : Str)) = false := by decide) : DE X (.Name x pos) (tC v) (wC d) := de_c (pe_glob hg hm r hd) rd

/-! ### two operands -/
abbrev WO := D → D → (D → Prop) → Prop
def SndO (K : PySem.W.Frag) (r : R2) (wo : WO) : Prop := ∀ (c : Ctx) (G H : Hp) (env : List Sl) (σ : L2.St) (x y : V) (d e : D) (Q : VK) (q : D → Prop), Fr K c G H env σ → RH K G H d x → RH K G H e y → wo d e q →
  (∀ v z G' H', Fr K c G' H' env σ → Gr K c.da G H G' H' → R K G' z v → q z → Q v H') → r x y H Q
def wOp2 (wo : WO) (wa wb : WE) : WE := fun env q => wa env fun d => wb env fun e => wo d e q
theorem snd_op {K : PySem.W.Frag} {r : R2} {wo : WO} (ha : SndB K ta wa) (hb : SndB K tb wb) (ho : SndO K r wo) : Snd K (tOp r ta tb) (wOp2 wo wa wb) := fun c G H env σ Q q f hw k =>
  ha c G H env σ _ _ f hw fun x d G1 H1 f1 s1 r1 hw1 => hb c G1 H1 env σ _ _ f1 hw1 fun y e G2 H2 f2 s2 r2 hw2 =>
    ho c G2 H2 env σ x y d e Q q f2 (r1 G2 H2 f2 s2.gg) (r2 G2 H2 f2 (Same.refl _)) hw2 fun v z G3 H3 f3 s3 r3 hq => k v z G3 H3 f3 ((s1.trans s2).trans s3) r3 hq
theorem de_op {op : Operator} {r : R2} {wo : WO} (ho : OpR X (binaryOp op) r) (so : SndO X.K r wo) (ha : DB X a ta wa) (hb : DB X b tb wb) : DE X (.BinOp a op b pos) (tOp r ta tb) (wOp2 wo wa wb) := ⟨pe_op ho ha.pe hb.pe, snd_op ha.snd hb.snd so⟩
theorem de_cmp {op : CmpOp} {r : R2} {wo : WO} (ho : OpR X (compareOp op) r) (so : SndO X.K r wo) (ha : DB X a ta wa) (hb : DB X b tb wb) (hm : behindInMarks op b = false) : DE X (.Compare a [op] [b] pos) (tOp r ta tb) (wOp2 wo wa wb) := ⟨pe_cmpR ho ha.pe hb.pe hm, snd_op ha.snd hb.snd so⟩
/-- a value that is a truth value, as a test -/
def wTest (w : WE) : WT := fun env q => w env fun d => match d with | .bl b => q b | _ => False
theorem snd_test {K : PySem.W.Frag} (h : Snd K t w) : SndT K (tTest t) (wTest w) := fun c G H env σ Q q f hw k => h c G H env σ _ _ f hw fun v d G' H' f' s r hq => by
  cases d with
  | bl b => exact ⟨b, r, k b G' H' f' s hq⟩
  | _ => exact hq.elim
theorem dt_cmp {op : CmpOp} {r : R2} {wo : WO} (ho : OpR X (compareOp op) r) (so : SndO X.K r wo) (ha : DB X a ta wa) (hb : DB X b tb wb) (hm : behindInMarks op b = false) : DT X (.Compare a [op] [b] pos) (tTest (tOp r ta tb)) (wTest (wOp2 wo wa wb)) := ⟨pt_cmpR ho ha.pe hb.pe hm, snd_test (snd_op ha.snd hb.snd so)⟩
theorem dt_val (h : DE X e t w) (he : ∀ whole, isTrue e X.env whole = (do let v ← whole; standAt e.pos; holding [v] (truthy v)) := by intro _; rfl) : DT X e (tB t) (wTest w) := ⟨pt_val h.pe he, snd_test h.snd⟩
/-- chains -/
def wChain (wo wo' : WO) (wa wb wc : WE) : WE := fun env q => wa env fun d => wb env fun e => wo d e fun z => match z with | .bl true => wc env fun g => wo' e g q | .bl false => q (.bl false) | _ => False
theorem snd_chain {K : PySem.W.Frag} {r r' : R2} {wo wo' : WO} (ha : SndB K ta wa) (hb : SndB K tb wb) (hc : SndB K tc wc) (ho : SndO K r wo) (ho' : SndO K r' wo') : Snd K (tChain r r' ta tb tc) (wChain wo wo' wa wb wc) := fun c G H env σ Q q f hw k =>
  ha c G H env σ _ _ f hw fun x d G1 H1 f1 s1 r1 hw1 => hb c G1 H1 env σ _ _ f1 hw1 fun y e G2 H2 f2 s2 r2 hw2 =>
    ho c G2 H2 env σ x y d e _ _ f2 (r1 G2 H2 f2 s2.gg) (r2 G2 H2 f2 (Same.refl _)) hw2 fun v z G3 H3 f3 s3 r3 hq => by
      cases z with
      | bl b =>
        refine ⟨b, r3, ?_⟩
        cases b with
        | true => exact iteT (hc c G3 H3 env σ _ _ f3 hq fun u g G4 H4 f4 s4 r4 hw4 => ho' c G4 H4 env σ y u e g Q q f4 (r2 G4 H4 f4 (s3.trans s4).gg) (r4 G4 H4 f4 (Same.refl _)) hw4 fun v z G5 H5 f5 s5 r5 hq5 => k v z G5 H5 f5 ((((s1.trans s2).trans s3).trans s4).trans s5) r5 hq5)
        | false => exact iteF (k _ _ G3 H3 f3 ((s1.trans s2).trans s3) R.bl_ hq)
      | _ => exact hq.elim
theorem de_chain {op op' : CmpOp} {r r' : R2} {wo wo' : WO} (ho : OpR X (compareOp op) r) (so : SndO X.K r wo) (ho' : OpR X (compareOp op') r') (so' : SndO X.K r' wo') (ha : DB X a ta wa) (hb : DB X b tb wb) (hc : DB X cnd tc wc)
    (hm : lastMarks [op, op'] [b, cnd] = false := by with_unfolding_all rfl) : DE X (.Compare a [op, op'] [b, cnd] pos) (tChain r r' ta tb tc) (wChain wo wo' wa wb wc) := ⟨pe_chain ho ho' ha.pe hb.pe hc.pe hm, snd_chain ha.snd hb.snd hc.snd so so'⟩
theorem dt_chain {op op' : CmpOp} {r r' : R2} {wo wo' : WO} (ho : OpR X (compareOp op) r) (so : SndO X.K r wo) (ho' : OpR X (compareOp op') r') (so' : SndO X.K r' wo') (ha : DB X a ta wa) (hb : DB X b tb wb) (hc : DB X cnd tc wc)
    (hm : lastMarks [op, op'] [b, cnd] = false := by with_unfolding_all rfl) : DT X (.Compare a [op, op'] [b, cnd] pos) (tTest (tChain r r' ta tb tc)) (wTest (wChain wo wo' wa wb wc)) := ⟨pt_chain ho ho' ha.pe hb.pe hc.pe hm, snd_test (snd_chain ha.snd hb.snd hc.snd so so')⟩

/-! ### and, or, not -/
structure DW (X : Cx) (e : Expr) (t : TT) (w : WT) : Prop where
  pw : PW X e t
  snd : SndT X.K t w
def wAndT (w w' : WT) : WT := fun env q => w env fun b => match b with | true => w' env q | false => q false
def wOrT (w w' : WT) : WT := fun env q => w env fun b => match b with | true => q true | false => w' env q
def wNotT (w : WT) : WT := fun env q => w env fun b => q (!b)
variable {rest : List Expr}
theorem dw_and1 (ha : DT X a tt wt) : DW X (.BoolOp .And [a] pos) tt wt := ⟨pw_and1 ha.pt, ha.snd⟩
theorem dw_or1 (ha : DT X a tt wt) : DW X (.BoolOp .Or [a] pos) tt wt := ⟨pw_or1 ha.pt, ha.snd⟩
theorem dw_and (ha : DT X a tt wt) (hb : DW X (.BoolOp .And (b :: rest) pos) tt' wt') : DW X (.BoolOp .And (a :: b :: rest) pos) (tAnd tt tt') (wAndT wt wt') := ⟨pw_and ha.pt hb.pw, fun c G H env σ Q q f hw k =>
  ha.snd c G H env σ _ _ f hw fun b G' H' f' s hq => by
    cases b with
    | true => exact iteT (hb.snd c G' H' env σ Q q f' hq fun b G2 H2 f2 s2 hq2 => k b G2 H2 f2 (s.trans s2) hq2)
    | false => exact iteF (k false G' H' f' s hq)⟩
theorem dw_or (ha : DT X a tt wt) (hb : DW X (.BoolOp .Or (b :: rest) pos) tt' wt') : DW X (.BoolOp .Or (a :: b :: rest) pos) (tOr tt tt') (wOrT wt wt') := ⟨pw_or ha.pt hb.pw, fun c G H env σ Q q f hw k =>
  ha.snd c G H env σ _ _ f hw fun b G' H' f' s hq => by
    cases b with
    | true => exact iteT (k true G' H' f' s hq)
    | false => exact iteF (hb.snd c G' H' env σ Q q f' hq fun b G2 H2 f2 s2 hq2 => k b G2 H2 f2 (s.trans s2) hq2)⟩
theorem DW.dt (h : DW X e tt wt) : DT X e tt wt := ⟨h.pw.pt, h.snd⟩
theorem dt_not (ha : DT X a tt wt) : DT X (.UnaryOp .Not a pos) (tNot tt) (wNotT wt) := ⟨pt_not ha.pt, fun c G H env σ Q q f hw k => ha.snd c G H env σ _ _ f hw fun b G' H' f' s hq => k (!b) G' H' f' s hq⟩
def wAndV (wa wb : WE) : WE := fun env q => wa env fun d => match d with | .bl true => wb env q | .bl false => q (.bl false) | _ => False
def wOrV (wa wb : WE) : WE := fun env q => wa env fun d => match d with | .bl true => q (.bl true) | .bl false => wb env q | _ => False
def wNotV (wa : WE) : WE := fun env q => wa env fun d => match d with | .bl b => q (.bl (!b)) | _ => False
theorem de_one {op} (h : DE X a t w) : DE X (.BoolOp op [a] pos) t w := ⟨pe_one h.pe, h.snd⟩
theorem de_and (ha : DE X a ta wa) (hb : DE X (.BoolOp .And (b :: rest) pos) tb wb) : DE X (.BoolOp .And (a :: b :: rest) pos) (tAndV ta tb) (wAndV wa wb) := ⟨pe_and ha.pe hb.pe, fun c G H env σ Q q f hw k =>
  ha.snd c G H env σ _ _ f hw fun v d G' H' f' s r hq => by
    cases d with
    | bl b =>
      refine ⟨b, r, ?_⟩
      cases b with
      | true => exact iteT (hb.snd c G' H' env σ Q q f' hq fun v d G2 H2 f2 s2 r2 hq2 => k v d G2 H2 f2 (s.trans s2) r2 hq2)
      | false => exact iteF (k _ _ G' H' f' s R.bl_ hq)
    | _ => exact hq.elim⟩
theorem de_or (ha : DE X a ta wa) (hb : DE X (.BoolOp .Or (b :: rest) pos) tb wb) : DE X (.BoolOp .Or (a :: b :: rest) pos) (tOrV ta tb) (wOrV wa wb) := ⟨pe_or ha.pe hb.pe, fun c G H env σ Q q f hw k =>
  ha.snd c G H env σ _ _ f hw fun v d G' H' f' s r hq => by
    cases d with
    | bl b =>
      refine ⟨b, r, ?_⟩
      cases b with
      | true => exact iteT (k _ _ G' H' f' s R.bl_ hq)
      | false => exact iteF (hb.snd c G' H' env σ Q q f' hq fun v d G2 H2 f2 s2 r2 hq2 => k v d G2 H2 f2 (s.trans s2) r2 hq2)
    | _ => exact hq.elim⟩
theorem de_not (ha : DE X a ta wa) : DE X (.UnaryOp .Not a pos) (tNotV ta) (wNotV wa) := ⟨pe_not ha.pe, fun c G H env σ Q q f hw k =>
  ha.snd c G H env σ _ _ f hw fun v d G' H' f' s r hq => by
    cases d with
    | bl b => exact ⟨b, r, k _ _ G' H' f' s R.bl_ hq⟩
    | _ => exact hq.elim⟩
def wIfE (wt : WT) (wa wb : WE) : WE := fun env q => wt env fun b => match b with | true => wa env q | false => wb env q
theorem de_ifE (hc : DT X cnd tt wt) (ha : DE X a ta wa) (hb : DE X b tb wb) : DE X (.IfExp cnd a b pos) (tIf tt ta tb) (wIfE wt wa wb) := ⟨pe_ifExp hc.pt ha.pe hb.pe, fun c G H env σ Q q f hw k =>
  hc.snd c G H env σ _ _ f hw fun x G' H' f' s hq => by
    cases x with
    | true => exact iteT (ha.snd c G' H' env σ Q q f' hq fun v d G2 H2 f2 s2 r2 hq2 => k v d G2 H2 f2 (s.trans s2) r2 hq2)
    | false => exact iteF (hb.snd c G' H' env σ Q q f' hq fun v d G2 H2 f2 s2 r2 hq2 => k v d G2 H2 f2 (s.trans s2) r2 hq2)⟩

/-! ### argument lists, displays -/
def wNil : WA := fun _ q => q []
def wCons (w : WE) (wr : WA) : WA := fun env q => w env fun d => wr env fun ds => q (d :: ds)
theorem da_nil : DA X [] tNil wNil := ⟨pa_nil, fun _ G H _ _ _ _ f hw k => k [] [] G H f (Gr.refl f) .nil hw⟩
theorem da_cons (ha : DE X e t w) (hr : DA X es tA wA) (hs : starEach (e :: es) X.env = (false, eval e X.env) :: starEach es X.env := by rfl) : DA X (e :: es) (tCons t tA) (wCons w wA) := ⟨pa_cons ha.pe hr.pa hs, fun c G H env σ Q q f hw k =>
  ha.snd c G H env σ _ _ f hw fun v d G1 H1 f1 s1 r1 hw1 => hr.snd c G1 H1 env σ _ _ f1 hw1 fun vs ds G2 H2 f2 s2 r2 hq => k (v :: vs) (d :: ds) G2 H2 f2 (s1.trans s2) (.cons (r1.mono s2.gg) r2) hq⟩
def wTup (wA : WA) : WE := fun env q => wA env fun ds => ds.length ≤ sizeLine ∧ q (.tup ds)
def wLst (wA : WA) : WA := fun env q => wA env fun ds => ds.length ≤ sizeLine ∧ q ds
theorem de_tup {x1} (h : DA X es tA wA) : DE X (.Tuple es x1 pos) (tTup tA) (wTup wA) := ⟨pe_tup h.pa, fun c G H env σ Q q f hw k =>
  h.snd c G H env σ _ _ f hw fun vs ds G1 H1 f1 s1 r1 hq => ⟨by rw [r1.length]; exact hq.1, fun p hp => by
    have g := f1.newG (o := .tup vs) hp
    exact k _ _ _ _ (f1.step g) (s1.trans g) (.tup (SqT.of upd_same) (RL.mono g.gg _ _ r1)) hq.2⟩⟩
theorem dn_lst (h : DA X es tA wA) : DN X (.List es pos) (tLst tA) (wLst wA) := ⟨pe_lst h.pa, fun c G H env σ Q q f hw k =>
  h.snd c G H env σ _ _ f hw fun vs ds G1 H1 f1 s1 r1 hq => ⟨by rw [r1.length]; exact hq.1, fun p hp => by
    have g := f1.newH (o := .lst vs) hp
    exact k p vs ds G1 _ (f1.step g) (s1.trans g) upd_same r1 (f1.gnone hp) (f1.h0none hp) (s1.fresh hp) (f1.noOwn hp) hq.2⟩⟩

/-! ### calls of the text's own defs -/
/-- what a def is worth: plain data in, plain data out -/
def spD (K : PySem.W.Frag) (W : List D → (D → Prop) → Prop) : Sp := fun vs H Q _ => ∃ (G : Hp) (ds : List D) (q : D → Prop), Same G H ∧ RL K G ds vs ∧ W ds q ∧
  ∀ v d G' H', Same H H' → Same G G' → Same G' H' → (∀ a o, H a = some o → G a = none → G' a = none) → R K G' d v → q d → Q v H'
/-- the same where the first argument is the draw -/
def spR (K : PySem.W.Frag) (W : List D → (D → Prop) → Prop) : Sp := fun vs H Q _ => ∃ (G : Hp) (a : Addr) (us : List V) (ds : List D) (q : D → Prop), vs = .ref a :: us ∧ Same G H ∧ DrC K G H a ∧ RL K G ds us ∧ W ds q ∧
  ∀ v d G' H', (∀ b o, H b = some o → b ≠ a → H' b = some o) → Same G G' → Same G' H' → (∀ b o, H b = some o → G b = none → G' b = none) → DrC K G' H' a → R K G' d v → q d → Q v H'
theorem gr_call {K : PySem.W.Frag} {c : Ctx} {G H G' H' : Hp} {env : List Sl} {σ : L2.St} (f : Fr K c G H env σ) (h1 : Same H H') (h2 : Same G G') (h3 : Same G' H') (h4 : ∀ a o, H a = some o → G a = none → G' a = none) : Gr K c.da G H G' H' :=
  ⟨h2, h3, fun a o h _ => h1 a o h, h4, fun a e => (f.dr a e).same h2 (by
    obtain ⟨n, s, k, ns, q, _⟩ := f.dr a e
    exact h4 a _ q n) fun o h => h1 a o h⟩
theorem snd_call {K : PySem.W.Frag} {W : List D → (D → Prop) → Prop} (h : SndA K tA wA) : Snd K (tCall (spD K W) [] E0 tA) (fun env q => wA env fun ds => W ds q) := fun c G H env σ Q q f hw k =>
  h c G H env σ _ _ f hw fun vs ds G1 H1 f1 s1 r1 hq => by
    show spD K W (vs ++ []) H1 Q E0
    rw [List.append_nil]
    refine ⟨G1, ds, q, f1.gh, r1, hq, fun v d G' H' h1 h2 h3 h4 r hq' => ?_⟩
    have g := gr_call f1 h1 h2 h3 h4
    exact k v d G' H' (f1.step g) (s1.trans g) r hq'
def wCall (W : List D → (D → Prop) → Prop) (wA : WA) : WE := fun env q => wA env fun ds => W ds q
theorem de_call {k : Nat} {f : Addr} {fd : FuncData} {ps : List Str} {W : List D → (D → Prop) → Prop} {x : Str} {p : Pos} (F : FnOk X.prog X.w X.K X.mg X.base CX0 k f fd ps (spD X.K W)) (hr : Room k X.A) (hg : Gl X x) (hm : X.mg x = some (.ref f)) (hk : PySem.W.keepIn X.K (.ref f) = true) (hb : Binds X.K fd ps [])
    (ha : DA X (e :: es) tA wA) (hdb : (x == ("__debug__" : Str)) = false := by decide) (he : starEach (e :: es) X.env = (false, eval e X.env) :: starEach es X.env := by rfl) (hpl : (backTo pos (starEach es X.env)).any (·.1) = false := by rfl) :
    DE X (.Call (.Name x p) (e :: es) [] pos) (tCall (spD X.K W) [] E0 tA) (wCall W wA) := ⟨pe_call F hr hg hm hk hb .nil pass0 ha.pa hdb he hpl, snd_call ha.snd⟩
/-- the draw's slot as the first argument -/
def isDr (env : List Sl) (i : Nat) : Prop := match env[i]? with | some .dr => True | _ => False
def wCallR (W : List D → (D → Prop) → Prop) (i : Nat) (wA : WA) : WE := fun env q => isDr env i ∧ wA env fun ds => W ds q
theorem snd_callR {K : PySem.W.Frag} {W : List D → (D → Prop) → Prop} {i : Nat} (h : SndA K tA wA) : Snd K (tCall (spR K W) [] E0 (tCons (tVar i) tA)) (wCallR W i wA) := fun c G H env σ Q q f hw k => by
  obtain ⟨hd, hw⟩ := hw
  unfold isDr at hd
  split at hd
  · rename_i e
    obtain ⟨o, e1, a, rfl, e2⟩ := f.get e
    refine ⟨.ref a, e1, ?_⟩
    refine h c G H env σ _ _ f hw fun vs ds G1 H1 f1 s1 r1 hq => ?_
    show spR K W ((.ref a :: vs) ++ []) H1 Q E0
    rw [List.append_nil]
    refine ⟨G1, a, vs, ds, q, rfl, f1.gh, f1.dr a e2, r1, hq, fun v d G' H' h1 h2 h3 h4 h5 r hq' => ?_⟩
    have g : Gr K c.da G1 H1 G' H' := ⟨h2, h3, fun b o hb n => h1 b o hb fun z => n (z ▸ e2), h4, fun b eb => by rw [e2] at eb; cases eb; exact h5⟩
    exact k v d G' H' (f1.step g) (s1.trans g) r hq'
  · exact hd.elim
theorem de_callR (i : Nat) {k : Nat} {f : Addr} {fd : FuncData} {ps : List Str} {W : List D → (D → Prop) → Prop} {x y : Str} {p p2 : Pos} (F : FnOk X.prog X.w X.K X.mg X.base CX0 k f fd ps (spR X.K W)) (hr : Room k X.A) (hg : Gl X x) (hm : X.mg x = some (.ref f)) (hk : PySem.W.keepIn X.K (.ref f) = true) (hb : Binds X.K fd ps [])
    (hv : PE X (.Name y p2) (tVar i)) (ha : DA X es tA wA) (hdb : (x == ("__debug__" : Str)) = false := by decide) (he : starEach (.Name y p2 :: es) X.env = (false, eval (.Name y p2) X.env) :: starEach es X.env := by rfl) (hpl : (backTo pos (starEach es X.env)).any (·.1) = false := by rfl) :
    DE X (.Call (.Name x p) (.Name y p2 :: es) [] pos) (tCall (spR X.K W) [] E0 (tCons (tVar i) tA)) (wCallR W i wA) := ⟨pe_call F hr hg hm hk hb .nil pass0 (pa_cons hv ha.pa he) hdb he hpl, snd_callR ha.snd⟩
end
end Y

namespace Y
open PySem L2
/-! ### ints, texts, tuples, lists under operators -/
def wAdd : WO := fun d e q => match d, e with
  | .int i, .int j => q (.int (i + j))
  | .str s, .str t => s.length + t.length ≤ sizeLine ∧ q (.str (s ++ t))
  | .tup xs, .tup ys => xs.length + ys.length ≤ sizeLine ∧ q (.tup (xs ++ ys))
  | _, _ => False
def wSub : WO := fun d e q => match d, e with | .int i, .int j => q (.int (i - j)) | _, _ => False
/-- a small factor on one side -/
def MulOk (i j : Int) : Prop := (-(2 ^ 64) < i ∧ i < 2 ^ 64) ∨ (-(2 ^ 64) < j ∧ j < 2 ^ 64)
def wMul : WO := fun d e q => match d, e with | .int i, .int j => MulOk i j ∧ q (.int (i * j)) | _, _ => False
def wMod : WO := fun d e q => match d, e with | .int i, .int j => 0 < j ∧ q (.int (i % j)) | _, _ => False
def wFdiv : WO := fun d e q => match d, e with | .int i, .int j => (0 < j ∧ j < 1073741824) ∧ q (.int (i / j)) | _, _ => False
def wPow : WO := fun d e q => match d, e with | .int i, .int j => (0 ≤ j ∧ j ≤ 1000000 ∧ i.natAbs < 2 ^ 64) ∧ q (.int (i ^ j.toNat)) | _, _ => False
def wLt : WO := fun d e q => match d, e with | .int i, .int j => (i < j → q (.bl true)) ∧ (¬ i < j → q (.bl false)) | _, _ => False
def wLe : WO := fun d e q => match d, e with | .int i, .int j => (i ≤ j → q (.bl true)) ∧ (¬ i ≤ j → q (.bl false)) | _, _ => False
def wGt : WO := fun d e q => match d, e with | .int i, .int j => (j < i → q (.bl true)) ∧ (¬ j < i → q (.bl false)) | _, _ => False
def wGe : WO := fun d e q => match d, e with | .int i, .int j => (j ≤ i → q (.bl true)) ∧ (¬ j ≤ i → q (.bl false)) | _, _ => False
def wIsN : WO := fun d e q => match e with | .non => (d = .non → q (.bl true)) ∧ (d ≠ .non → q (.bl false)) | _ => False
def wNotN : WO := fun d e q => match e with | .non => (d = .non → q (.bl false)) ∧ (d ≠ .non → q (.bl true)) | _ => False

section
variable {K : PySem.W.Frag} {X : Cx}
theorem RH.int {G H : Hp} {i : Int} {v : V} (h : RH K G H (.int i) v) : v = .int i := h
theorem RH.bl {G H : Hp} {i : Bool} {v : V} (h : RH K G H (.bl i) v) : v = .bl i := h
theorem RH.str {G H : Hp} {i : Str} {v : V} (h : RH K G H (.str i) v) : v = .str i := h
theorem RH.tup {G H : Hp} {ds : List D} {v : V} (h : RH K G H (.tup ds) v) : ∃ a vs, v = .ref a ∧ SqT K G a vs ∧ RL K G ds vs := R.tupE (show R K G (.tup ds) v from h)
theorem RH.lst {G H : Hp} {ds : List D} {v : V} (h : RH K G H (.lst ds) v) : ∃ a vs, v = .ref a ∧ H a = some (.lst vs) ∧ RL K G ds vs := h
theorem RH.isN {G H : Hp} {d : D} {v : V} (h : RH K G H d v) : v = .non ↔ d = .non := by
  cases d with
  | non => exact ⟨fun _ => rfl, fun _ => h⟩
  | bl b => rw [RH.bl h]; simp
  | int b => rw [RH.int h]; simp
  | str b => rw [RH.str h]; simp
  | tup b => obtain ⟨a, vs, rfl, _⟩ := h.tup; simp
  | lst b => obtain ⟨a, vs, rfl, _⟩ := h.lst; simp
  | dct b => unfold RH R at h; obtain ⟨a, vs, rfl, _⟩ := h; simp
  | ins C b => unfold RH R at h; obtain ⟨a, dx, vs, rfl, _⟩ := h; simp
def rAddU (K : PySem.W.Frag) : R2 := fun x y H Q => (rI0 (fun i j => .int (i + j))) x y H Q ∨ (fun x y (H : Hp) (Q : VK) => ∃ i j, x = .str i ∧ y = .str j ∧ i.length + j.length ≤ sizeLine ∧ Q (.str (i ++ j)) H) x y H Q ∨ rCatA K x y H Q
theorem op_addU : OpR X (binaryOp .Add) (rAddU X.K) := op_add.or (op_add_str.or op_catA)
theorem so_add : SndO K (rAddU K) wAdd := fun c G H env σ x y d e Q q f hx hy hw k => by
  unfold wAdd at hw
  split at hw
  · exact .inl ⟨_, _, hx.int, hy.int, k _ _ G H f (Gr.refl f) R.int_ hw⟩
  · exact .inr (.inl ⟨_, _, hx.str, hy.str, hw.1, k _ _ G H f (Gr.refl f) R.str_ hw.2⟩)
  · obtain ⟨a, vs, rfl, h1, h2⟩ := hx.tup
    obtain ⟨b, us, rfl, h3, h4⟩ := hy.tup
    refine .inr (.inr ⟨a, b, vs, us, rfl, rfl, sqt_same f.gh h1, sqt_same f.gh h3, by rw [h2.length, h4.length]; exact hw.1, fun e => ?_, fun e1 e2 => ?_, fun e1 e2 p hp => ?_⟩)
    · refine k _ _ G H f (Gr.refl f) (.tup h3 ?_) hw.2
      have := h2.append h4
      rw [e] at this
      exact this
    · refine k _ _ G H f (Gr.refl f) (.tup h1 ?_) hw.2
      have := h2.append h4
      rw [e2, List.append_nil] at this
      exact this
    · have g := f.newG (o := .tup (vs ++ us)) hp
      exact k _ _ _ _ (f.step g) g (.tup (SqT.of upd_same) (RL.mono g.gg _ _ (h2.append h4))) hw.2
  · exact hw.elim
theorem so_int {wo : WO} {C : Int → Int → Prop} {g : Int → Int → V} {z : Int → Int → D} (h : ∀ d e q, wo d e q → ∃ i j, d = .int i ∧ e = .int j ∧ C i j ∧ q (z i j)) (r : ∀ G i j, R K G (z i j) (g i j)) : SndO K (rI C g) wo := fun c G H env σ x y d e Q q f hx hy hw k => by
  obtain ⟨i, j, rfl, rfl, hc, hq⟩ := h d e q hw
  exact ⟨i, j, hx.int, hy.int, hc, k _ _ G H f (Gr.refl f) (r G i j) hq⟩
theorem so_sub : SndO K (rI0 fun i j => .int (i - j)) wSub := fun c G H env σ x y d e Q q f hx hy hw k => by
  unfold wSub at hw
  split at hw
  · exact ⟨_, _, hx.int, hy.int, k _ _ G H f (Gr.refl f) R.int_ hw⟩
  · exact hw.elim
theorem so_mul : SndO K (rI CMul fun i j => .int (i * j)) wMul := so_int (z := fun i j => .int (i * j)) (fun d e q hw => by
  unfold wMul at hw
  split at hw
  · exact ⟨_, _, rfl, rfl, hw⟩
  · exact hw.elim) fun _ _ _ => R.int_
theorem so_mod : SndO K (rI (fun _ j => 0 < j) fun i j => .int (i % j)) wMod := so_int (z := fun i j => .int (i % j)) (fun d e q hw => by
  unfold wMod at hw
  split at hw
  · exact ⟨_, _, rfl, rfl, hw⟩
  · exact hw.elim) fun _ _ _ => R.int_
theorem so_fdiv : SndO K (rI CDiv fun i j => .int (i / j)) wFdiv := so_int (z := fun i j => .int (i / j)) (fun d e q hw => by
  unfold wFdiv at hw
  split at hw
  · exact ⟨_, _, rfl, rfl, hw⟩
  · exact hw.elim) fun _ _ _ => R.int_
theorem so_pow : SndO K (rI CPow fun i j => .int (i ^ j.toNat)) wPow := so_int (z := fun i j => .int (i ^ j.toNat)) (fun d e q hw => by
  unfold wPow at hw
  split at hw
  · exact ⟨_, _, rfl, rfl, hw⟩
  · exact hw.elim) fun _ _ _ => R.int_
theorem so_cmp {wo : WO} {p : Int → Int → Prop} [∀ i j, Decidable (p i j)] (h : ∀ d e q, wo d e q → ∃ i j, d = .int i ∧ e = .int j ∧ (p i j → q (.bl true)) ∧ (¬ p i j → q (.bl false))) : SndO K (rI0 fun i j => .bl (decide (p i j))) wo := fun c G H env σ x y d e Q q f hx hy hw k => by
  obtain ⟨i, j, rfl, rfl, h1, h2⟩ := h d e q hw
  refine ⟨i, j, hx.int, hy.int, ?_⟩
  by_cases hp : p i j
  · show Q (V.bl (decide (p i j))) H
    rw [decide_eq_true hp]; exact k _ _ G H f (Gr.refl f) R.bl_ (h1 hp)
  · show Q (V.bl (decide (p i j))) H
    rw [decide_eq_false hp]; exact k _ _ G H f (Gr.refl f) R.bl_ (h2 hp)
theorem so_lt : SndO K (rI0 fun i j => .bl (decide (i < j))) wLt := so_cmp fun d e q hw => by
  unfold wLt at hw
  split at hw
  · exact ⟨_, _, rfl, rfl, hw⟩
  · exact hw.elim
theorem so_le : SndO K (rI0 fun i j => .bl (decide (i ≤ j))) wLe := so_cmp fun d e q hw => by
  unfold wLe at hw
  split at hw
  · exact ⟨_, _, rfl, rfl, hw⟩
  · exact hw.elim
theorem so_gt : SndO K (rI0 fun i j => .bl (decide (j < i))) wGt := so_cmp (p := fun i j => j < i) fun d e q hw => by
  unfold wGt at hw
  split at hw
  · exact ⟨_, _, rfl, rfl, hw⟩
  · exact hw.elim
theorem so_ge : SndO K (rI0 fun i j => .bl (decide (j ≤ i))) wGe := so_cmp (p := fun i j => j ≤ i) fun d e q hw => by
  unfold wGe at hw
  split at hw
  · exact ⟨_, _, rfl, rfl, hw⟩
  · exact hw.elim
theorem so_isN : SndO K (fun x y H Q => y = .non ∧ Q (.bl (decide (x = .non))) H) wIsN := fun c G H env σ x y d e Q q f hx hy hw k => by
  unfold wIsN at hw
  split at hw
  · refine ⟨hy, ?_⟩
    by_cases h : x = .non
    · rw [decide_eq_true h]; exact k _ _ G H f (Gr.refl f) R.bl_ (hw.1 (hx.isN.mp h))
    · rw [decide_eq_false h]; exact k _ _ G H f (Gr.refl f) R.bl_ (hw.2 fun e => h (hx.isN.mpr e))
  · exact hw.elim
theorem so_notN : SndO K (fun x y H Q => y = .non ∧ Q (.bl (!decide (x = .non))) H) wNotN := fun c G H env σ x y d e Q q f hx hy hw k => by
  unfold wNotN at hw
  split at hw
  · refine ⟨hy, ?_⟩
    by_cases h : x = .non
    · rw [decide_eq_true h]; exact k _ _ G H f (Gr.refl f) R.bl_ (hw.1 (hx.isN.mp h))
    · rw [decide_eq_false h]; exact k _ _ G H f (Gr.refl f) R.bl_ (hw.2 fun e => h (hx.isN.mpr e))
  · exact hw.elim
end

/-! ### == of plain data without truth values -/
mutual
def D.py : D → PyData
  | .non => .none
  | .bl b => .bool b
  | .int i => .int i
  | .str s => .str s
  | .tup ds => .tuple (D.pys ds)
  | .lst ds => .list (D.pys ds)
  | .dct _ => .none
  | .ins _ _ => .none
def D.pys : List D → List PyData
  | [] => []
  | d :: ds => d.py :: D.pys ds
end
mutual
/-- no truth value, no object within, at most so deep -/
def Pu : Nat → D → Prop
  | _, .non => True
  | _, .int _ => True
  | _, .str s => PyData.canLay0 (.str s) = true
  | n + 1, .tup ds => PuL n ds
  | n + 1, .lst ds => PuL n ds
  | _, _ => False
def PuL : Nat → List D → Prop
  | _, [] => True
  | n, d :: ds => Pu n d ∧ PuL n ds
end
theorem PuL.map {α : Type} {n : Nat} {g : α → D} : ∀ {xs : List α}, (∀ x ∈ xs, Pu n (g x)) → PuL n (xs.map g)
  | [], _ => by unfold PuL; trivial
  | x :: xs, h => by
    show PuL n (g x :: xs.map g)
    unfold PuL
    exact ⟨h x List.mem_cons_self, PuL.map fun y hy => h y (List.mem_cons_of_mem _ hy)⟩
theorem PuL.append {n : Nat} : ∀ {xs ys : List D}, PuL n xs → PuL n ys → PuL n (xs ++ ys)
  | [], _, _, h => h
  | x :: xs, ys, h, g => by
    unfold PuL at h
    show PuL n (x :: (xs ++ ys))
    unfold PuL
    exact ⟨h.1, PuL.append h.2 g⟩
section
variable {K : PySem.W.Frag} {X : Cx}
mutual
theorem R.dp {H : Hp} : ∀ (n : Nat) (d : D) (v : V), Pu n d → R K H d v → Dp K H v d.py
  | _, .non, v, _, h => by rw [show v = .non from h]; exact .non
  | _, .int i, v, _, h => by rw [show v = .int i from h]; exact .int i
  | _, .str s, v, _, h => by rw [show v = .str s from h]; exact .str s
  | n + 1, .tup ds, v, p, h => by
    obtain ⟨a, vs, rfl, h1, h2⟩ := h.tupE
    exact .tup h1 (RL.dp n ds vs (by unfold Pu at p; exact p) h2)
  | n + 1, .lst ds, v, p, h => by
    obtain ⟨a, vs, rfl, h1, h2⟩ := h.lstE
    exact .lst (SqL.of h1) (RL.dp n ds vs (by unfold Pu at p; exact p) h2)
  | 0, .tup _, _, p, _ => by unfold Pu at p; exact p.elim
  | 0, .lst _, _, p, _ => by unfold Pu at p; exact p.elim
  | _, .bl _, _, p, _ => by unfold Pu at p; exact p.elim
  | _, .dct _, _, p, _ => by unfold Pu at p; exact p.elim
  | _, .ins _ _, _, p, _ => by unfold Pu at p; exact p.elim
theorem RL.dp {H : Hp} : ∀ (n : Nat) (ds : List D) (vs : List V), PuL n ds → RL K H ds vs → DpAll K H vs (D.pys ds)
  | _, [], vs, _, h => by rw [RL.nilE h]; exact .nil
  | n, d :: ds, vs, p, h => by
    obtain ⟨v, r, rfl, h1, h2⟩ := h.consE
    unfold PuL at p
    exact .cons (R.dp n d v p.1 h1) (RL.dp n ds r p.2 h2)
end
mutual
theorem Pu.lay : ∀ (n : Nat) (d : D), Pu n d → PyData.canLay0 d.py = true ∧ PyData.depth d.py ≤ n
  | _, .non, _ => ⟨rfl, Nat.zero_le _⟩
  | _, .int _, _ => ⟨rfl, Nat.zero_le _⟩
  | _, .str s, p => ⟨by unfold Pu at p; exact p, Nat.zero_le _⟩
  | n + 1, .tup ds, p => by
    obtain ⟨h1, h2⟩ := PuL.lay n ds (by unfold Pu at p; exact p)
    exact ⟨h1, Nat.succ_le_succ h2⟩
  | n + 1, .lst ds, p => by
    obtain ⟨h1, h2⟩ := PuL.lay n ds (by unfold Pu at p; exact p)
    exact ⟨h1, Nat.succ_le_succ h2⟩
  | 0, .tup _, p => by unfold Pu at p; exact p.elim
  | 0, .lst _, p => by unfold Pu at p; exact p.elim
  | _, .bl _, p => by unfold Pu at p; exact p.elim
  | _, .dct _, p => by unfold Pu at p; exact p.elim
  | _, .ins _ _, p => by unfold Pu at p; exact p.elim
theorem PuL.lay : ∀ (n : Nat) (ds : List D), PuL n ds → PyData.canLayAll0 (D.pys ds) = true ∧ PyData.depthAll (D.pys ds) ≤ n
  | n, [], _ => ⟨rfl, Nat.zero_le _⟩
  | n, d :: ds, p => by
    unfold PuL at p
    obtain ⟨h1, h2⟩ := Pu.lay n d p.1
    obtain ⟨h3, h4⟩ := PuL.lay n ds p.2
    refine ⟨?_, Nat.max_le.mpr ⟨h2, h4⟩⟩
    show (PyData.canLay0 d.py && PyData.canLayAll0 (D.pys ds)) = true
    rw [h1, h3]; rfl
end
theorem Pu.shaped {d : D} (h : Pu 32 d) : SeqAt.shaped d.py = true := by
  obtain ⟨h1, h2⟩ := Pu.lay 32 d h
  unfold SeqAt.shaped
  rw [Bool.and_eq_true]
  exact ⟨h1, decide_eq_true (Nat.le_trans h2 (by decide))⟩
mutual
theorem Pu.eqv : ∀ (n m : Nat) (d e : D), Pu n d → Pu m e → (PyData.eqv d.py e.py = true ↔ d = e)
  | _, _, .non, .non, _, _ => by simp [D.py, PyData.eqv]
  | _, _, .non, .int _, _, _ => by simp [D.py, PyData.eqv]
  | _, _, .non, .str _, _, _ => by simp [D.py, PyData.eqv]
  | _, _, .non, .tup _, _, _ => by simp [D.py, PyData.eqv]
  | _, _, .non, .lst _, _, _ => by simp [D.py, PyData.eqv]
  | _, _, .int _, .non, _, _ => by simp [D.py, PyData.eqv]
  | _, _, .int _, .int _, _, _ => by simp [D.py, PyData.eqv]
  | _, _, .int _, .str _, _, _ => by simp [D.py, PyData.eqv]
  | _, _, .int _, .tup _, _, _ => by simp [D.py, PyData.eqv]
  | _, _, .int _, .lst _, _, _ => by simp [D.py, PyData.eqv]
  | _, _, .str _, .non, _, _ => by simp [D.py, PyData.eqv]
  | _, _, .str _, .int _, _, _ => by simp [D.py, PyData.eqv]
  | _, _, .str _, .str _, _, _ => by simp [D.py, PyData.eqv]
  | _, _, .str _, .tup _, _, _ => by simp [D.py, PyData.eqv]
  | _, _, .str _, .lst _, _, _ => by simp [D.py, PyData.eqv]
  | _, _, .tup _, .non, _, _ => by simp [D.py, PyData.eqv]
  | _, _, .tup _, .int _, _, _ => by simp [D.py, PyData.eqv]
  | _, _, .tup _, .str _, _, _ => by simp [D.py, PyData.eqv]
  | n + 1, m + 1, .tup ds, .tup es, p, p' => by
    unfold Pu at p p'
    have h := PuL.eqv n m ds es p p'
    show PyData.eqvAll (D.pys ds) (D.pys es) = true ↔ _
    rw [h]; simp
  | _, _, .tup _, .lst _, _, _ => by simp [D.py, PyData.eqv]
  | _, _, .lst _, .non, _, _ => by simp [D.py, PyData.eqv]
  | _, _, .lst _, .int _, _, _ => by simp [D.py, PyData.eqv]
  | _, _, .lst _, .str _, _, _ => by simp [D.py, PyData.eqv]
  | _, _, .lst _, .tup _, _, _ => by simp [D.py, PyData.eqv]
  | n + 1, m + 1, .lst ds, .lst es, p, p' => by
    unfold Pu at p p'
    have h := PuL.eqv n m ds es p p'
    show PyData.eqvAll (D.pys ds) (D.pys es) = true ↔ _
    rw [h]; simp
  | 0, _, .tup _, _, p, _ => by unfold Pu at p; exact p.elim
  | 0, _, .lst _, _, p, _ => by unfold Pu at p; exact p.elim
  | _, 0, _, .tup _, _, p => by unfold Pu at p; exact p.elim
  | _, 0, _, .lst _, _, p => by unfold Pu at p; exact p.elim
  | _, _, .bl _, _, p, _ => by unfold Pu at p; exact p.elim
  | _, _, .dct _, _, p, _ => by unfold Pu at p; exact p.elim
  | _, _, .ins _ _, _, p, _ => by unfold Pu at p; exact p.elim
  | _, _, _, .bl _, _, p => by unfold Pu at p; exact p.elim
  | _, _, _, .dct _, _, p => by unfold Pu at p; exact p.elim
  | _, _, _, .ins _ _, _, p => by unfold Pu at p; exact p.elim
theorem PuL.eqv : ∀ (n m : Nat) (ds es : List D), PuL n ds → PuL m es → (PyData.eqvAll (D.pys ds) (D.pys es) = true ↔ ds = es)
  | _, _, [], [], _, _ => by simp [D.pys, PyData.eqvAll]
  | _, _, [], _ :: _, _, _ => by simp [D.pys, PyData.eqvAll]
  | _, _, _ :: _, [], _, _ => by simp [D.pys, PyData.eqvAll]
  | n, m, d :: ds, e :: es, p, p' => by
    unfold PuL at p p'
    have h1 := Pu.eqv n m d e p.1 p'.1
    have h2 := PuL.eqv n m ds es p.2 p'.2
    show (PyData.eqv d.py e.py && PyData.eqvAll (D.pys ds) (D.pys es)) = true ↔ _
    rw [Bool.and_eq_true, h1, h2]; simp
end
def wEq : WO := fun d e q => (Pu 32 d ∧ Pu 32 e) ∧ (d = e → q (.bl true)) ∧ (d ≠ e → q (.bl false))
def wNe : WO := fun d e q => (Pu 32 d ∧ Pu 32 e) ∧ (d ≠ e → q (.bl true)) ∧ (d = e → q (.bl false))
theorem RH.dp {G H : Hp} {n : Nat} {d : D} {v : V} (s : Same G H) (p : Pu n d) (h : RH K G H d v) : Dp K H v d.py := R.dp n d v p (h.r s)
theorem so_eq : SndO K (rEqD K) wEq := fun c G H env σ x y d e Q q f hx hy hw k => by
  obtain ⟨⟨p1, p2⟩, h1, h2⟩ := hw
  refine ⟨d.py, e.py, hx.dp f.gh p1, hy.dp f.gh p2, p1.shaped, p2.shaped, ?_⟩
  have iff := Pu.eqv 32 32 d e p1 p2
  by_cases h : d = e
  · rw [iff.mpr h]; exact k _ _ G H f (Gr.refl f) R.bl_ (h1 h)
  · rw [show PyData.eqv d.py e.py = false from Bool.eq_false_iff.mpr fun z => h (iff.mp z)]; exact k _ _ G H f (Gr.refl f) R.bl_ (h2 h)
theorem so_ne : SndO K (rNeD K) wNe := fun c G H env σ x y d e Q q f hx hy hw k => by
  obtain ⟨⟨p1, p2⟩, h1, h2⟩ := hw
  refine ⟨d.py, e.py, hx.dp f.gh p1, hy.dp f.gh p2, p1.shaped, p2.shaped, ?_⟩
  have iff := Pu.eqv 32 32 d e p1 p2
  by_cases h : d = e
  · rw [iff.mpr h]; exact k _ _ G H f (Gr.refl f) R.bl_ (h2 h)
  · rw [show PyData.eqv d.py e.py = false from Bool.eq_false_iff.mpr fun z => h (iff.mp z)]; exact k _ _ G H f (Gr.refl f) R.bl_ (h1 h)
/-! ### in, not in a list or tuple of flat things -/
def Flat : D → Prop
  | .non => True | .int _ => True | .str _ => True | _ => False
def items : D → Option (List D)
  | .lst ds => some ds | .tup ds => some ds | _ => none
def wIn : WO := fun d e q => match items e with | some ds => (Flat d ∧ ∀ x ∈ ds, Flat x) ∧ (d ∈ ds → q (.bl true)) ∧ (d ∉ ds → q (.bl false)) | none => False
def wNotIn : WO := fun d e q => match items e with | some ds => (Flat d ∧ ∀ x ∈ ds, Flat x) ∧ (d ∉ ds → q (.bl true)) ∧ (d ∈ ds → q (.bl false)) | none => False
theorem flat_V {H : Hp} {d : D} {v : V} (p : Flat d) (h : R K H d v) : flatV v = true := by
  cases d with
  | non => rw [show v = .non from h]; rfl
  | int i => rw [show v = .int i from h]; rfl
  | str i => rw [show v = .str i from h]; rfl
  | _ => exact p.elim
theorem flat_eq {H : Hp} {d e : D} {v u : V} (p : Flat d) (p' : Flat e) (h : R K H d v) (h' : R K H e u) : eqV v u = true ↔ d = e := by
  cases d with
  | non => rw [show v = .non from h]; cases e with
    | non => rw [show u = .non from h']; simp [eqV]
    | int i => rw [show u = .int i from h']; simp [eqV]
    | str i => rw [show u = .str i from h']; simp [eqV]
    | _ => exact p'.elim
  | int i => rw [show v = .int i from h]; cases e with
    | non => rw [show u = .non from h']; simp [eqV]
    | int i => rw [show u = .int i from h']; simp [eqV]
    | str i => rw [show u = .str i from h']; simp [eqV]
    | _ => exact p'.elim
  | str i => rw [show v = .str i from h]; cases e with
    | non => rw [show u = .non from h']; simp [eqV]
    | int i => rw [show u = .int i from h']; simp [eqV]
    | str i => rw [show u = .str i from h']; simp [eqV]
    | _ => exact p'.elim
  | _ => exact p.elim
theorem flat_all {H : Hp} : ∀ {ds : List D} {vs : List V}, (∀ x ∈ ds, Flat x) → RL K H ds vs → vs.all flatV = true
  | [], _, _, h => by rw [RL.nilE h]; rfl
  | d :: ds, _, p, h => by
    obtain ⟨v, r, rfl, h1, h2⟩ := h.consE
    rw [List.all_cons, flat_V (p d List.mem_cons_self) h1, flat_all (fun x hx => p x (List.mem_cons_of_mem _ hx)) h2]; rfl
theorem flat_in {H : Hp} {d : D} {v : V} (p : Flat d) (h : R K H d v) : ∀ {ds : List D} {vs : List V}, (∀ x ∈ ds, Flat x) → RL K H ds vs → (inV v vs = true ↔ d ∈ ds)
  | [], _, _, g => by rw [RL.nilE g]; simp [inV]
  | e :: ds, _, p', g => by
    obtain ⟨u, r, rfl, h1, h2⟩ := g.consE
    have ih := flat_in p h (fun x hx => p' x (List.mem_cons_of_mem _ hx)) h2
    have e1 := flat_eq (p' e List.mem_cons_self) p h1 h
    show (eqV u v || inV v r) = true ↔ _
    rw [Bool.or_eq_true, e1, ih, List.mem_cons]
    exact ⟨fun z => z.imp Eq.symm id, fun z => z.imp Eq.symm id⟩
theorem RH.seq {G H : Hp} (s : Same G H) {d : D} {v : V} {ds : List D} (h : RH K G H d v) (e : items d = some ds) : ∃ a vs, v = .ref a ∧ (SqL K H a vs ∨ SqT K H a vs) ∧ RL K G ds vs := by
  cases d with
  | lst es => cases e; obtain ⟨a, vs, e1, h1, h2⟩ := h.lst; exact ⟨a, vs, e1, .inl (SqL.of h1), h2⟩
  | tup es => cases e; obtain ⟨a, vs, e1, h1, h2⟩ := h.tup; exact ⟨a, vs, e1, .inr (sqt_same s h1), h2⟩
  | _ => cases e
theorem so_in : SndO K (rIn K false) wIn := fun c G H env σ x y d e Q q f hx hy hw k => by
  unfold wIn at hw
  split at hw
  · rename_i ds he
    obtain ⟨⟨p1, p2⟩, h1, h2⟩ := hw
    obtain ⟨a, vs, rfl, hs, r⟩ := hy.seq f.gh he
    have r' := RL.mono f.gh _ _ r
    have hx' := hx.r f.gh
    have iff := flat_in p1 hx' p2 r'
    refine ⟨a, vs, rfl, hs, flat_V p1 hx', flat_all p2 r', ?_⟩
    show Q (.bl (if false = true then !inV x vs else inV x vs)) H
    rw [if_neg Bool.false_ne_true]
    by_cases h : d ∈ ds
    · rw [iff.mpr h]; exact k _ _ G H f (Gr.refl f) R.bl_ (h1 h)
    · rw [show inV x vs = false from Bool.eq_false_iff.mpr fun z => h (iff.mp z)]; exact k _ _ G H f (Gr.refl f) R.bl_ (h2 h)
  · exact hw.elim
theorem so_notIn : SndO K (rIn K true) wNotIn := fun c G H env σ x y d e Q q f hx hy hw k => by
  unfold wNotIn at hw
  split at hw
  · rename_i ds he
    obtain ⟨⟨p1, p2⟩, h1, h2⟩ := hw
    obtain ⟨a, vs, rfl, hs, r⟩ := hy.seq f.gh he
    have r' := RL.mono f.gh _ _ r
    have hx' := hx.r f.gh
    have iff := flat_in p1 hx' p2 r'
    refine ⟨a, vs, rfl, hs, flat_V p1 hx', flat_all p2 r', ?_⟩
    show Q (.bl (if true = true then !inV x vs else inV x vs)) H
    rw [if_pos rfl]
    by_cases h : d ∈ ds
    · rw [iff.mpr h]; exact k _ _ G H f (Gr.refl f) R.bl_ (h2 h)
    · rw [show inV x vs = false from Bool.eq_false_iff.mpr fun z => h (iff.mp z)]; exact k _ _ G H f (Gr.refl f) R.bl_ (h1 h)
  · exact hw.elim
end
end Y

namespace Y
open PySem L2
/-! ### arguments that may be lists of ours -/
def RBL (K : PySem.W.Frag) (c : Ctx) (G : Hp) (env : List Sl) (σ : L2.St) : List D → List V → Prop
  | [], vs => vs = []
  | d :: ds, vs => ∃ v r, vs = v :: r ∧ RB K c G env σ d v ∧ RBL K c G env σ ds r
def SndAB (K : PySem.W.Frag) (t : TA) (w : WA) : Prop := ∀ (c : Ctx) (G H : Hp) (env : List Sl) (σ : L2.St) (Q : List V → Hp → Prop) (q : List D → Prop), Fr K c G H env σ → w env q →
  (∀ vs ds G' H', Fr K c G' H' env σ → Gr K c.da G H G' H' → RBL K c G' env σ ds vs → q ds → Q vs H') → t σ H Q
structure DAB (X : Cx) (es : List Expr) (t : TA) (w : WA) : Prop where
  pa : PA X es t
  snd : SndAB X.K t w
section
variable {X : Cx} {K : PySem.W.Frag} {e a b cnd : Expr} {es : List Expr} {t ta tb tc : TE} {w wa wb wc : WE} {tA : TA} {wA : WA} {tt tt' : TT} {wt wt' : WT} {pos : Pos}
theorem dab_nil : DAB X [] tNil wNil := ⟨pa_nil, fun _ G H _ _ _ _ f hw k => k [] [] G H f (Gr.refl f) rfl hw⟩
theorem dab_cons (ha : DB X e t w) (hr : DAB X es tA wA) (hs : starEach (e :: es) X.env = (false, eval e X.env) :: starEach es X.env := by rfl) : DAB X (e :: es) (tCons t tA) (wCons w wA) := ⟨pa_cons ha.pe hr.pa hs, fun c G H env σ Q q f hw k =>
  ha.snd c G H env σ _ _ f hw fun v d G1 H1 f1 s1 r1 hw1 => hr.snd c G1 H1 env σ _ _ f1 hw1 fun vs ds G2 H2 f2 s2 r2 hq => k (v :: vs) (d :: ds) G2 H2 f2 (s1.trans s2) ⟨v, vs, rfl, r1.mono s2.gg, r2⟩ hq⟩
/-- a built-in by data -/
abbrev WC := List D → (D → Prop) → Prop
def RHL (K : PySem.W.Frag) (G H : Hp) : List D → List V → Prop
  | [], vs => vs = []
  | d :: ds, vs => ∃ v r, vs = v :: r ∧ RH K G H d v ∧ RHL K G H ds r
theorem RBL.h {c : Ctx} {G G' H' : Hp} {env : List Sl} {σ : L2.St} (f : Fr K c G' H' env σ) (s : Same G G') : ∀ {ds : List D} {vs : List V}, RBL K c G env σ ds vs → RHL K G' H' ds vs
  | [], _, h => h
  | d :: ds, _, ⟨v, r, e, h1, h2⟩ => ⟨v, r, e, h1 G' H' f s, RBL.h f s h2⟩
def SndC (K : PySem.W.Frag) (r : List V → Hp → VK → Prop) (wc : WC) : Prop := ∀ (c : Ctx) (G H : Hp) (env : List Sl) (σ : L2.St) (xs : List V) (ds : List D) (Q : VK) (q : D → Prop), Fr K c G H env σ → RHL K G H ds xs → wc ds q →
  (∀ v z G' H', Fr K c G' H' env σ → Gr K c.da G H G' H' → R K G' z v → q z → Q v H') → r xs H Q
def wCB (wc : WC) (wA : WA) : WE := fun env q => wA env fun ds => wc ds q
theorem snd_cb {r : List V → Hp → VK → Prop} {wc : WC} (ha : SndAB K tA wA) (hc : SndC K r wc) : Snd K (tCB r tA) (wCB wc wA) := fun c G H env σ Q q f hw k =>
  ha c G H env σ _ _ f hw fun vs ds G1 H1 f1 s1 r1 hq => hc c G1 H1 env σ vs ds Q q f1 (RBL.h f1 (Same.refl _) r1) hq fun v z G2 H2 f2 s2 r2 hq2 => k v z G2 H2 f2 (s1.trans s2) r2 hq2
theorem de_cb {id : String} {x : Str} {p : Pos} {r : List V → Hp → VK → Prop} {wc : WC} (hc : CallR X (.builtin id) r) (sc : SndC X.K r wc) (hg : Gl X x) (hm : X.mg x = none) (hv : bootBuiltins x = some (.builtin id)) (ha : DAB X (e :: es) tA wA) (hn : x ≠ "__name__" := by decide) (hdb : (x == ("__debug__" : Str)) = false := by decide)
    (he : starEach (e :: es) X.env = (false, eval e X.env) :: starEach es X.env := by rfl) (hpl : (backTo pos (starEach es X.env)).any (·.1) = false := by rfl) : DE X (.Call (.Name x p) (e :: es) [] pos) (tCB r tA) (wCB wc wA) := ⟨pe_callB hc hg hm hv ha.pa hn hdb he hpl, snd_cb ha.snd sc⟩
theorem de_ty {id : String} {x : Str} {p : Pos} {r : List V → Hp → VK → Prop} {wc : WC} (hc : CallR X (.type id) r) (sc : SndC X.K r wc) (hg : Gl X x) (hm : X.mg x = none) (hv : bootBuiltins x = some (.type id)) (ha : DAB X (e :: es) tA wA) (hn : x ≠ "__name__" := by decide) (hdb : (x == ("__debug__" : Str)) = false := by decide)
    (he : starEach (e :: es) X.env = (false, eval e X.env) :: starEach es X.env := by rfl) (hpl : (backTo pos (starEach es X.env)).any (·.1) = false := by rfl) : DE X (.Call (.Name x p) (e :: es) [] pos) (tCB r tA) (wCB wc wA) := ⟨pe_callTy hc hg hm hv ha.pa hn hdb he hpl, snd_cb ha.snd sc⟩
theorem RHL.one {G H : Hp} {d : D} {xs : List V} (h : RHL K G H [d] xs) : ∃ v, xs = [v] ∧ RH K G H d v := by
  obtain ⟨v, r, rfl, h1, h2⟩ := h
  rw [show r = [] from h2]
  exact ⟨v, rfl, h1⟩
theorem RHL.two {G H : Hp} {d e : D} {xs : List V} (h : RHL K G H [d, e] xs) : ∃ v u, xs = [v, u] ∧ RH K G H d v ∧ RH K G H e u := by
  obtain ⟨v, r, rfl, h1, h2⟩ := h
  obtain ⟨u, rfl, h3⟩ := RHL.one h2
  exact ⟨v, u, rfl, h1, h3⟩
def wLen : WC := fun ds q => match ds with | [.lst xs] => q (.int xs.length) | [.tup xs] => q (.int xs.length) | [.str s] => s.length ≤ sizeLine ∧ q (.int s.length) | _ => False
theorem sc_len : SndC K (fun xs H Q => ∃ x n, xs = [x] ∧ LenV K x H n ∧ Q (.int n) H) wLen := fun c G H env σ xs ds Q q f hx hw k => by
  unfold wLen at hw
  split at hw
  · obtain ⟨v, rfl, h⟩ := hx.one
    obtain ⟨a, vs, rfl, h1, h2⟩ := h.lst
    exact ⟨_, vs.length, rfl, .inl ⟨vs, SqL.of h1, rfl⟩, k _ _ G H f (Gr.refl f) (by rw [h2.length]; exact R.int_) hw⟩
  · obtain ⟨v, rfl, h⟩ := hx.one
    obtain ⟨a, vs, rfl, h1, h2⟩ := h.tup
    exact ⟨_, vs.length, rfl, .inr ⟨vs, sqt_same f.gh h1, rfl⟩, k _ _ G H f (Gr.refl f) (by rw [h2.length]; exact R.int_) hw⟩
  · obtain ⟨v, rfl, h⟩ := hx.one
    rw [h.str]
    exact ⟨_, _, rfl, ⟨hw.1, rfl⟩, k _ _ G H f (Gr.refl f) R.int_ hw.2⟩
  · exact hw.elim
def wTuple : WC := fun ds q => match ds with | [.lst xs] => q (.tup xs) | [.tup xs] => q (.tup xs) | _ => False
theorem sc_tuple : SndC K (fun xs H Q => ∃ p ys, xs = [.ref p] ∧ ((SqL K H p ys ∧ ∀ l, H l = none → Q (.ref l) (upd H l (.tup ys))) ∨ (SqT K H p ys ∧ Q (.ref p) H))) wTuple := fun c G H env σ xs ds Q q f hx hw k => by
  unfold wTuple at hw
  split at hw
  · obtain ⟨v, rfl, h⟩ := hx.one
    obtain ⟨a, vs, rfl, h1, h2⟩ := h.lst
    refine ⟨a, vs, rfl, .inl ⟨SqL.of h1, fun p hp => ?_⟩⟩
    have g := f.newG (o := .tup vs) hp
    exact k _ _ _ _ (f.step g) g (.tup (SqT.of upd_same) (RL.mono g.gg _ _ h2)) hw
  · obtain ⟨v, rfl, h⟩ := hx.one
    obtain ⟨a, vs, rfl, h1, h2⟩ := h.tup
    exact ⟨a, vs, rfl, .inr ⟨sqt_same f.gh h1, k _ _ G H f (Gr.refl f) (.tup h1 h2) hw⟩⟩
  · exact hw.elim
def wInt : WC := fun ds q => match ds with | [.int i] => q (.int i) | [.bl b] => q (.int (if b then 1 else 0)) | _ => False
theorem sc_int : SndC K (fun xs H Q => (∃ i, xs = [.int i] ∧ Q (.int i) H) ∨ ∃ k, xs = [.bl k] ∧ Q (.int (if k then 1 else 0)) H) wInt := fun c G H env σ xs ds Q q f hx hw k => by
  unfold wInt at hw
  split at hw
  · obtain ⟨v, rfl, h⟩ := hx.one
    rw [h.int]
    exact .inl ⟨_, rfl, k _ _ G H f (Gr.refl f) R.int_ hw⟩
  · obtain ⟨v, rfl, h⟩ := hx.one
    rw [h.bl]
    exact .inr ⟨_, rfl, k _ _ G H f (Gr.refl f) R.int_ hw⟩
  · exact hw.elim
def wMax2 : WC := fun ds q => match ds with | [.int i, .int j] => q (.int (max i j)) | _ => False
def wMin2 : WC := fun ds q => match ds with | [.int i, .int j] => q (.int (min i j)) | _ => False
theorem max_eq (i j : Int) : (if j > i then j else i) = max i j := by
  rw [Int.max_def]; split <;> split <;> omega
theorem min_eq (i j : Int) : (if j < i then j else i) = min i j := by
  rw [Int.min_def]; split <;> split <;> omega
theorem sc_max2 : SndC K (fun xs H Q => ∃ i j, xs = [.int i, .int j] ∧ Q (.int (if j > i then j else i)) H) wMax2 := fun c G H env σ xs ds Q q f hx hw k => by
  unfold wMax2 at hw
  split at hw
  · obtain ⟨v, u, rfl, h, h'⟩ := hx.two
    rw [h.int, h'.int]
    exact ⟨_, _, rfl, by rw [max_eq]; exact k _ _ G H f (Gr.refl f) R.int_ hw⟩
  · exact hw.elim
theorem sc_min2 : SndC K (fun xs H Q => ∃ i j, xs = [.int i, .int j] ∧ Q (.int (if j < i then j else i)) H) wMin2 := fun c G H env σ xs ds Q q f hx hw k => by
  unfold wMin2 at hw
  split at hw
  · obtain ⟨v, u, rfl, h, h'⟩ := hx.two
    rw [h.int, h'.int]
    exact ⟨_, _, rfl, by rw [min_eq]; exact k _ _ G H f (Gr.refl f) R.int_ hw⟩
  · exact hw.elim
/-- lists of ints, of truth values -/
def intsOf : List D → Option (List Int)
  | [] => some []
  | .int i :: ds => (intsOf ds).map (i :: ·)
  | _ => none
def bllsOf : List D → Option (List Bool)
  | [] => some []
  | .bl i :: ds => (bllsOf ds).map (i :: ·)
  | _ => none
theorem intsOf_map (ns : List Int) : intsOf (ns.map D.int) = some ns := by
  induction ns with
  | nil => rfl
  | cons n r ih => show (intsOf (r.map D.int)).map (n :: ·) = _; rw [ih]; rfl
theorem bllsOf_map (ns : List Bool) : bllsOf (ns.map D.bl) = some ns := by
  induction ns with
  | nil => rfl
  | cons n r ih => show (bllsOf (r.map D.bl)).map (n :: ·) = _; rw [ih]; rfl
theorem intsOf_rl {H : Hp} : ∀ {ds : List D} {ns : List Int} {vs : List V}, intsOf ds = some ns → RL K H ds vs → vs = ns.map V.int
  | [], _, _, e, h => by cases e; exact RL.nilE h
  | .int i :: ds, ns, vs, e, h => by
    obtain ⟨v, r, rfl, h1, h2⟩ := h.consE
    unfold intsOf at e
    cases q : intsOf ds with
    | none => rw [q] at e; cases e
    | some ms =>
      rw [q] at e; cases e
      rw [show v = .int i from h1, intsOf_rl q h2]; rfl
  | .non :: _, _, _, e, _ => by cases e
  | .bl _ :: _, _, _, e, _ => by cases e
  | .str _ :: _, _, _, e, _ => by cases e
  | .tup _ :: _, _, _, e, _ => by cases e
  | .lst _ :: _, _, _, e, _ => by cases e
  | .dct _ :: _, _, _, e, _ => by cases e
  | .ins _ _ :: _, _, _, e, _ => by cases e
theorem bllsOf_rl {H : Hp} : ∀ {ds : List D} {ns : List Bool} {vs : List V}, bllsOf ds = some ns → RL K H ds vs → vs = ns.map V.bl
  | [], _, _, e, h => by cases e; exact RL.nilE h
  | .bl i :: ds, ns, vs, e, h => by
    obtain ⟨v, r, rfl, h1, h2⟩ := h.consE
    unfold bllsOf at e
    cases q : bllsOf ds with
    | none => rw [q] at e; cases e
    | some ms =>
      rw [q] at e; cases e
      rw [show v = .bl i from h1, bllsOf_rl q h2]; rfl
  | .non :: _, _, _, e, _ => by cases e
  | .int _ :: _, _, _, e, _ => by cases e
  | .str _ :: _, _, _, e, _ => by cases e
  | .tup _ :: _, _, _, e, _ => by cases e
  | .lst _ :: _, _, _, e, _ => by cases e
  | .dct _ :: _, _, _, e, _ => by cases e
  | .ins _ _ :: _, _, _, e, _ => by cases e
def wSum : WC := fun ds q => match ds with | [.lst xs] => (match intsOf xs with | some ns => q (.int ns.sum) | none => False) | _ => False
def wMin1 : WC := fun ds q => match ds with | [.lst xs] => (match intsOf xs with | some ns => 0 < ns.length ∧ ∀ m, m ∈ ns → (∀ y, y ∈ ns → m ≤ y) → q (.int m) | none => False) | _ => False
def wMax1 : WC := fun ds q => match ds with | [.lst xs] => (match intsOf xs with | some ns => 0 < ns.length ∧ ∀ m, m ∈ ns → (∀ y, y ∈ ns → y ≤ m) → q (.int m) | none => False) | _ => False
def wAny : WC := fun ds q => match ds with | [.lst xs] => (match bllsOf xs with | some bs => q (.bl (bs.any id)) | none => False) | _ => False
def wAll : WC := fun ds q => match ds with | [.lst xs] => (match bllsOf xs with | some bs => q (.bl (bs.all id)) | none => False) | _ => False
theorem sc_sum : SndC K (rSum K) wSum := fun c G H env σ xs ds Q q f hx hw k => by
  unfold wSum at hw
  split at hw
  · split at hw
    · rename_i e
      obtain ⟨v, rfl, h⟩ := hx.one
      obtain ⟨a, vs, rfl, h1, h2⟩ := h.lst
      rw [intsOf_rl e h2] at h1
      exact ⟨a, _, rfl, SqL.of h1, k _ _ G H f (Gr.refl f) R.int_ hw⟩
    · exact hw.elim
  · exact hw.elim
theorem sc_min1 : SndC K (rMin K) wMin1 := fun c G H env σ xs ds Q q f hx hw k => by
  unfold wMin1 at hw
  split at hw
  · split at hw
    · rename_i e
      obtain ⟨v, rfl, h⟩ := hx.one
      obtain ⟨a, vs, rfl, h1, h2⟩ := h.lst
      rw [intsOf_rl e h2] at h1
      exact ⟨a, _, rfl, SqL.of h1, hw.1, fun m hm hy => k _ _ G H f (Gr.refl f) R.int_ (hw.2 m hm hy)⟩
    · exact hw.elim
  · exact hw.elim
theorem sc_max1 : SndC K (rMax K) wMax1 := fun c G H env σ xs ds Q q f hx hw k => by
  unfold wMax1 at hw
  split at hw
  · split at hw
    · rename_i e
      obtain ⟨v, rfl, h⟩ := hx.one
      obtain ⟨a, vs, rfl, h1, h2⟩ := h.lst
      rw [intsOf_rl e h2] at h1
      exact ⟨a, _, rfl, SqL.of h1, hw.1, fun m hm hy => k _ _ G H f (Gr.refl f) R.int_ (hw.2 m hm hy)⟩
    · exact hw.elim
  · exact hw.elim
theorem sc_any : SndC K (rAny K) wAny := fun c G H env σ xs ds Q q f hx hw k => by
  unfold wAny at hw
  split at hw
  · split at hw
    · rename_i e
      obtain ⟨v, rfl, h⟩ := hx.one
      obtain ⟨a, vs, rfl, h1, h2⟩ := h.lst
      rw [bllsOf_rl e h2] at h1
      exact ⟨a, _, rfl, SqL.of h1, k _ _ G H f (Gr.refl f) R.bl_ hw⟩
    · exact hw.elim
  · exact hw.elim
theorem sc_all : SndC K (rAll K) wAll := fun c G H env σ xs ds Q q f hx hw k => by
  unfold wAll at hw
  split at hw
  · split at hw
    · rename_i e
      obtain ⟨v, rfl, h⟩ := hx.one
      obtain ⟨a, vs, rfl, h1, h2⟩ := h.lst
      rw [bllsOf_rl e h2] at h1
      exact ⟨a, _, rfl, SqL.of h1, k _ _ G H f (Gr.refl f) R.bl_ hw⟩
    · exact hw.elim
  · exact hw.elim
/-- list(x): a new list of ours -/
def wListN (wA : WA) : WA := fun env q => wA env fun ds => match ds with | [.lst xs] => q xs | [.tup xs] => q xs | _ => False
theorem dn_list {x : Str} {p : Pos} (hg : Gl X x) (hm : X.mg x = none) (hv : bootBuiltins x = some (.type "list")) (ha : DAB X (e :: es) tA wA) (hn : x ≠ "__name__" := by decide) (hdb : (x == ("__debug__" : Str)) = false := by decide)
    (he : starEach (e :: es) X.env = (false, eval e X.env) :: starEach es X.env := by rfl) (hpl : (backTo pos (starEach es X.env)).any (·.1) = false := by rfl) : DN X (.Call (.Name x p) (e :: es) [] pos) (tCB (fun xs H Q => ∃ p ys, xs = [.ref p] ∧ (SqL X.K H p ys ∨ SqT X.K H p ys) ∧ ∀ l, H l = none → Q (.ref l) (upd H l (.lst ys))) tA) (wListN wA) :=
  ⟨pe_callTy call_list_of hg hm hv ha.pa hn hdb he hpl, fun c G H env σ Q q f hw k => ha.snd c G H env σ _ _ f hw fun vs ds G1 H1 f1 s1 r1 hq => by
    have fin : ∀ (ys : List D) (us : List V) (l : Addr), RL X.K G1 ys us → q ys → H1 l = none → Q (.ref l) (upd H1 l (.lst us)) := fun ys us l r hq hl =>
      k l us ys G1 _ (f1.step (f1.newH hl)) (s1.trans (f1.newH hl)) upd_same r (f1.gnone hl) (f1.h0none hl) (s1.fresh hl) (f1.noOwn hl) hq
    have r2 := RBL.h f1 (Same.refl _) r1
    split at hq
    · obtain ⟨v, rfl, h⟩ := r2.one
      obtain ⟨a, us, rfl, h1, h2⟩ := h.lst
      exact ⟨a, us, rfl, .inl (SqL.of h1), fun l hl => fin _ _ _ h2 hq hl⟩
    · obtain ⟨v, rfl, h⟩ := r2.one
      obtain ⟨a, us, rfl, h1, h2⟩ := h.tup
      exact ⟨a, us, rfl, .inr (sqt_same f1.gh h1), fun l hl => fin _ _ _ h2 hq hl⟩
    · exact hq.elim⟩
/-- xs + ys of lists: a new list of ours -/
def wCatN (wa wb : WE) : WA := fun env q => wa env fun d => wb env fun e => match d, e with | .lst xs, .lst ys => xs.length + ys.length ≤ sizeLine ∧ q (xs ++ ys) | _, _ => False
theorem dn_cat (ha : DB X a ta wa) (hb : DB X b tb wb) : DN X (.BinOp a .Add b pos) (tOp rCat ta tb) (wCatN wa wb) := ⟨pe_op op_cat ha.pe hb.pe, fun c G H env σ Q q f hw k =>
  ha.snd c G H env σ _ _ f hw fun x d G1 H1 f1 s1 r1 hw1 => hb.snd c G1 H1 env σ _ _ f1 hw1 fun y e G2 H2 f2 s2 r2 hq => by
    have h1 := r1 G2 H2 f2 s2.gg
    have h2 := r2 G2 H2 f2 (Same.refl _)
    split at hq
    · obtain ⟨l, us, rfl, e1, g1⟩ := h1.lst
      obtain ⟨b, ws, rfl, e2, g2⟩ := h2.lst
      refine ⟨l, b, us, ws, rfl, rfl, e1, e2, by rw [g1.length, g2.length]; exact hq.1, fun p hp => ?_⟩
      exact k p _ _ G2 _ (f2.step (f2.newH hp)) ((s1.trans s2).trans (f2.newH hp)) upd_same (g1.append g2) (f2.gnone hp) (f2.h0none hp) ((s1.trans s2).fresh hp) (f2.noOwn hp) hq.2
    · exact hq.elim⟩

/-! ### items, slices -/
def wIx : WO := fun d e q => match d, e with
  | .lst ds, .int i => (match atI ds i with | some x => q x | none => False)
  | .tup ds, .int i => (match atI ds i with | some x => q x | none => False)
  | .str s, .int i => s.length ≤ sizeLine ∧ (match atI s.cps.toList i with | some c => q (.str ⟨#[c]⟩) | none => False)
  | _, _ => False
theorem atI_rl {H : Hp} {ds : List D} {vs : List V} {i : Int} {d : D} (r : RL K H ds vs) (h : atI ds i = some d) : ∃ v, atI vs i = some v ∧ R K H d v := by
  unfold atI at h ⊢
  rw [r.length]
  cases e : ixN ds.length i with
  | none => rw [e] at h; cases h
  | some j =>
    rw [e] at h
    exact r.get h
theorem so_ix : SndO K (rIx K) wIx := fun c G H env σ x y d e Q q f hx hy hw k => by
  unfold wIx at hw
  split at hw
  · split at hw
    · rename_i z hz
      obtain ⟨a, vs, rfl, h1, h2⟩ := hx.lst
      obtain ⟨v, h3, h4⟩ := atI_rl h2 hz
      exact .inl ⟨a, vs, _, v, rfl, hy.int, SqL.of h1, h3, k _ _ G H f (Gr.refl f) h4 hw⟩
    · exact hw.elim
  · split at hw
    · rename_i z hz
      obtain ⟨a, vs, rfl, h1, h2⟩ := hx.tup
      obtain ⟨v, h3, h4⟩ := atI_rl h2 hz
      exact .inr (.inl ⟨a, vs, _, v, rfl, hy.int, sqt_same f.gh h1, h3, k _ _ G H f (Gr.refl f) h4 hw⟩)
    · exact hw.elim
  · obtain ⟨h0, hw⟩ := hw
    split at hw
    · rename_i z hz
      exact .inr (.inr ⟨_, _, z, hx.str, hy.int, h0, hz, k _ _ G H f (Gr.refl f) R.str_ hw⟩)
    · exact hw.elim
  · exact hw.elim
theorem de_ix (ha : DB X a ta wa) (hb : DB X b tb wb) (hs : PlainIx b) : DE X (.Subscript a b pos) (tOp (rIx X.K) ta tb) (wOp2 wIx wa wb) := ⟨pe_ix ix_seq ha.pe hb.pe hs, snd_op ha.snd hb.snd so_ix⟩
/-- a slice's parts -/
abbrev WP := List Sl → (Option Int → Prop) → Prop
structure DO (X : Cx) (e : Option Expr) (t : TO) (w : WP) : Prop where
  po : PO X e t
  snd : ∀ (c : Ctx) (G H : Hp) (env : List Sl) (σ : L2.St) (Q : Option Int → Hp → Prop) (q : Option Int → Prop), Fr X.K c G H env σ → w env q → (∀ o G' H', Fr X.K c G' H' env σ → Gr X.K c.da G H G' H' → q o → Q o H') → t σ H Q
theorem do_none : DO X none tNoPart (fun _ q => q none) := ⟨po_none, fun c G H env σ Q q f hw k => k none G H f (Gr.refl f) hw⟩
def wPart (w : WE) : WP := fun env q => w env fun d => match d with | .int i => q (some i) | _ => False
theorem do_some (h : DE X e t w) : DO X (some e) (tPart t) (wPart w) := ⟨po_some h.pe, fun c G H env σ Q q f hw k => h.snd c G H env σ _ _ f hw fun v d G' H' f' s r hq => by
  cases d with
  | int i => exact ⟨i, r, k (some i) G' H' f' s hq⟩
  | _ => exact hq.elim⟩
def cutD (ds : List D) (lo hi : Option Int) : List D := (ds.drop (HT.sIx ds.length 0 lo)).take (HT.sIx ds.length ds.length hi - HT.sIx ds.length 0 lo)
theorem cut_rl {H : Hp} {ds : List D} {vs : List V} (lo hi : Option Int) (r : RL K H ds vs) : RL K H (cutD ds lo hi) (cutV vs lo hi) := by
  unfold cutD cutV
  rw [r.length]
  exact (r.drop _).take _
/-- of a list or a tuple: frozen -/
def wSl (wa : WE) (w1 w2 : WP) : WE := fun env q => wa env fun d => w1 env fun lo => w2 env fun hi => match d with
  | .lst ds => q (.lst (cutD ds lo hi)) | .tup ds => q (.tup (cutD ds lo hi)) | .str s => s.length ≤ sizeLine ∧ q (.str (cutS s lo hi)) | _ => False
def rSlU (K : PySem.W.Frag) : V → Option Int → Option Int → Hp → VK → Prop := fun x lo hi H Q => rSlL K x lo hi H Q ∨ rSlA K x lo hi H Q ∨ rSlS x lo hi H Q
theorem sl_U : SlR X (rSlU X.K) := sl_list.or (sl_tupA.or sl_str)
end
end Y

namespace Y
open PySem L2
section
variable {X : Cx} {K : PySem.W.Frag} {e a b cnd tg iter elt : Expr} {es : List Expr} {t ta tb tc te : TE} {w wa wb wc we : WE} {tA : TA} {wA : WA} {tt tt' : TT} {wt wt' : WT} {pos : Pos}
theorem de_slice {lo hi : Option Expr} {tl th : TO} {w1 w2 : WP} {p2 : Pos} (ha : DB X a ta wa) (hl : DO X lo tl w1) (hh : DO X hi th w2) : DE X (.Subscript a (.Slice lo hi none p2) pos) (tSl (rSlU X.K) ta tl th) (wSl wa w1 w2) := ⟨pe_slice sl_U ha.pe hl.po hh.po, fun c G H env σ Q q f hw k =>
  ha.snd c G H env σ _ _ f hw fun x d G1 H1 f1 s1 r1 hw1 => hl.snd c G1 H1 env σ _ _ f1 hw1 fun lo G2 H2 f2 s2 hw2 => hh.snd c G2 H2 env σ _ _ f2 hw2 fun hi G3 H3 f3 s3 hq => by
    have h := r1 G3 H3 f3 (s2.trans s3).gg
    have st := (s1.trans s2).trans s3
    split at hq
    · obtain ⟨a, vs, rfl, h1, h2⟩ := h.lst
      refine .inl ⟨a, vs, rfl, SqL.of h1, fun p hp => ?_⟩
      have g := f3.newG (o := .lst (cutV vs lo hi)) hp
      exact k _ _ _ _ (f3.step g) (st.trans g) (.lst upd_same (RL.mono g.gg _ _ (cut_rl lo hi h2))) hq
    · obtain ⟨a, vs, rfl, h1, h2⟩ := h.tup
      refine .inr (.inl ⟨a, vs, rfl, sqt_same f3.gh h1, fun e => ?_, fun e p hp => ?_⟩)
      · have q := cut_rl lo hi h2
        have e2 : cutV vs lo hi = vs := by
          unfold cutV
          rw [e.1, e.2]
          simp
        rw [e2] at q
        exact k _ _ G3 H3 f3 st (.tup h1 q) hq
      · have g := f3.newG (o := .tup (cutV vs lo hi)) hp
        exact k _ _ _ _ (f3.step g) (st.trans g) (.tup (SqT.of upd_same) (RL.mono g.gg _ _ (cut_rl lo hi h2))) hq
    · rw [h.str]
      exact .inr (.inr ⟨_, rfl, hq.1, k _ _ G3 H3 f3 st R.str_ hq.2⟩)
    · exact hq.elim⟩

/-! ### targets -/
abbrev WG := D → List Sl → (List Sl → Prop) → Prop
abbrev WGs := List D → List Sl → (List Sl → Prop) → Prop
/-- ss: the slots that are written -/
structure DG (X : Cx) (e : Expr) (g : TG) (w : WG) (ss : List Nat) : Prop where
  pg : PG X e g
  snd : ∀ (c : Ctx) (G H : Hp) (env : List Sl) (σ : L2.St) (v : V) (d : D) (Q : L2.St → Hp → Prop) (q : List Sl → Prop), Fr X.K c G H env σ → R X.K G d v → w d env q →
    (∀ env' σ' G' H', Fr X.K c G' H' env' σ' → Gr X.K c.da G H G' H' → (∀ vs, (∀ i ∈ ss, i ∈ vs) → wipe σ' vs = wipe σ vs) → q env' → Q σ' H') → g v σ H Q
structure DGs (X : Cx) (es : List Expr) (g : TGs) (w : WGs) (ss : List Nat) : Prop where
  pg : PGs X es g
  snd : ∀ (c : Ctx) (G H : Hp) (env : List Sl) (σ : L2.St) (vs : List V) (ds : List D) (Q : L2.St → Hp → Prop) (q : List Sl → Prop), Fr X.K c G H env σ → RL X.K G ds vs → w ds env q →
    (∀ env' σ' G' H', Fr X.K c G' H' env' σ' → Gr X.K c.da G H G' H' → (∀ vs, (∀ i ∈ ss, i ∈ vs) → wipe σ' vs = wipe σ vs) → q env' → Q σ' H') → g vs σ H Q
theorem wipe_set {σ : L2.St} {i : Nat} {o : Option V} : ∀ {vs : List Nat}, i ∈ vs → wipe (σ.set i o) vs = wipe σ vs
  | [], h => by cases h
  | v :: vs, h => by
    show (wipe (σ.set i o) vs).set v none = (wipe σ vs).set v none
    by_cases hi : i ∈ vs
    · rw [wipe_set hi]
    · have e : i = v := by
        rcases List.mem_cons.mp h with z | z
        · exact z
        · exact absurd z hi
      subst e
      have aux : ∀ (us : List Nat) (σ : L2.St), i ∉ us → wipe (σ.set i o) us = (wipe σ us).set i o := by
        intro us
        induction us with
        | nil => intro σ _; rfl
        | cons u us ih =>
          intro σ hu
          show (wipe (σ.set i o) us).set u none = ((wipe σ us).set u none).set i o
          rw [ih σ (fun z => hu (List.mem_cons_of_mem _ z)), List.set_comm _ _ (fun z => hu (by rw [z]; exact List.mem_cons_self))]
      rw [aux vs σ hi, List.set_set]
theorem dg_name {i : Nat} {x : Str} (hN : X.N.Nodup) (hi : X.N[i]? = some x) (hx : Loc X.env.scope x) (hf : X.fn x = true ∨ X.env.scope.names.lookup x = some .local := by first | exact .inl rfl | exact .inr rfl | assumption) :
    DG X (.Name x pos) (gName i) (fun d env q => q (env.set i (.d d))) [i] := ⟨pg_name hN hi hx hf, fun c G H env σ v d Q q f r hw k =>
  k _ _ G H (f.setD i r) (Gr.refl f) (fun vs h => wipe_set (h i List.mem_cons_self)) hw⟩
def wgNil : WGs := fun ds env q => match ds with | [] => q env | _ => False
def wgCons (w : WG) (ws : WGs) : WGs := fun ds env q => match ds with | d :: r => w d env fun env' => ws r env' q | _ => False
theorem dgs_nil : DGs X [] gNil wgNil [] := ⟨pgs_nil, fun c G H env σ vs ds Q q f r hw k => by
  unfold wgNil at hw
  split at hw
  · exact ⟨r.nilE, k env σ G H f (Gr.refl f) (fun _ _ => rfl) hw⟩
  · exact hw.elim⟩
theorem dgs_cons {g : TG} {gs : TGs} {w : WG} {ws : WGs} {s1 s2 : List Nat} (h1 : DG X e g w s1) (h2 : DGs X es gs ws s2) (hs : (assignEach (e :: es) X.env).map (·.2) = assign e X.env :: (assignEach es X.env).map (·.2) := by rfl) :
    DGs X (e :: es) (gCons g gs) (wgCons w ws) (s1 ++ s2) := ⟨pgs_cons h1.pg h2.pg hs, fun c G H env σ vs ds Q q f r hw k => by
  unfold wgCons at hw
  split at hw
  · obtain ⟨v, us, rfl, r1, r2⟩ := r.consE
    refine ⟨v, us, rfl, h1.snd c G H env σ v _ _ _ f r1 hw fun env' σ' G' H' f' st wp hq => ?_⟩
    exact h2.snd c G' H' env' σ' us _ Q q f' (RL.mono st.gg _ _ r2) hq fun env2 σ2 G2 H2 f2 st2 wp2 hq2 => k env2 σ2 G2 H2 f2 (st.trans st2) (fun vs h => (wp2 vs fun i hi => h i (List.mem_append_right _ hi)).trans (wp vs fun i hi => h i (List.mem_append_left _ hi))) hq2
  · exact hw.elim⟩
def wgTup (n : Nat) (ws : WGs) : WG := fun d env q => match d with | .tup ds => ds.length = n ∧ ws ds env q | _ => False
theorem dg_tup {k : Nat} {gs : TGs} {ws : WGs} {ss : List Nat} {n : Nat} (hc : X.calm = true) (h : DGs X es gs ws ss) (hn : (assignEach es X.env).length = n := by rfl) (hst : (assignEach es X.env).findIdx? (·.1) = none := by rfl) :
    DG X (.Tuple es k pos) (gTup X.K n gs) (wgTup n ws) ss := ⟨pg_tup hc h.pg hn hst, fun c G H env σ v d Q q f r hw k => by
  unfold wgTup at hw
  split at hw
  · obtain ⟨a, vs, rfl, h1, h2⟩ := r.tupE
    exact ⟨a, vs, rfl, sqt_same f.gh h1, by rw [h2.length]; exact hw.1, h.snd c G H env σ vs _ Q q f h2 hw.2 k⟩
  · exact hw.elim⟩

/-! ### what is walked -/
/-- the items ds, one by one, while P holds of the heaps -/
structure Wk (K : PySem.W.Frag) (da : Option Addr) (P : Hp → Hp → Prop) (J : It) (ds : List D) : Prop where
  go : ∀ G1 H1, P G1 H1 → ∀ i d, ds[i]? = some d → J.go i H1 ∧ ∀ x H2, J.yld i H1 x H2 → ∃ G2, Gr K da G1 H1 G2 H2 ∧ R K G2 d x
  stop : ∀ G1 H1, P G1 H1 → J.stop ds.length H1
/-- any state behind; the same frame behind -/
def PAny (K : PySem.W.Frag) (c : Ctx) (G : Hp) : Hp → Hp → Prop := fun G1 H1 => Same G G1 ∧ ∃ env1 σ1, Fr K c G1 H1 env1 σ1
def PFix (K : PySem.W.Frag) (c : Ctx) (G : Hp) (env : List Sl) (σ : L2.St) : Hp → Hp → Prop := fun G1 H1 => Same G G1 ∧ Fr K c G1 H1 env σ
structure DI (X : Cx) (tg iter : Expr) (wi : TI) (w : WA) : Prop where
  pi : PI X tg iter wi
  snd : ∀ (c : Ctx) (G H : Hp) (env : List Sl) (σ : L2.St) (Rr : It → Hp → Prop) (q : List D → Prop), Fr X.K c G H env σ → w env q →
    (∀ J ds G' H', Fr X.K c G' H' env σ → Gr X.K c.da G H G' H' → Wk X.K c.da (PAny X.K c G') J ds → q ds → Rr J H') → wi σ H Rr
structure DIB (X : Cx) (tg iter : Expr) (wi : TI) (w : WA) : Prop where
  pi : PI X tg iter wi
  snd : ∀ (c : Ctx) (G H : Hp) (env : List Sl) (σ : L2.St) (Rr : It → Hp → Prop) (q : List D → Prop), Fr X.K c G H env σ → w env q →
    (∀ J ds G' H', Fr X.K c G' H' env σ → Gr X.K c.da G H G' H' → Wk X.K c.da (PFix X.K c G' env σ) J ds → q ds → Rr J H') → wi σ H Rr
theorem Wk.imp {da : Option Addr} {P P' : Hp → Hp → Prop} {J : It} {ds : List D} (w : Wk K da P J ds) (h : ∀ G H, P' G H → P G H) : Wk K da P' J ds := ⟨fun G1 H1 p => w.go G1 H1 (h _ _ p), fun G1 H1 p => w.stop G1 H1 (h _ _ p)⟩
theorem DI.toB {wi : TI} (h : DI X tg iter wi wA) : DIB X tg iter wi wA := ⟨h.pi, fun c G H env σ Rr q f hw k => h.snd c G H env σ Rr q f hw fun J ds G' H' f' s wk hq => k J ds G' H' f' s (wk.imp fun _ _ ⟨a, b⟩ => ⟨a, env, σ, b⟩) hq⟩
/-- a list or a tuple as it is -/
def wSeq (w : WE) : WA := fun env q => w env fun d => match d with | .lst ds => q ds | .tup ds => q ds | _ => False
theorem wk_lst {c : Ctx} {P : Hp → Hp → Prop} {ds : List D} {a : Addr} (hP : ∀ G H, P G H → (∃ env σ, Fr K c G H env σ) ∧ ∃ vs, H a = some (.lst vs) ∧ RL K G ds vs) : Wk K c.da P (Itl K a) ds := by
  refine ⟨fun G1 H1 p i d hd => ?_, fun G1 H1 p => ?_⟩
  · obtain ⟨⟨env, σ, f⟩, vs, h1, h2⟩ := hP G1 H1 p
    obtain ⟨v, h3, h4⟩ := h2.get hd
    refine ⟨⟨vs, v, SqL.of h1, h3⟩, fun x H2 y => ?_⟩
    obtain ⟨rfl, y⟩ := y
    have := y vs (SqL.of h1)
    rw [h3] at this; cases this
    exact ⟨G1, Gr.refl f, h4⟩
  · obtain ⟨_, vs, h1, h2⟩ := hP G1 H1 p
    exact ⟨vs, SqL.of h1, by rw [h2.length]; exact Nat.le_refl _⟩
theorem wk_tup {c : Ctx} {P : Hp → Hp → Prop} {ds : List D} {a : Addr} (hP : ∀ G H, P G H → (∃ env σ, Fr K c G H env σ) ∧ ∃ vs, SqT K G a vs ∧ RL K G ds vs) : Wk K c.da P (Itt K a) ds := by
  refine ⟨fun G1 H1 p i d hd => ?_, fun G1 H1 p => ?_⟩
  · obtain ⟨⟨env, σ, f⟩, vs, h1, h2⟩ := hP G1 H1 p
    obtain ⟨v, h3, h4⟩ := h2.get hd
    have h1' := sqt_same f.gh h1
    refine ⟨⟨vs, v, h1', h3⟩, fun x H2 y => ?_⟩
    obtain ⟨rfl, y⟩ := y
    have := y vs h1'
    rw [h3] at this; cases this
    exact ⟨G1, Gr.refl f, h4⟩
  · obtain ⟨⟨env, σ, f⟩, vs, h1, h2⟩ := hP G1 H1 p
    exact ⟨vs, sqt_same f.gh h1, by rw [h2.length]; exact Nat.le_refl _⟩
def iSeq (K : PySem.W.Frag) (t : TE) : TI := fun σ H R => t σ H fun x H1 => ∃ a, x = .ref a ∧ (((∃ xs, SqL K H1 a xs) ∧ R (Itl K a) H1) ∨ ((∃ xs, SqT K H1 a xs) ∧ R (Itt K a) H1))
theorem pi_seq (hp : PE X iter t) : PI X tg iter (iSeq X.K t) := by
  refine ⟨fun pins s σ H R I h => ?_⟩
  refine thn (hp.run pins s σ H _ I h) fun v s1 ⟨x, H1, I1, r1, q1⟩ => ?_
  obtain ⟨a, e, q1⟩ := q1
  subst e
  cases r1
  rcases q1 with ⟨⟨xs, hq⟩, q⟩ | ⟨⟨xs, hq⟩, q⟩
  · obtain ⟨its, rv, p, hz⟩ := I1.list hq
    refine wpAny_pyIter_list p.isList ?_
    refine ⟨s1.heap.objs.size, [s1.heap.objs.size], _, _, H1, rfl, I1.kept (t' := s1.toks) fun b o e => Heap.get?_push_of_some _ e, turn_list a _, ⟨_, Heap.get?_push_size _ rfl, rfl, rfl⟩, fun b hb => ?_, q⟩
    have e : b = s1.heap.objs.size := by simpa using hb
    subst e
    exact I1.fpOk (Nat.le_refl _) (I1.hok.fresh (Nat.le_refl _))
  · obtain ⟨its, rv, p, hz⟩ := I1.tuple hq
    refine wpAny_pyIter_tuple (show s1.heap.IsTuple a its.toArray from p) ?_
    refine ⟨s1.heap.objs.size, [s1.heap.objs.size], _, _, H1, rfl, I1.kept (t' := s1.toks) fun b o e => Heap.get?_push_of_some _ e, turn_tuple a _, ⟨_, Heap.get?_push_size _ rfl, rfl, rfl⟩, fun b hb => ?_, q⟩
    have e : b = s1.heap.objs.size := by simpa using hb
    subst e
    exact I1.fpOk (Nat.le_refl _) (I1.hok.fresh (Nat.le_refl _))
theorem di_seq (h : DE X iter t w) : DI X tg iter (iSeq X.K t) (wSeq w) := ⟨pi_seq h.pe, fun c G H env σ Rr q f hw k => h.snd c G H env σ _ _ f hw fun v d G' H' f' s r hq => by
  split at hq
  · obtain ⟨a, vs, rfl, h1, h2⟩ := r.lstE
    refine ⟨a, rfl, .inl ⟨⟨vs, SqL.of (f'.gh _ _ h1)⟩, k _ _ G' H' f' s (wk_lst fun G1 H1 p => ?_) hq⟩⟩
    obtain ⟨s1, env1, σ1, f1⟩ := p
    exact ⟨⟨env1, σ1, f1⟩, vs, f1.gh _ _ (s1 _ _ h1), RL.mono s1 _ _ h2⟩
  · obtain ⟨a, vs, rfl, h1, h2⟩ := r.tupE
    refine ⟨a, rfl, .inr ⟨⟨vs, sqt_same f'.gh h1⟩, k _ _ G' H' f' s (wk_tup fun G1 H1 p => ?_) hq⟩⟩
    obtain ⟨s1, env1, σ1, f1⟩ := p
    exact ⟨⟨env1, σ1, f1⟩, vs, sqt_same s1 h1, RL.mono s1 _ _ h2⟩
  · exact hq.elim⟩
/-- .. be it a list of ours (within a comprehension) -/
theorem dib_seq (h : DB X iter t w) : DIB X tg iter (iSeq X.K t) (wSeq w) := ⟨pi_seq h.pe, fun c G H env σ Rr q f hw k => h.snd c G H env σ _ _ f hw fun v d G' H' f' s r hq => by
  have rh := r G' H' f' (Same.refl _)
  split at hq
  · obtain ⟨a, vs, rfl, h1, h2⟩ := rh.lst
    refine ⟨a, rfl, .inl ⟨⟨vs, SqL.of h1⟩, k _ _ G' H' f' s (wk_lst fun G1 H1 p => ?_) hq⟩⟩
    obtain ⟨s1, f1⟩ := p
    obtain ⟨a', us, e, g1, g2⟩ := (r G1 H1 f1 s1).lst
    cases e
    exact ⟨⟨env, σ, f1⟩, us, g1, g2⟩
  · obtain ⟨a, vs, rfl, h1, h2⟩ := rh.tup
    refine ⟨a, rfl, .inr ⟨⟨vs, sqt_same f'.gh h1⟩, k _ _ G' H' f' s (wk_tup fun G1 H1 p => ?_) hq⟩⟩
    obtain ⟨s1, f1⟩ := p
    exact ⟨⟨env, σ, f1⟩, vs, sqt_same s1 h1, RL.mono s1 _ _ h2⟩
  · exact hq.elim⟩
/-- lo, lo + 1, .. -/
def intsFrom (lo : Int) (n : Nat) : List D := (List.range n).map fun i => D.int (lo + (i : Nat))
theorem wk_range {c : Ctx} {P : Hp → Hp → Prop} {lo : Int} {n : Nat} (hP : ∀ G H, P G H → ∃ env σ, Fr K c G H env σ) : Wk K c.da P (Itr lo n) (intsFrom lo n) := by
  have hl : (intsFrom lo n).length = n := by unfold intsFrom; rw [List.length_map, List.length_range]
  refine ⟨fun G1 H1 p i d hd => ?_, fun G1 H1 p => by rw [hl]; exact Nat.le_refl _⟩
  have hi : i < n := by have := (List.getElem?_eq_some_iff.mp hd).1; rwa [hl] at this
  have e : d = .int (lo + (i : Nat)) := by
    unfold intsFrom at hd
    rw [List.getElem?_map, List.getElem?_range hi] at hd
    exact (Option.some.inj hd).symm
  subst e
  refine ⟨hi, fun x H2 y => ?_⟩
  obtain ⟨rfl, rfl⟩ := y
  obtain ⟨env, σ, f⟩ := hP G1 _ p
  exact ⟨G1, Gr.refl f, R.int_⟩
def wRange1 (wA : WA) : WA := fun env q => wA env fun ds => match ds with | [.int j] => (-(2 ^ 62) ≤ j ∧ j < 2 ^ 62) ∧ q (intsFrom 0 j.toNat) | _ => False
def wRange2 (wA : WA) : WA := fun env q => wA env fun ds => match ds with | [.int i, .int j] => (-(2 ^ 62) ≤ i ∧ i < 2 ^ 62 ∧ -(2 ^ 62) ≤ j ∧ j < 2 ^ 62) ∧ q (intsFrom i (j - i).toNat) | _ => False
theorem di_range1 {p : Pos} (hg : Gl X "range") (hm : X.mg "range" = none) (ha : DA X [a] tA wA) (hs : starEach [a] X.env = [(false, eval a X.env)] := by rfl) : DI X tg (.Call (.Name "range" p) [a] [] pos) (iRng1 tA) (wRange1 wA) := ⟨pi_range1 hg hm ha.pa hs, fun c G H env σ Rr q f hw k => ha.snd c G H env σ _ _ f hw fun vs ds G' H' f' s r hq => by
  split at hq
  · obtain ⟨v, us, rfl, r1, r2⟩ := r.consE
    rw [r2.nilE]
    exact ⟨_, by rw [show v = .int _ from r1], hq.1.1, hq.1.2, k _ _ G' H' f' s (wk_range fun _ _ p => p.2) hq.2⟩
  · exact hq.elim⟩
theorem di_range2 {p : Pos} (hg : Gl X "range") (hm : X.mg "range" = none) (ha : DA X [a, b] tA wA) (hs : starEach [a, b] X.env = [(false, eval a X.env), (false, eval b X.env)] := by rfl) (hs2 : starEach [b] X.env = [(false, eval b X.env)] := by rfl) : DI X tg (.Call (.Name "range" p) [a, b] [] pos) (iRng2 tA) (wRange2 wA) := ⟨pi_range2 hg hm ha.pa hs hs2, fun c G H env σ Rr q f hw k => ha.snd c G H env σ _ _ f hw fun vs ds G' H' f' s r hq => by
  split at hq
  · obtain ⟨v, us, rfl, r1, r2⟩ := r.consE
    obtain ⟨u, us2, rfl, r3, r4⟩ := r2.consE
    rw [r4.nilE]
    exact ⟨_, _, by rw [show v = .int _ from r1, show u = .int _ from r3], hq.1, k _ _ G' H' f' s (wk_range fun _ _ p => p.2) hq.2⟩
  · exact hq.elim⟩
/-- pairs -/
def zipD : List D → List D → List D
  | x :: xs, y :: ys => .tup [x, y] :: zipD xs ys
  | _, _ => []
theorem zipD_len : ∀ xs ys : List D, (zipD xs ys).length = min xs.length ys.length
  | [], _ => by simp [zipD]
  | _ :: _, [] => by simp [zipD]
  | x :: xs, y :: ys => by simp only [zipD, List.length_cons, zipD_len xs ys]; omega
theorem zipD_get : ∀ {xs ys : List D} {i : Nat} {d : D}, (zipD xs ys)[i]? = some d → ∃ x y, xs[i]? = some x ∧ ys[i]? = some y ∧ d = .tup [x, y]
  | [], _, _, _, h => by simp [zipD] at h
  | _ :: _, [], _, _, h => by simp [zipD] at h
  | x :: xs, y :: ys, 0, d, h => by simp [zipD] at h; exact ⟨x, y, rfl, rfl, h.symm⟩
  | x :: xs, y :: ys, i + 1, d, h => by
    simp only [zipD, List.getElem?_cons_succ] at h
    obtain ⟨a, b, h1, h2, h3⟩ := zipD_get h
    exact ⟨a, b, by simpa using h1, by simpa using h2, h3⟩
/-- a new pair is given -/
theorem gr_pair {c : Ctx} {G H : Hp} {env : List Sl} {σ : L2.St} (f : Fr K c G H env σ) {T : Addr} {u v : V} {x y : D} (hT : H T = none) (hx : R K G x u) (hy : R K G y v) : ∃ G2, Gr K c.da G H G2 (upd H T (.tup [u, v])) ∧ R K G2 (.tup [x, y]) (.ref T) := by
  have g := f.newG (o := .tup [u, v]) hT
  exact ⟨_, g, .tup (SqT.of upd_same) (.cons (hx.mono g.gg) (.one (hy.mono g.gg)))⟩
theorem one_of {xs : List V} {i : Nat} {u v : V} (h : xs[i]? = some u) (h' : xs[i]? = some v) : u = v := by rw [h] at h'; exact Option.some.inj h'
theorem wk_zipL {c : Ctx} {P : Hp → Hp → Prop} {ds es : List D} {a b : Addr} (hP : ∀ G H, P G H → (∃ env σ, Fr K c G H env σ) ∧ ∃ vs us, H a = some (.lst vs) ∧ RL K G ds vs ∧ H b = some (.lst us) ∧ RL K G es us) : Wk K c.da P (Itz K a b) (zipD ds es) := by
  refine ⟨fun G1 H1 p i d hd => ?_, fun G1 H1 p => ?_⟩
  · obtain ⟨⟨env, σ, f⟩, vs, us, h1, h2, h3, h4⟩ := hP G1 H1 p
    obtain ⟨x, y, e1, e2, rfl⟩ := zipD_get hd
    obtain ⟨v, g1, g2⟩ := h2.get e1
    obtain ⟨u, g3, g4⟩ := h4.get e2
    refine ⟨⟨vs, us, v, u, SqL.of h1, SqL.of h3, g1, g3⟩, fun x H2 yy => ?_⟩
    obtain ⟨T, v', u', rfl, hT, rfl, k1, k2⟩ := yy
    have e3 := one_of g1 (k1 _ (SqL.of h1))
    have e4 := one_of g3 (k2 _ (SqL.of h3))
    subst e3; subst e4
    exact gr_pair f hT g2 g4
  · obtain ⟨_, vs, us, h1, h2, h3, h4⟩ := hP G1 H1 p
    refine ⟨vs, us, SqL.of h1, SqL.of h3, ?_⟩
    rw [zipD_len, h2.length, h4.length]
    omega
theorem wk_zipT {c : Ctx} {P : Hp → Hp → Prop} {ds es : List D} {a b : Addr} (hP : ∀ G H, P G H → (∃ env σ, Fr K c G H env σ) ∧ ∃ vs us, SqT K G a vs ∧ RL K G ds vs ∧ SqT K G b us ∧ RL K G es us) : Wk K c.da P (RZ.ItzT K a b) (zipD ds es) := by
  refine ⟨fun G1 H1 p i d hd => ?_, fun G1 H1 p => ?_⟩
  · obtain ⟨⟨env, σ, f⟩, vs, us, h1, h2, h3, h4⟩ := hP G1 H1 p
    obtain ⟨x, y, e1, e2, rfl⟩ := zipD_get hd
    obtain ⟨v, g1, g2⟩ := h2.get e1
    obtain ⟨u, g3, g4⟩ := h4.get e2
    refine ⟨⟨vs, us, v, u, sqt_same f.gh h1, sqt_same f.gh h3, g1, g3⟩, fun x H2 yy => ?_⟩
    obtain ⟨T, v', u', rfl, hT, rfl, k1, k2⟩ := yy
    have e3 := one_of g1 (k1 _ (sqt_same f.gh h1))
    have e4 := one_of g3 (k2 _ (sqt_same f.gh h3))
    subst e3; subst e4
    exact gr_pair f hT g2 g4
  · obtain ⟨⟨env, σ, f⟩, vs, us, h1, h2, h3, h4⟩ := hP G1 H1 p
    refine ⟨vs, us, sqt_same f.gh h1, sqt_same f.gh h3, ?_⟩
    rw [zipD_len, h2.length, h4.length]
    omega
/-- zip of two lists or of two tuples -/
def wZip (wA : WA) : WA := fun env q => wA env fun ds => match ds with | [.lst xs, .lst ys] => q (zipD xs ys) | [.tup xs, .tup ys] => q (zipD xs ys) | _ => False
theorem di_zip {elts : List Expr} {kk : Nat} {p tpos : Pos} (hg : Gl X "zip") (hm : X.mg "zip" = none) (ha : DA X [a, b] tA wA) (hs : starEach [a, b] X.env = (false, eval a X.env) :: starEach [b] X.env := by rfl) (hpl : (backTo pos (starEach [b] X.env)).any (·.1) = false := by rfl) :
    DI X (.Tuple elts kk tpos) (.Call (.Name "zip" p) [a, b] [] pos) (RZ.iZipA X.K tA) (wZip wA) := ⟨RZ.pi_zipA hg hm ha.pa hs hpl, fun c G H env σ Rr q f hw k => ha.snd c G H env σ _ _ f hw fun vs ds G' H' f' s r hq => by
  split at hq
  · obtain ⟨v, us, rfl, r1, r2⟩ := r.consE
    obtain ⟨u, us2, rfl, r3, r4⟩ := r2.consE
    rw [r4.nilE]
    obtain ⟨a, vs, rfl, h1, h2⟩ := r1.lstE
    obtain ⟨b, us, rfl, h3, h4⟩ := r3.lstE
    refine ⟨a, b, vs, us, rfl, .inl ⟨SqL.of (f'.gh _ _ h1), SqL.of (f'.gh _ _ h3), k _ _ G' H' f' s (wk_zipL fun G1 H1 p => ?_) hq⟩⟩
    obtain ⟨s1, env1, σ1, f1⟩ := p
    exact ⟨⟨env1, σ1, f1⟩, vs, us, f1.gh _ _ (s1 _ _ h1), RL.mono s1 _ _ h2, f1.gh _ _ (s1 _ _ h3), RL.mono s1 _ _ h4⟩
  · obtain ⟨v, us, rfl, r1, r2⟩ := r.consE
    obtain ⟨u, us2, rfl, r3, r4⟩ := r2.consE
    rw [r4.nilE]
    obtain ⟨a, vs, rfl, h1, h2⟩ := r1.tupE
    obtain ⟨b, us, rfl, h3, h4⟩ := r3.tupE
    refine ⟨a, b, vs, us, rfl, .inr ⟨sqt_same f'.gh h1, sqt_same f'.gh h3, k _ _ G' H' f' s (wk_zipT fun G1 H1 p => ?_) hq⟩⟩
    obtain ⟨s1, env1, σ1, f1⟩ := p
    exact ⟨⟨env1, σ1, f1⟩, vs, us, sqt_same s1 h1, RL.mono s1 _ _ h2, sqt_same s1 h3, RL.mono s1 _ _ h4⟩
  · exact hq.elim⟩
end
end Y

namespace Y
open PySem L2
section
variable {X : Cx} {K : PySem.W.Frag} {e a b cnd tg iter elt : Expr} {es : List Expr} {t ta tb tc te : TE} {w wa wb wc we : WE} {tA : TA} {wA : WA} {tt tt' : TT} {wt wt' : WT} {pos : Pos}
/-! ### comprehensions -/
structure DTs (X : Cx) (ifs : List Expr) (t : TT) (w : WT) : Prop where
  pt : PTs X ifs t
  snd : SndT X.K t w
def wYes : WT := fun _ q => q true
theorem dts_nil : DTs X [] tYes wYes := ⟨pts_nil, fun c G H env σ Q q f hw k => k true G H f (Gr.refl f) hw⟩
theorem dts_one (h : DT X cnd tt wt) : DTs X [cnd] tt wt := ⟨pts_one h.pt, h.snd⟩
def wipeE (env : List Sl) : List Nat → List Sl
  | [] => env
  | v :: vs => (wipeE env vs).set v .no
theorem Fr.wipe {c : Ctx} {G H : Hp} {env : List Sl} {σ : L2.St} (f : Fr K c G H env σ) : ∀ vs : List Nat, Fr K c G H (wipeE env vs) (wipe σ vs)
  | [] => f
  | v :: vs => (Fr.wipe f vs).setNo v none
theorem wipe_wipe {σ : L2.St} {vs : List Nat} : ∀ us : List Nat, (∀ u ∈ us, u ∈ vs) → L2.wipe (L2.wipe σ us) vs = L2.wipe σ vs
  | [], _ => rfl
  | u :: us, hu => by
    show L2.wipe ((L2.wipe σ us).set u none) vs = L2.wipe σ vs
    rw [wipe_set (hu u List.mem_cons_self)]
    exact wipe_wipe us fun v hv => hu v (List.mem_cons_of_mem _ hv)
/-- I k acc holds behind k items, with the list acc made so far -/
def kLc' (wg : WG) (wt : WT) (we : WE) (vs : List Nat) (env : List Sl) (ql : List D → Prop) (ds : List D) : Prop := ∃ I : Nat → List D → Prop, I 0 [] ∧
  (∀ k d acc, ds[k]? = some d → I k acc → wg d (wipeE env vs) fun env2 => wt env2 fun b => match b with | true => we env2 fun z => acc.length < sizeLine ∧ I (k + 1) (acc ++ [z]) | false => I (k + 1) acc) ∧
  ∀ acc, I ds.length acc → ql acc
@[irreducible] def kLc (wg : WG) (wt : WT) (we : WE) (vs : List Nat) (env : List Sl) (ql : List D → Prop) (ds : List D) : Prop := kLc' wg wt we vs env ql ds
theorem kLc_i {wg : WG} {wt : WT} {we : WE} {vs : List Nat} {env : List Sl} {ql : List D → Prop} {ds : List D} (h : kLc' wg wt we vs env ql ds) : kLc wg wt we vs env ql ds := by unfold kLc; exact h
theorem kLc_e {wg : WG} {wt : WT} {we : WE} {vs : List Nat} {env : List Sl} {ql : List D → Prop} {ds : List D} (h : kLc wg wt we vs env ql ds) : kLc' wg wt we vs env ql ds := by unfold kLc at h; exact h
def wLc (wi : WA) (wg : WG) (wt : WT) (we : WE) (vs : List Nat) : WA := fun env q => wi env (kLc wg wt we vs env q)
theorem snd_lc {wi : TI} {wI : WA} {g : TG} {wg : WG} {ss : List Nat} {vs : List Nat}
    (hi : ∀ (c : Ctx) (G H : Hp) (env : List Sl) (σ : L2.St) (Rr : It → Hp → Prop) (q : List D → Prop), Fr K c G H env σ → wI env q → (∀ J ds G' H', Fr K c G' H' env σ → Gr K c.da G H G' H' → Wk K c.da (PFix K c G' env σ) J ds → q ds → Rr J H') → wi σ H Rr)
    (hg : ∀ (c : Ctx) (G H : Hp) (env : List Sl) (σ : L2.St) (v : V) (d : D) (Q : L2.St → Hp → Prop) (q : List Sl → Prop), Fr K c G H env σ → R K G d v → wg d env q → (∀ env' σ' G' H', Fr K c G' H' env' σ' → Gr K c.da G H G' H' → (∀ vs, (∀ i ∈ ss, i ∈ vs) → L2.wipe σ' vs = L2.wipe σ vs) → q env' → Q σ' H') → g v σ H Q)
    (ht : SndT K tt wt) (he : Snd K te we) (hs : ∀ i ∈ ss, i ∈ vs) : SndN K (tLc wi g tt te vs) (wLc wI wg wt we vs) := fun c G H env σ Q q f hw k => by
  refine hi c G H env σ _ _ f hw fun J ds G1 H1 f1 s1 wk hI => ?_
  obtain ⟨I, h0, hstep, hend⟩ := kLc_e hI
  intro D hD
  have nD : H D = none := s1.fresh hD
  have nDown : NoOwn env σ D := f1.noOwn hD
  have nD0 : c.H0 D = none := f1.h0none hD
  have nda : c.da ≠ some D := f1.own_ne nD0
  let Pv : Nat → Hp → Prop := fun k H' => ∃ G' acc us, Gr K c.da G1 H1 G' H' ∧ H' D = some (.lst us) ∧ RL K G' acc us ∧ G' D = none ∧ I k acc
  have start : Pv 0 (upd H1 D (.lst [])) := ⟨G1, [], [], f1.newH hD, upd_same, .nil, f1.gnone hD, h0⟩
  refine ⟨fun i m H' => m = ds.length - i ∧ i ≤ ds.length ∧ Pv i H', ⟨ds.length, by simp, Nat.zero_le _, start⟩, ?_⟩
  rintro i m H2 ⟨rfl, hi2, G2, acc, us, g2, eD, r2, gD, hI2⟩
  have f2 := f1.step g2
  by_cases hlt : i < ds.length
  · refine .inr ?_
    have hd : ds[i]? = some ds[i] := List.getElem?_eq_getElem hlt
    obtain ⟨go, yl⟩ := wk.go G2 H2 ⟨g2.gg, f2⟩ i _ hd
    refine ⟨go, Pv (i + 1), fun H' p' => ⟨ds.length - (i + 1), by omega, rfl, hlt, p'⟩, fun x H3 y => ?_⟩
    obtain ⟨G3, g3, rx⟩ := yl x H3 y
    have f3 := f2.step g3
    refine hg c G3 H3 (wipeE env vs) (L2.wipe σ vs) x _ _ _ (f3.wipe vs) rx (hstep i _ acc hd hI2) fun env4 σ4 G4 H4 f4 g4 wp hq4 => ⟨?_, ?_⟩
    · rw [wp vs hs]
      exact wipe_wipe vs fun _ h => h
    · refine ht c G4 H4 env4 σ4 _ _ f4 hq4 fun b G5 H5 f5 g5 hq5 => ?_
      have g35 := (g3.trans g4).trans g5
      have eD5 : H5 D = some (.lst us) := g35.hh _ _ eD nda
      have gD5 : G5 D = none := g35.old _ _ eD gD
      cases b with
      | true =>
        refine iteT (he c G5 H5 env4 σ4 _ _ f5 hq5 fun z d G6 H6 f6 g6 r6 hq6 => ?_)
        have g26 := g35.trans g6
        have eD6 : H6 D = some (.lst us) := g6.hh _ _ eD5 nda
        have gD6 : G6 D = none := g6.old _ _ eD5 gD5
        have ra := RL.mono g26.gg _ _ r2
        refine ⟨us, eD6, by rw [r2.length]; exact hq6.1, G6, acc ++ [d], us ++ [z], ?_, upd_same, ra.snoc r6, gD6, hq6.2⟩
        have gt := g2.trans g26
        refine ⟨gt.gg, fun b o hb => by rw [upd_ne (ne_of_none hb gD6)]; exact gt.gh b o hb, fun b o hb n => by rw [upd_ne (ne_of_none hb hD)]; exact gt.hh b o hb n, gt.old, fun b e => ?_⟩
        have nb : b ≠ D := fun z => nda (z ▸ e)
        exact (gt.dr b e).same (Same.refl _) (gt.dr b e).1 fun o q => by rw [upd_ne nb]; exact q
      | false => exact iteF ⟨G5, acc, us, g2.trans g35, eD5, RL.mono g35.gg _ _ r2, gD5, hq5⟩
  · have e : i = ds.length := by omega
    subst e
    exact .inl ⟨wk.stop G2 H2 ⟨g2.gg, f2⟩, k D us acc G2 H2 (f.step (s1.trans g2)) (s1.trans g2) eD r2 gD nD0 nD nDown (hend acc hI2)⟩
theorem dn_lc {ifs : List Expr} {scope : Scope} {own : List (Str × Nat)} {wi : TI} {wI : WA} {g : TG} {wg : WG} {ss : List Nat} (hc : X.calm = true) (hN : X.N.Nodup) (hi : DIB X tg iter wi wI) (ok : BlkOk X.N X.env.scope scope own)
    (hg : ∀ (s : Shared) (H : Hp) (C : Addr) (cl : List (Str × Addr)) (fp : List Addr), DG (X.blk s H scope (compEnvC scope cl C X.env) fp) tg g wg ss) (ht : ∀ (s : Shared) (H : Hp) (C : Addr) (cl : List (Str × Addr)) (fp : List Addr), DTs (X.blk s H scope (compEnvC scope cl C X.env) fp) ifs tt wt)
    (he : ∀ (s : Shared) (H : Hp) (C : Addr) (cl : List (Str × Addr)) (fp : List Addr), DE (X.blk s H scope (compEnvC scope cl C X.env) fp) elt te we) (hss : ∀ i ∈ ss, i ∈ own.map (·.2) := by decide) (hs : ∀ x, foldedSetIterable iter X.env x = pure x := by intro _; rfl) :
    DN X (.ListComp elt [⟨tg, iter, ifs, 0⟩] scope pos) (tLc wi g tt te (own.map (·.2))) (wLc wI wg wt we (own.map (·.2))) :=
  ⟨pe_lc hc hN hi.pi ok (fun s H C cl fp => (hg s H C cl fp).pg) (fun s H C cl fp => (ht s H C cl fp).pt) (fun s H C cl fp => (he s H C cl fp).pe) hs,
    snd_lc hi.snd (hg X.s_0 X.H_0 0 [] []).snd (ht X.s_0 X.H_0 0 [] []).snd (he X.s_0 X.H_0 0 [] []).snd hss⟩

/-! ### statements -/
structure DEnds where
  nx : List Sl → Prop
  rt : D → Prop
  bk : List Sl → Prop := fun _ => False
  ct : List Sl → Prop := fun _ => False
abbrev WS := List Sl → DEnds → Prop
structure Lift (K : PySem.W.Frag) (c : Ctx) (E : DEnds) (D : Ends) : Prop where
  nx : ∀ G H env σ, Fr K c G H env σ → E.nx env → D.nx σ H
  rt : ∀ v d G H env σ, Fr K c G H env σ → R K G d v → E.rt d → D.rt v H
  bk : ∀ G H env σ, Fr K c G H env σ → E.bk env → D.bk σ H
  ct : ∀ G H env σ, Fr K c G H env σ → E.ct env → D.ct σ H
def SndS (K : PySem.W.Frag) (t : TS) (w : WS) : Prop := ∀ (c : Ctx) (G H : Hp) (env : List Sl) (σ : L2.St) (D : Ends) (E : DEnds), Fr K c G H env σ → w env E → Lift K c E D → t D σ H
structure DS (X : Cx) (st : Stmt) (t : TS) (w : WS) : Prop where
  ps : PS X st t
  snd : SndS X.K t w
structure DSs (X : Cx) (st : List Stmt) (t : TS) (w : WS) : Prop where
  ps : PSs X st t
  snd : SndS X.K t w
variable {st : Stmt} {rest body : List Stmt} {tS uS : TS} {wS vS : WS}
def wNext : WS := fun env E => E.nx env
def wThen (w v : WS) : WS := fun env E => w env { E with nx := fun env' => v env' E }
theorem dss_nil : DSs X [] tNext wNext := ⟨pss_nil, fun c G H env σ D E f hw L => L.nx G H env σ f hw⟩
theorem dss_one (h : DS X st tS wS) : DSs X [st] tS wS := ⟨pss_one h.ps, h.snd⟩
theorem dss_cons (h1 : DS X st tS wS) (h2 : DSs X rest uS vS) : DSs X (st :: rest) (tSeq tS uS) (wThen wS vS) := ⟨pss_cons h1.ps h2.ps, fun c G H env σ D E f hw L =>
  h1.snd c G H env σ { D with nx := uS D } { E with nx := fun env' => vS env' E } f hw ⟨fun G' H' env' σ' f' hw' => h2.snd c G' H' env' σ' D E f' hw' L, L.rt, L.bk, L.ct⟩⟩
theorem ds_pass : DS X (.Pass pos) tNext wNext := ⟨ps_pass, fun c G H env σ D E f hw L => L.nx G H env σ f hw⟩
theorem ds_continue : DS X (.Continue pos) tCont (fun env E => E.ct env) := ⟨ps_continue, fun c G H env σ D E f hw L => L.ct G H env σ f hw⟩
theorem ds_break : DS X (.Break pos) tBreak (fun env E => E.bk env) := ⟨ps_break, fun c G H env σ D E f hw L => L.bk G H env σ f hw⟩
theorem ds_never : DS X st tNever (fun _ _ => False) := ⟨ps_never, fun _ _ _ _ _ _ _ _ hw _ => hw⟩
def wExpr (w : WE) : WS := fun env E => w env fun _ => E.nx env
theorem ds_expr (h : DE X e t w) (hs : swapsWith e none pos.line X.env = pure false := by rfl) : DS X (.Expr e pos) (tDrop t) (wExpr w) := ⟨ps_expr h.pe hs, fun c G H env σ D E f hw L => h.snd c G H env σ _ _ f hw fun v d G' H' f' s r hq => L.nx G' H' env σ f' hq⟩
def wRet (w : WE) : WS := fun env E => w env E.rt
theorem ds_ret (h : DE X e t w) : DS X (.Return (some e) pos) (tRet t) (wRet w) := ⟨ps_ret h.pe, fun c G H env σ D E f hw L => h.snd c G H env σ _ _ f hw fun v d G' H' f' s r hq => L.rt v d G' H' env σ f' r hq⟩
theorem ds_retN : DS X (.Return none pos) tRetN (fun _ E => E.rt .non) := ⟨ps_retN, fun c G H env σ D E f hw L => L.rt .non .non G H env σ f R.non_ hw⟩
/-- return x, x's list ours (or not) -/
def wRetO (i : Nat) : WS := fun env E => match env[i]? with | some (.ol ds) => E.rt (.lst ds) | some (.d d) => E.rt d | _ => False
theorem ds_retO (i : Nat) {x : Str} {p : Pos} (hN : X.N[i]? = some x := by rfl) (hv : Vis X.env.scope x := by first | exact Or.inl rfl | exact Or.inr (Or.inl rfl) | exact Or.inr (Or.inr rfl)) (hd : (x == ("__debug__" : Str)) = false := by decide)
    (hcd : (x == ("__classdict__" : Str)) = false := by decide) : DS X (.Return (some (.Name x p)) pos) (tRet (tVar i)) (wRetO i) := ⟨ps_ret (pe_var hN hv hd hcd), fun c G H env σ D E f hw L => by
  unfold wRetO at hw
  split at hw
  · rename_i ds e
    obtain ⟨a, vs, e1, h1, h2, sm, f'⟩ := f.freeze e
    exact ⟨.ref a, e1, L.rt _ _ _ H _ σ f' (.lst upd_same (RL.mono sm _ _ h2)) hw⟩
  · rename_i d e
    obtain ⟨v, e1, r⟩ := f.getD e
    exact ⟨v, e1, L.rt v d G H env σ f r hw⟩
  · exact hw.elim⟩
def wSet (i : Nat) (w : WE) : WS := fun env E => w env fun d => E.nx (env.set i (.d d))
def wSetN (i : Nat) (w : WA) : WS := fun env E => w env fun ds => E.nx (env.set i (.ol ds))
theorem Fr.setOl {c : Ctx} {G H : Hp} {env : List Sl} {σ : L2.St} (f : Fr K c G H env σ) (i : Nat) {a : Addr} {vs : List V} {ds : List D} (h1 : H a = some (.lst vs)) (h2 : RL K G ds vs) (h3 : G a = none) (h4 : c.H0 a = none) (no : NoOwn env σ a) : Fr K c G H (env.set i (.ol ds)) (σ.set i (some (.ref a))) :=
  f.set i ⟨a, vs, rfl, h1, h2, h3, h4⟩ fun b e => by cases e; exact no
theorem ds_set {i : Nat} {x : Str} {p : Pos} (hN : X.N.Nodup) (hi : X.N[i]? = some x) (hx : Loc X.env.scope x) (h : DE X e t w) (hs : swapsWith e (some (.Name x p)) pos.line X.env = pure false := by rfl) (hf : X.fn x = true ∨ X.env.scope.names.lookup x = some .local := by first | exact .inl rfl | exact .inr rfl | assumption) :
    DS X (.Assign [.Name x p] e pos) (tAsg t (gName i)) (wSet i w) := ⟨ps_set hN hi hx h.pe hs hf, fun c G H env σ D E f hw L => h.snd c G H env σ _ _ f hw fun v d G' H' f' s r hq => L.nx G' H' _ _ (f'.setD i r) hq⟩
theorem ds_setN {i : Nat} {x : Str} {p : Pos} (hN : X.N.Nodup) (hi : X.N[i]? = some x) (hx : Loc X.env.scope x) (h : DN X e t wA) (hs : swapsWith e (some (.Name x p)) pos.line X.env = pure false := by rfl) (hf : X.fn x = true ∨ X.env.scope.names.lookup x = some .local := by first | exact .inl rfl | exact .inr rfl | assumption) :
    DS X (.Assign [.Name x p] e pos) (tAsg t (gName i)) (wSetN i wA) := ⟨ps_set hN hi hx h.pe hs hf, fun c G H env σ D E f hw L => h.snd c G H env σ _ _ f hw fun a vs ds G' H' f' s h1 h2 h3 h4 _ no hq => L.nx G' H' _ _ (f'.setOl i h1 h2 h3 h4 no) hq⟩
/-- x = [.. for ..] on one line, x a local that the block does not have -/
theorem ps_lc {i : Nat} {y : Str} {py : Pos} {ifs : List Expr} {scope : Scope} {own : List (Str × Nat)} {spos : Pos} {wi : TI} {wI : WA} {g : TG} {wg : WG} {ss : List Nat} (hc : X.calm = true) (hN : X.N.Nodup) (hy : X.N[i]? = some y) (hyl : X.env.scope.names.lookup y = some .local)
    (hsw : swapsWith (.ListComp elt [⟨tg, iter, ifs, 0⟩] scope pos) (some (.Name y py)) spos.line X.env = pure true) (hi : DIB X tg iter wi wI) (ok : BlkOk X.N X.env.scope scope own)
    (hg : ∀ (s : Shared) (H : Hp) (C : Addr) (cl : List (Str × Addr)) (fp : List Addr), DG (X.blk s H scope (compEnvC scope cl C X.env) fp) tg g wg ss) (ht : ∀ (s : Shared) (H : Hp) (C : Addr) (cl : List (Str × Addr)) (fp : List Addr), DTs (X.blk s H scope (compEnvC scope cl C X.env) fp) ifs tt wt)
    (he : ∀ (s : Shared) (H : Hp) (C : Addr) (cl : List (Str × Addr)) (fp : List Addr), DE (X.blk s H scope (compEnvC scope cl C X.env) fp) elt te we) (hss : ∀ i ∈ ss, i ∈ own.map (·.2)) (hs : ∀ x, foldedSetIterable iter X.env x = pure x) :
    PS X (.Assign [.Name y py] (.ListComp elt [⟨tg, iter, ifs, 0⟩] scope pos) spos) (tAsg (tLc wi g tt te (own.map (·.2))) (gName i)) ∧ SndN X.K (tLc wi g tt te (own.map (·.2))) (wLc wI wg wt we (own.map (·.2))) :=
  ⟨ps_setLc hc hN hy hyl hsw hi.pi ok (fun s H C cl fp => (hg s H C cl fp).pg) (fun s H C cl fp => (ht s H C cl fp).pt) (fun s H C cl fp => (he s H C cl fp).pe) hs,
    snd_lc hi.snd (hg X.s_0 X.H_0 0 [] []).snd (ht X.s_0 X.H_0 0 [] []).snd (he X.s_0 X.H_0 0 [] []).snd hss⟩
theorem ds_lcN {i : Nat} {y : Str} {py : Pos} {ifs : List Expr} {scope : Scope} {own : List (Str × Nat)} {spos : Pos} {wi : TI} {wI : WA} {g : TG} {wg : WG} {ss : List Nat} (hc : X.calm = true) (hN : X.N.Nodup) (hy : X.N[i]? = some y) (hyl : X.env.scope.names.lookup y = some .local)
    (hsw : swapsWith (.ListComp elt [⟨tg, iter, ifs, 0⟩] scope pos) (some (.Name y py)) spos.line X.env = pure true) (hi : DIB X tg iter wi wI) (ok : BlkOk X.N X.env.scope scope own)
    (hg : ∀ (s : Shared) (H : Hp) (C : Addr) (cl : List (Str × Addr)) (fp : List Addr), DG (X.blk s H scope (compEnvC scope cl C X.env) fp) tg g wg ss) (ht : ∀ (s : Shared) (H : Hp) (C : Addr) (cl : List (Str × Addr)) (fp : List Addr), DTs (X.blk s H scope (compEnvC scope cl C X.env) fp) ifs tt wt)
    (he : ∀ (s : Shared) (H : Hp) (C : Addr) (cl : List (Str × Addr)) (fp : List Addr), DE (X.blk s H scope (compEnvC scope cl C X.env) fp) elt te we) (hss : ∀ i ∈ ss, i ∈ own.map (·.2) := by decide) (hs : ∀ x, foldedSetIterable iter X.env x = pure x := by intro _; rfl) :
    DS X (.Assign [.Name y py] (.ListComp elt [⟨tg, iter, ifs, 0⟩] scope pos) spos) (tAsg (tLc wi g tt te (own.map (·.2))) (gName i)) (wSetN i (wLc wI wg wt we (own.map (·.2)))) :=
  have z := ps_lc hc hN hy hyl hsw hi ok hg ht he hss hs
  ⟨z.1, fun c G H env σ D E f hw L => z.2 c G H env σ _ _ f hw fun a vs ds G' H' f' s h1 h2 h3 h4 _ no hq => L.nx G' H' _ _ (f'.setOl i h1 h2 h3 h4 no) hq⟩
theorem ds_lc {i : Nat} {y : Str} {py : Pos} {ifs : List Expr} {scope : Scope} {own : List (Str × Nat)} {spos : Pos} {wi : TI} {wI : WA} {g : TG} {wg : WG} {ss : List Nat} (hc : X.calm = true) (hN : X.N.Nodup) (hy : X.N[i]? = some y) (hyl : X.env.scope.names.lookup y = some .local)
    (hsw : swapsWith (.ListComp elt [⟨tg, iter, ifs, 0⟩] scope pos) (some (.Name y py)) spos.line X.env = pure true) (hi : DIB X tg iter wi wI) (ok : BlkOk X.N X.env.scope scope own)
    (hg : ∀ (s : Shared) (H : Hp) (C : Addr) (cl : List (Str × Addr)) (fp : List Addr), DG (X.blk s H scope (compEnvC scope cl C X.env) fp) tg g wg ss) (ht : ∀ (s : Shared) (H : Hp) (C : Addr) (cl : List (Str × Addr)) (fp : List Addr), DTs (X.blk s H scope (compEnvC scope cl C X.env) fp) ifs tt wt)
    (he : ∀ (s : Shared) (H : Hp) (C : Addr) (cl : List (Str × Addr)) (fp : List Addr), DE (X.blk s H scope (compEnvC scope cl C X.env) fp) elt te we) (hss : ∀ i ∈ ss, i ∈ own.map (·.2) := by decide) (hs : ∀ x, foldedSetIterable iter X.env x = pure x := by intro _; rfl) :
    DS X (.Assign [.Name y py] (.ListComp elt [⟨tg, iter, ifs, 0⟩] scope pos) spos) (tAsg (tLc wi g tt te (own.map (·.2))) (gName i)) (wSet i (wN (wLc wI wg wt we (own.map (·.2))))) :=
  have z := ps_lc hc hN hy hyl hsw hi ok hg ht he hss hs
  ⟨z.1, fun c G H env σ D E f hw L => z.2 c G H env σ _ _ f hw fun a vs ds G' H' f' s h1 h2 h3 h4 na no hq => by
    have f2 := f'.setOl i h1 h2 h3 h4 no
    by_cases hi : i < env.length
    · obtain ⟨a', vs', e1, e2, e3, sm, f3⟩ := f2.freeze (i := i) (ds := ds) (by rw [List.getElem?_set_self hi])
      rw [List.set_set] at f3
      exact L.nx _ H' _ _ f3 hq
    · have e1 : ∀ s : Sl, env.set i s = env := fun s => List.set_eq_of_length_le (by omega)
      rw [e1] at f2
      have hq' : E.nx (env.set i (.d (.lst ds))) := hq
      rw [e1] at hq'
      exact L.nx G' H' _ _ f2 hq'⟩
theorem ds_asg {g : TG} {wg : WG} {ss : List Nat} (h : DE X e t w) (hg : DG X tg g wg ss) (hs : swapsWithSole [tg] e pos.line X.env = pure false := by rfl) (hw : swappedStores [tg] e X.env = pure none := by rfl) (h1 : (assignEach [tg] X.env).map (·.2) = [assign tg X.env] := by rfl) :
    DS X (.Assign [tg] e pos) (tAsg t g) (fun env E => w env fun d => wg d env E.nx) := ⟨ps_asg h.pe hg.pg hs hw h1, fun c G H env σ D E f hw L => h.snd c G H env σ _ _ f hw fun v d G' H' f' s r hq => hg.snd c G' H' env σ v d _ _ f' r hq fun env2 σ2 G2 H2 f2 s2 _ hq2 => L.nx G2 H2 env2 σ2 f2 hq2⟩
def wPar (i j : Nat) (wA : WA) : WS := fun env E => wA env fun ds => match ds with | [d, e] => E.nx ((env.set i (.d d)).set j (.d e)) | _ => False
theorem ds_par {i j : Nat} {x y : Str} {px py pt : Pos} {kt k2 pt2} (hc : X.calm = true) (hN : X.N.Nodup) (hi : X.N[i]? = some x) (hj : X.N[j]? = some y) (hij : i ≠ j)
    (hx : X.env.scope.names.lookup x = some .local) (hy : X.env.scope.names.lookup y = some .local) (ha : DA X [a, b] tA wA)
    (hw : swappedStores [.Tuple [.Name x px, .Name y py] kt pt] (.Tuple [a, b] k2 pt2) X.env = pure (some [x, y]))
    (hs : swapsWithSole [.Tuple [.Name x px, .Name y py] kt pt] (.Tuple [a, b] k2 pt2) pos.line X.env = pure false := by rfl) :
    DS X (.Assign [.Tuple [.Name x px, .Name y py] kt pt] (.Tuple [a, b] k2 pt2) pos) (tPar i j tA) (wPar i j wA) := ⟨ps_par hc hN hi hj hij hx hy ha.pa hw hs, fun c G H env σ D E f hw L => ha.snd c G H env σ _ _ f hw fun vs ds G' H' f' s r hq => by
  split at hq
  · obtain ⟨v, us, rfl, r1, r2⟩ := r.consE
    obtain ⟨u, us2, rfl, r3, r4⟩ := r2.consE
    rw [r4.nilE]
    exact ⟨v, u, rfl, L.nx G' H' _ _ ((f'.setD i r1).setD j r3) hq⟩
  · exact hq.elim⟩
def wIf (wt : WT) (w v : WS) : WS := fun env E => wt env fun b => match b with | true => w env E | false => v env E
theorem ds_if {A B : List Stmt} (hc : DT X cnd tt wt) (ha : DSs X A tS wS) (hb : DSs X B uS vS) : DS X (.If cnd A B pos) (tIfS tt tS uS) (wIf wt wS vS) := ⟨ps_if hc.pt ha.ps hb.ps, fun c G H env σ D E f hw L => hc.snd c G H env σ _ _ f hw fun b G' H' f' s hq => by
  cases b with
  | true => exact iteT (ha.snd c G' H' env σ D E f' hq L)
  | false => exact iteF (hb.snd c G' H' env σ D E f' hq L)⟩
/-- I i holds ahead of the item number i -/
def kFor' (wg : WG) (wb : WS) (env : List Sl) (E : DEnds) (ds : List D) : Prop := ∃ I : Nat → List Sl → Prop, I 0 env ∧
  (∀ i d env', ds[i]? = some d → I i env' → wg d env' fun env2 => wb env2 { nx := I (i + 1), rt := E.rt, bk := E.nx, ct := I (i + 1) }) ∧ ∀ env', I ds.length env' → E.nx env'
@[irreducible] def kFor (wg : WG) (wb : WS) (env : List Sl) (E : DEnds) (ds : List D) : Prop := kFor' wg wb env E ds
theorem kFor_i {wg : WG} {wb : WS} {env : List Sl} {E : DEnds} {ds : List D} (h : kFor' wg wb env E ds) : kFor wg wb env E ds := by unfold kFor; exact h
theorem kFor_e {wg : WG} {wb : WS} {env : List Sl} {E : DEnds} {ds : List D} (h : kFor wg wb env E ds) : kFor' wg wb env E ds := by unfold kFor at h; exact h
def wFor (wI : WA) (wg : WG) (wb : WS) : WS := fun env E => wI env (kFor wg wb env E)
theorem ds_for {wi : TI} {wI : WA} {g : TG} {wg : WG} {ss : List Nat} (hp : PassesOwn (model X.prog X.w) X.A X.env X.xe) (hc : X.calm = true) (hi : DI X tg iter wi wI) (hg : DG X tg g wg ss) (hb : DSs X body tS wS) (hs : ∀ x, foldedSetIterable iter X.env x = pure x := by intro _; rfl) :
    DS X (.For tg iter body [] pos) (tFor wi g tS) (wFor wI wg wS) := ⟨ps_for hp hc hi.pi hg.pg hb.ps hs, fun c G H env σ D E f hw L => hi.snd c G H env σ _ _ f hw fun J ds G1 H1 f1 s1 wk hI => by
  obtain ⟨I, h0, hstep, hend⟩ := kFor_e hI
  refine ⟨fun i m σ' H' => m = ds.length - i ∧ i ≤ ds.length ∧ ∃ G' env', Fr X.K c G' H' env' σ' ∧ Same G1 G' ∧ I i env', ⟨ds.length, by simp, Nat.zero_le _, G1, env, f1, Same.refl _, h0⟩, ?_⟩
  rintro i m σ2 H2 ⟨rfl, hi2, G2, env2, f2, s2, hI2⟩
  by_cases hlt : i < ds.length
  · refine .inr ?_
    have hd : ds[i]? = some ds[i] := List.getElem?_eq_getElem hlt
    obtain ⟨go, yl⟩ := wk.go G2 H2 ⟨s2, env2, σ2, f2⟩ i _ hd
    refine ⟨go, fun σ' H' => ∃ G' env', Fr X.K c G' H' env' σ' ∧ Same G1 G' ∧ I (i + 1) env', fun σ' H' p' => ⟨ds.length - (i + 1), by omega, rfl, hlt, p'⟩, fun x H3 y => ?_⟩
    obtain ⟨G3, g3, rx⟩ := yl x H3 y
    have f3 := f2.step g3
    refine hg.snd c G3 H3 env2 σ2 x _ _ _ f3 rx (hstep i _ env2 hd hI2) fun env4 σ4 G4 H4 f4 g4 _ hq4 => ?_
    have s4 : Same G1 G4 := s2.trans (g3.gg.trans g4.gg)
    exact hb.snd { c with G0 := G4 } G4 H4 env4 σ4 _ _ f4.rebase hq4
      ⟨fun G' H' env' σ' f' hI' => ⟨G', env', f4.unbase f', s4.trans f'.gg, hI'⟩, fun v d G' H' env' σ' f' r hr => L.rt v d G' H' env' σ' (f4.unbase f') r hr,
        fun G' H' env' σ' f' hn => L.nx G' H' env' σ' (f4.unbase f') hn, fun G' H' env' σ' f' hI' => ⟨G', env', f4.unbase f', s4.trans f'.gg, hI'⟩⟩
  · have e : i = ds.length := by omega
    subst e
    exact .inl ⟨wk.stop G2 H2 ⟨s2, env2, σ2, f2⟩, L.nx G2 H2 env2 σ2 f2 (hend env2 hI2)⟩⟩
/-- .. over a list of ours, which is frozen with that -/
def wForO (n : Nat) (wg : WG) (wb : WS) : WS := fun env E => match env[n]? with | some (.ol ds) => kFor wg wb (env.set n (.d (.lst ds))) E ds | some (.d (.lst ds)) => kFor wg wb env E ds | _ => False
theorem ds_forO (n : Nat) {x : Str} {p : Pos} {g : TG} {wg : WG} {ss : List Nat} (hp : PassesOwn (model X.prog X.w) X.A X.env X.xe) (hc : X.calm = true) (hN : X.N[n]? = some x) (hv : Vis X.env.scope x) (hd : (x == ("__debug__" : Str)) = false) (hcd : (x == ("__classdict__" : Str)) = false)
    (hg : DG X tg g wg ss) (hb : DSs X body tS wS) (hs : ∀ y, foldedSetIterable (.Name x p) X.env y = pure y := by intro _; rfl) : DS X (.For tg (.Name x p) body [] pos) (tFor (iSeq X.K (tVar n)) g tS) (wForO n wg wS) :=
  have base := ds_for (iter := .Name x p) (wI := wSeq (wVar n)) hp hc (di_seq (de_var n hN hv hd hcd)) hg hb hs
  ⟨base.ps, fun c G H env σ D E f hw L => by
    unfold wForO at hw
    split at hw
    · rename_i ds he
      obtain ⟨a, vs, e1, h1, h2, sm, f'⟩ := f.freeze he
      refine base.snd c _ H _ σ D E f' ?_ L
      show wVar n (env.set n (.d (.lst ds))) _
      unfold wVar
      rw [List.getElem?_set_self (List.getElem?_eq_some_iff.mp he).1]
      exact hw
    · rename_i ds he
      refine base.snd c G H env σ D E f ?_ L
      show wVar n env _
      unfold wVar
      rw [he]
      exact hw
    · exact hw.elim⟩
def kWhile' (wc : WT) (wb : WS) (env : List Sl) (E : DEnds) : Prop := ∃ (I : List Sl → Prop) (μ : List Sl → Nat), I env ∧
  ∀ env', I env' → wc env' fun b => match b with | true => wb env' { nx := fun e => I e ∧ μ e < μ env', rt := E.rt, bk := E.nx, ct := fun e => I e ∧ μ e < μ env' } | false => E.nx env'
@[irreducible] def wWhile (wc : WT) (wb : WS) : WS := fun env E => kWhile' wc wb env E
theorem while_i {wc : WT} {wb : WS} {env : List Sl} {E : DEnds} (h : kWhile' wc wb env E) : wWhile wc wb env E := by unfold wWhile; exact h
theorem while_e {wc : WT} {wb : WS} {env : List Sl} {E : DEnds} (h : wWhile wc wb env E) : kWhile' wc wb env E := by unfold wWhile at h; exact h
theorem ds_while (hp : PassesOwn (model X.prog X.w) X.A X.env X.xe) (hc : DT X cnd tt wt) (hb : DSs X body tS wS) : DS X (.While cnd body [] pos) (tWhile tt tS) (wWhile wt wS) := ⟨ps_while hp hc.pt hb.ps, fun c G H env σ D E f hw L => by
  obtain ⟨I, μ, h0, step⟩ := while_e hw
  refine ⟨fun m σ' H' => ∃ G' env', Fr X.K c G' H' env' σ' ∧ I env' ∧ μ env' = m, ⟨_, G, env, f, h0, rfl⟩, ?_⟩
  rintro m σ2 H2 ⟨G2, env2, f2, hI2, rfl⟩
  refine hc.snd c G2 H2 env2 σ2 _ _ f2 (step env2 hI2) fun b G3 H3 f3 g3 hq => ?_
  cases b with
  | true =>
    refine iteT ⟨fun σ' H' => ∃ m', m' < μ env2 ∧ ∃ G' env', Fr X.K c G' H' env' σ' ∧ I env' ∧ μ env' = m', fun σ' H' h => h, ?_⟩
    exact hb.snd c G3 H3 env2 σ2 _ _ f3 hq ⟨fun G' H' env' σ' f' h => ⟨μ env', h.2, G', env', f', h.1, rfl⟩, L.rt, fun G' H' env' σ' f' h => L.nx G' H' env' σ' f' h, fun G' H' env' σ' f' h => ⟨μ env', h.2, G', env', f', h.1, rfl⟩⟩
  | false => exact iteF (L.nx G3 H3 env2 σ2 f3 hq)⟩
/-! ### lists of ours are written -/
def wApp (i : Nat) (w : WE) : WS := fun env E => match env[i]? with | some (.ol ds) => w env fun d => ds.length < sizeLine ∧ E.nx (env.set i (.ol (ds ++ [d]))) | _ => False
theorem ds_append (i : Nat) {x : Str} {p apos cpos : Pos} (hv : PE X (.Name x p) (tVar i)) (ha : DE X e t w) (hs : swapsWith (.Call (.Attribute (.Name x p) "append" apos) [e] [] cpos) none pos.line X.env = pure false := by rfl)
    (hbase : attributeBase (.Name x p) "append" X.env (eval (.Name x p) X.env) = eval (.Name x p) X.env := by rfl)
    (hfew : ((backTo cpos (starEach [e] X.env)).all (fun x => !x.1) && (backToKw cpos (keywordEach [] X.env)).all (fun x => x.1.isSome)
      && decide ([e].length + ([] : List Keyword).length + (if ([] : List Keyword).isEmpty then 0 else 1) < 30)) = true := by rfl)
    (hline : (apos.endLine == cpos.line) = true := by rfl) (hse : starEach [e] X.env = (false, eval e X.env) :: starEach [] X.env := by rfl) (hplain : (backTo cpos (starEach [] X.env)).any (·.1) = false := by rfl) :
    DS X (.Expr (.Call (.Attribute (.Name x p) "append" apos) [e] [] cpos) pos) (tDrop (tBM X.K "list" rAppend (tVar i) (tCons t tNil))) (wApp i w) :=
  ⟨ps_expr (pe_bm PySem.F.plainAttrs_list PySem.F.slot_list_append PySem.F.type_list_append mt_append hv (pa_cons ha.pe pa_nil hse) hbase hfew hline hse hplain) hs, fun c G H env σ D E f hw L => by
    unfold wApp at hw
    split at hw
    · rename_i ds e1
      obtain ⟨a, vs, ea, h1, h2, h3, h4⟩ := f.getO e1
      refine ⟨.ref a, ea, .inl ⟨rfl, _, SqL.of h1⟩, ?_⟩
      refine ha.snd c G H env σ _ _ f hw fun v d G' H' f' g' r hq => ?_
      have h1' : H' a = some (.lst vs) := g'.hh _ _ h1 (f.own_ne h4)
      have h2' := RL.mono g'.gg _ _ h2
      exact ⟨a, vs, v, rfl, rfl, h1', by rw [h2.length]; exact hq.1, L.nx G' _ _ σ (f'.write e1 ea (h2'.snoc r)) hq.2⟩
    · exact hw.elim⟩
/-- x.extend(e), e a list -/
def wExt (i : Nat) (w : WE) : WS := fun env E => match env[i]? with | some (.ol ds) => w env fun d => (match d with | .lst es => ds.length + es.length ≤ sizeLine ∧ E.nx (env.set i (.ol (ds ++ es))) | _ => False) | _ => False
theorem ds_extend (i : Nat) {x : Str} {p apos cpos : Pos} (hv : PE X (.Name x p) (tVar i)) (ha : DE X e t w) (hs : swapsWith (.Call (.Attribute (.Name x p) "extend" apos) [e] [] cpos) none pos.line X.env = pure false := by rfl)
    (hbase : attributeBase (.Name x p) "extend" X.env (eval (.Name x p) X.env) = eval (.Name x p) X.env := by rfl)
    (hfew : ((backTo cpos (starEach [e] X.env)).all (fun x => !x.1) && (backToKw cpos (keywordEach [] X.env)).all (fun x => x.1.isSome)
      && decide ([e].length + ([] : List Keyword).length + (if ([] : List Keyword).isEmpty then 0 else 1) < 30)) = true := by rfl)
    (hline : (apos.endLine == cpos.line) = true := by rfl) (hse : starEach [e] X.env = (false, eval e X.env) :: starEach [] X.env := by rfl) (hplain : (backTo cpos (starEach [] X.env)).any (·.1) = false := by rfl) :
    DS X (.Expr (.Call (.Attribute (.Name x p) "extend" apos) [e] [] cpos) pos) (tDrop (tBM X.K "list" rExtend (tVar i) (tCons t tNil))) (wExt i w) :=
  ⟨ps_expr (pe_bm PySem.F.plainAttrs_list PySem.F.slot_list_extend PySem.F.type_list_extend mt_extend hv (pa_cons ha.pe pa_nil hse) hbase hfew hline hse hplain) hs, fun c G H env σ D E f hw L => by
    unfold wExt at hw
    split at hw
    · rename_i ds e1
      obtain ⟨a, vs, ea, h1, h2, h3, h4⟩ := f.getO e1
      refine ⟨.ref a, ea, .inl ⟨rfl, _, SqL.of h1⟩, ?_⟩
      refine ha.snd c G H env σ _ _ f hw fun v d G' H' f' g' r hq => ?_
      have h1' : H' a = some (.lst vs) := g'.hh _ _ h1 (f.own_ne h4)
      have h2' := RL.mono g'.gg _ _ h2
      split at hq
      · obtain ⟨b, us, rfl, e2, e3⟩ := r.lstE
        exact ⟨a, b, vs, us, rfl, rfl, h1', f'.gh _ _ e2, by rw [h2.length, e3.length]; exact hq.1, L.nx G' _ _ σ (f'.write e1 ea (h2'.append e3)) hq.2⟩
      · exact hq.elim
    · exact hw.elim⟩
/-- x[j] = e, x's list ours -/
def wIxSet (i : Nat) (wj w : WE) : WS := fun env E => match env[i]? with | some (.ol ds) => w env fun d => wj env fun k => (match k with | .int j => (match ixN ds.length j with | some n => E.nx (env.set i (.ol (ds.set n d))) | none => False) | _ => False) | _ => False
theorem RL.setI {H : Hp} {ds : List D} {vs : List V} {d : D} {v : V} (h : RL K H ds vs) (r : R K H d v) (n : Nat) : RL K H (ds.set n d) (vs.set n v) := RL.set r n h
theorem ds_ixset (i : Nat) {x : Str} {p : Pos} {ix : Expr} {tix : TE} {wix : WE} {spos : Pos} (hv : PE X (.Name x p) (tVar i)) (hj : DE X ix tix wix) (ha : DE X e t w)
    (hsub : ∀ v, assign (.Subscript (.Name x p) ix spos) X.env v = (do
      let ov ← holding [v] (eval (.Name x p) X.env)
      let iv ← holding [v, ov] (eval ix X.env)
      standAt spos
      holding [v, ov, iv] (setItem ov iv v)
      release [v, ov, iv] []) := by intro _; rfl)
    (hs : swapsWithSole [.Subscript (.Name x p) ix spos] e pos.line X.env = pure false := by rfl) (hw : swappedStores [.Subscript (.Name x p) ix spos] e X.env = pure none := by rfl) (h1 : (assignEach [.Subscript (.Name x p) ix spos] X.env).map (·.2) = [assign (.Subscript (.Name x p) ix spos) X.env] := by rfl) :
    DS X (.Assign [.Subscript (.Name x p) ix spos] e pos) (tAsg t (gSub (tVar i) tix rSetL)) (wIxSet i wix w) := ⟨ps_asg ha.pe (pg_sub hv hj.pe set_list hsub) hs hw h1, fun c G H env σ D E f hw L => by
    unfold wIxSet at hw
    split at hw
    · rename_i ds e1
      obtain ⟨a, vs, ea, h1, h2, h3, h4⟩ := f.getO e1
      refine ha.snd c G H env σ _ _ f hw fun v d G' H' f' g' r hq => ⟨.ref a, ea, ?_⟩
      refine hj.snd c G' H' env σ _ _ f' hq fun k dk G2 H2 f2 g2 rk hq2 => ?_
      have g := g'.trans g2
      have h1' : H2 a = some (.lst vs) := g.hh _ _ h1 (f.own_ne h4)
      have h2' := RL.mono g.gg _ _ h2
      split at hq2
      · rename_i j
        split at hq2
        · rename_i n hn
          refine ⟨a, vs, j, n, rfl, rk, h1', by rw [h2.length]; exact hn, L.nx G2 _ _ σ (f2.write e1 ea (h2'.setI (r.mono g2.gg) n)) hq2⟩
        · exact hq2.elim
      · exact hq2.elim
    · exact hw.elim⟩
/-- x += e of ints (texts) -/
def wAug (i : Nat) (wo : WO) (w : WE) : WS := fun env E => match env[i]? with | some (.d d) => w env fun z => wo d z fun r => E.nx (env.set i (.d r)) | _ => False
def wAddI : WO := fun d e q => match d, e with | .int i, .int j => q (.int (i + j)) | .str s, .str t => s.length + t.length ≤ sizeLine ∧ q (.str (s ++ t)) | _, _ => False
def rIAdd : R2 := fun x y H Q => (rI0 (fun i j => .int (i + j))) x y H Q ∨ (fun x y (H : Hp) (Q : VK) => ∃ i j, x = .str i ∧ y = .str j ∧ i.length + j.length ≤ sizeLine ∧ Q (.str (i ++ j)) H) x y H Q
theorem ip_addU : PIp X .Add rIAdd := (iop_add.or iop_add_str : OpR X (inplaceOp .Add) _)
theorem so_addI : SndO K rIAdd wAddI := fun c G H env σ x y d e Q q f hx hy hw k => by
  unfold wAddI at hw
  split at hw
  · exact .inl ⟨_, _, hx.int, hy.int, k _ _ G H f (Gr.refl f) R.int_ hw⟩
  · exact .inr ⟨_, _, hx.str, hy.str, hw.1, k _ _ G H f (Gr.refl f) R.str_ hw.2⟩
  · exact hw.elim
theorem ds_aug {i : Nat} {x : Str} {p : Pos} (hN : X.N.Nodup) (hi : X.N[i]? = some x) (hx : Loc X.env.scope x) (h : DE X e t w) (hf : X.fn x = true ∨ X.env.scope.names.lookup x = some .local := by first | exact .inl rfl | exact .inr rfl | assumption) :
    DS X (.AugAssign (.Name x p) .Add e pos) (tAug i t rIAdd) (wAug i wAddI w) := ⟨ps_aug hN hi hx h.pe ip_addU hf, fun c G H env σ D E f hw L => by
    unfold wAug at hw
    split at hw
    · rename_i d e1
      obtain ⟨v, ev, r⟩ := f.getD e1
      refine ⟨v, ev, h.snd c G H env σ _ _ f hw fun u z G' H' f' g' ru hq => ?_⟩
      exact so_addI c G' H' env σ v u d z _ _ f' (.of f'.gh (r.mono g'.gg)) (.of f'.gh ru) hq fun y z2 G2 H2 f2 g2 r2 hq2 => L.nx G2 H2 _ _ (f2.setD i r2) hq2
    · exact hw.elim⟩
end

/-! ### a def -/
def env0 (n : Nat) (ds : List D) : List Sl := ds.map Sl.d ++ List.replicate (n - ds.length) .no
theorem fr_start {K : PySem.W.Frag} {G H : Hp} {ds : List D} {vs : List V} (N : List Str) (s : Same G H) (r : RL K G ds vs) (hl : ds.length ≤ N.length) : Fr K ⟨G, H, none⟩ G H (env0 N.length ds) (L2.start N vs) := by
  have hv := r.length
  refine ⟨fun a o h _ => h, Same.refl G, s, fun _ _ _ n => n, fun a e => (nomatch e), fun a e => (nomatch e), ?_, fun i sl o h1 h2 => ?_, fun i j a si sj oi oj h1 h2 h3 h4 h5 h6 => ?_⟩
  · unfold env0 L2.start
    rw [List.length_append, List.length_append, List.length_map, List.length_map, List.length_replicate, List.length_replicate, hv]
  · unfold env0 at h1
    unfold L2.start at h2
    by_cases hi : i < ds.length
    · rw [List.getElem?_append_left (by rw [List.length_map]; exact hi), List.getElem?_map, List.getElem?_eq_getElem hi] at h1
      rw [List.getElem?_append_left (by rw [List.length_map, hv]; exact hi), List.getElem?_map] at h2
      obtain ⟨v, g1, g2⟩ := r.get (List.getElem?_eq_getElem hi)
      rw [g1] at h2
      cases h1; cases h2
      exact ⟨v, rfl, g2⟩
    · rw [List.getElem?_append_right (by rw [List.length_map]; omega), List.getElem?_replicate] at h1
      split at h1
      · cases h1; trivial
      · cases h1
  · have no : ∀ (i : Nat) (si : Sl) (oi : Option V), (env0 N.length ds)[i]? = some si → ownAt si oi ≠ some a := by
      intro i si oi h
      unfold env0 at h
      by_cases hi : i < ds.length
      · rw [List.getElem?_append_left (by rw [List.length_map]; exact hi), List.getElem?_map, List.getElem?_eq_getElem hi] at h
        cases h
        intro z; cases z
      · rw [List.getElem?_append_right (by rw [List.length_map]; omega), List.getElem?_replicate] at h
        split at h
        · cases h; intro z; cases z
        · cases h
    exact absurd h5 (no i si oi h1)
section
variable {P : Program} {w : World} {K : PySem.W.Frag} {mg : Str → Option Value} {base : Heap}
theorem fn_d {x qual : Str} {st : Stmt} {f : Addr} {fd : FuncData} {N ps : List Str} {k : Nat} {W : List D → (D → Prop) → Prop} (F : Fun K x qual st f fd) (S : FnScope N ps (defScope st)) (hW : ∀ ds q, W ds q → ds.length = ps.length)
    (h : ∀ (cdv : Value) (A : Around) (outer : List Env) (s : Shared) (H : Hp) (E : XK), Room k (A.deeper (PyProof.Rows.envOfC qual (defScope st) s.heap.objs.size f cdv)) →
      ∃ t wS, DSs (cxOf CX0 P w K mg base N qual (defScope st) f cdv A outer s H E).nox (defBody st) t wS ∧ ∀ ds q, W ds q → wS (env0 N.length ds) { nx := fun _ => q .non, rt := q }) : FnOk P w K mg base CX0 (k + 1) f fd ps (spD K W) := by
  refine F.ok S (fun vs H Q E hsp => ?_) (fun cdv A outer s H vs Q E hr hsp => ?_)
  · obtain ⟨G, ds, q, _, r, hw, _⟩ := hsp
    rw [r.length]; exact hW ds q hw
  · obtain ⟨G, ds, q, sg, r, hw, fin⟩ := hsp
    obtain ⟨t, wS, D, hD⟩ := h cdv A outer s H E hr
    refine ⟨t, D.ps, ?_⟩
    have hl : ds.length ≤ N.length := by
      rw [hW ds q hw]
      have := congrArg List.length S.pre
      rw [List.length_take] at this
      omega
    have f0 := fr_start N sg r hl
    exact D.snd _ G H _ _ _ _ f0 (hD ds q hw) ⟨fun G' H' env σ f' hq => fin _ _ G' H' (fun a o e => f'.hb a o e (by intro z; cases z)) f'.gg f'.gh f'.old R.non_ hq,
      fun v d G' H' env σ f' r' hq => fin v d G' H' (fun a o e => f'.hb a o e (by intro z; cases z)) f'.gg f'.gh f'.old r' hq, fun _ _ _ _ _ z => z.elim, fun _ _ _ _ _ z => z.elim⟩
/-- a def whose first argument is the draw -/
def envR (n : Nat) (ds : List D) : List Sl := .dr :: (ds.map Sl.d ++ List.replicate (n - 1 - ds.length) .no)
theorem fr_startR {K : PySem.W.Frag} {G H : Hp} {a : Addr} {ds : List D} {vs : List V} (N : List Str) (s : Same G H) (dr : DrC K G H a) (r : RL K G ds vs) (hl : ds.length + 1 ≤ N.length) : Fr K ⟨G, H, some a⟩ G H (envR N.length ds) (L2.start N (.ref a :: vs)) := by
  have hv := r.length
  obtain ⟨n0, s0, k0, ns0, hda, _⟩ := id dr
  have es : L2.start N (.ref a :: vs) = some (V.ref a) :: (vs.map some ++ List.replicate (N.length - 1 - vs.length) none) := by
    unfold L2.start
    rw [List.map_cons, List.cons_append, List.length_cons]
    congr 3
    omega
  rw [es]
  refine ⟨fun a o h _ => h, Same.refl G, s, fun _ _ _ n => n, fun b e => (by cases e; exact ⟨_, hda⟩), fun b e => (by cases e; exact dr), ?_, fun i sl o h1 h2 => ?_, fun i j b si sj oi oj h1 h2 h3 h4 h5 h6 => ?_⟩
  · unfold envR
    rw [List.length_cons, List.length_cons, List.length_append, List.length_append, List.length_map, List.length_map, List.length_replicate, List.length_replicate, hv]
  · unfold envR at h1
    cases i with
    | zero => cases h1; cases h2; exact ⟨a, rfl, rfl⟩
    | succ i =>
      rw [List.getElem?_cons_succ] at h1 h2
      by_cases hi : i < ds.length
      · rw [List.getElem?_append_left (by rw [List.length_map]; exact hi), List.getElem?_map, List.getElem?_eq_getElem hi] at h1
        rw [List.getElem?_append_left (by rw [List.length_map, hv]; exact hi), List.getElem?_map] at h2
        obtain ⟨v, g1, g2⟩ := r.get (List.getElem?_eq_getElem hi)
        rw [g1] at h2
        cases h1; cases h2
        exact ⟨v, rfl, g2⟩
      · rw [List.getElem?_append_right (by rw [List.length_map]; omega), List.getElem?_replicate] at h1
        split at h1
        · cases h1; trivial
        · cases h1
  · have no : ∀ (i : Nat) (si : Sl) (oi : Option V), (envR N.length ds)[i]? = some si → ownAt si oi ≠ some b := by
      intro i si oi h
      unfold envR at h
      cases i with
      | zero => cases h; intro z; cases z
      | succ i =>
        rw [List.getElem?_cons_succ] at h
        by_cases hi : i < ds.length
        · rw [List.getElem?_append_left (by rw [List.length_map]; exact hi), List.getElem?_map, List.getElem?_eq_getElem hi] at h
          cases h
          intro z; cases z
        · rw [List.getElem?_append_right (by rw [List.length_map]; omega), List.getElem?_replicate] at h
          split at h
          · cases h; intro z; cases z
          · cases h
    exact absurd h5 (no i si oi h1)
theorem fn_r {x qual : Str} {st : Stmt} {f : Addr} {fd : FuncData} {N ps : List Str} {k : Nat} {W : List D → (D → Prop) → Prop} (F : Fun K x qual st f fd) (S : FnScope N ps (defScope st)) (hW : ∀ ds q, W ds q → ds.length + 1 = ps.length)
    (h : ∀ (cdv : Value) (A : Around) (outer : List Env) (s : Shared) (H : Hp) (E : XK), Room k (A.deeper (PyProof.Rows.envOfC qual (defScope st) s.heap.objs.size f cdv)) →
      ∃ t wS, DSs (cxOf CX0 P w K mg base N qual (defScope st) f cdv A outer s H E).nox (defBody st) t wS ∧ ∀ ds q, W ds q → wS (envR N.length ds) { nx := fun _ => q .non, rt := q }) : FnOk P w K mg base CX0 (k + 1) f fd ps (spR K W) := by
  refine F.ok S (fun vs H Q E hsp => ?_) (fun cdv A outer s H vs Q E hr hsp => ?_)
  · obtain ⟨G, a, us, ds, q, rfl, _, _, r, hw, _⟩ := hsp
    rw [List.length_cons, r.length]; exact hW ds q hw
  · obtain ⟨G, a, us, ds, q, rfl, sg, dr, r, hw, fin⟩ := hsp
    obtain ⟨t, wS, D, hD⟩ := h cdv A outer s H E hr
    refine ⟨t, D.ps, ?_⟩
    have hl : ds.length + 1 ≤ N.length := by
      rw [hW ds q hw]
      have := congrArg List.length S.pre
      rw [List.length_take] at this
      omega
    have f0 := fr_startR N sg dr r hl
    have hh : ∀ {G' H' : Hp} {env : List Sl} {σ : L2.St}, Fr K ⟨G, H, some a⟩ G' H' env σ → ∀ b o, H b = some o → b ≠ a → H' b = some o := fun f' b o e n => f'.hb b o e (by intro z; cases z; exact n rfl)
    exact D.snd _ G H _ _ _ _ f0 (hD ds q hw) ⟨fun G' H' env σ f' hq => fin _ _ G' H' (hh f') f'.gg f'.gh f'.old (f'.dr a rfl) R.non_ hq,
      fun v d G' H' env σ f' r' hq => fin v d G' H' (hh f') f'.gg f'.gh f'.old (f'.dr a rfl) r' hq, fun _ _ _ _ _ z => z.elim, fun _ _ _ _ _ z => z.elim⟩
end
end Y

namespace Y
open PySem L2 PyProof.Rows
/-! ### a def of one tuple that a sort calls: (0, 0) if its first item is None, else (1, that item) -/
def lowKey (o : Option Int) : PyData := match o with | none => .tuple [.int 0, .int 0] | some i => .tuple [.int 1, .int i]
/-- v is a tuple whose first item is o -/
def FirstIs (h : Heap) (v : Value) (o : Option Int) : Prop := ∃ t its, v = .ref t ∧ IsTup h t its ∧ (match o with | none => its[0]? = some Value.none | some i => ∃ k, its[0]? = some (Value.int i k))
theorem isTup_keep {h h' : Heap} {t : Addr} {its : Array Value} (k : ∀ b o, h.get? b = some o → h'.get? b = some o) (x : IsTup h t its) : IsTup h' t its := by
  obtain ⟨o, e, c, n, d⟩ := x
  exact ⟨o, k _ _ e, c, n, d⟩
theorem FirstIs.keep {h h' : Heap} {v : Value} {o : Option Int} (k : ∀ b o, h.get? b = some o → h'.get? b = some o) (x : FirstIs h v o) : FirstIs h' v o := by
  obtain ⟨t, its, e, a, b⟩ := x
  exact ⟨t, its, e, isTup_keep k a, b⟩
section
variable {P : Program} {w : World} {K : PySem.W.Frag} {A : Around} {E : Value → Shared → Prop} {s : Shared} {env : Env} {t : Addr} {its : Array Value} {v : Value} {p p2 p3 : Pos} {j : Nat}
theorem low_sub {Q : Value → Shared → Prop} (hk : env.scope.kind = .function) (hl : env.kindOf "pair" = some .local) (hn : s.heap.Ns env.locals (fun y => if y = "pair" then some (Value.ref t) else none)) (ht : IsTup s.heap t its) (h0 : its[0]? = some v)
    (h : ∀ tk, Q v { s with toks := tk }) : wpAny (model P w) A (eval (.Subscript (.Name "pair" p) (.Constant (.int 0) j p2) p3) env) Q E s := by
  refine Subscript_ (wpAny_Name (wpAny_loadName_local hk hl hn (if_pos rfl) (wpAny_Constant_int ?_)))
  have hs : 0 < its.size := by
    rcases Nat.lt_or_ge 0 its.size with h | h
    · exact h
    · rw [Array.getElem?_eq_none (by omega)] at h0; cases h0
  refine item_tuple (k := 0) (j := 0) (isTup_keep (fun _ _ e => e) ht) (by decide) (by decide) ?_ h0 (h _)
  have e : seqIndex? 0 its.size = some 0 := by
    unfold seqIndex?
    have h1 : ((0 : Int) < (its.size : Int)) := by omega
    simp only [show ¬((0:Int) < 0) from by decide, if_false, decide_eq_true h1, show decide ((0:Int) ≤ 0) = true from rfl, Bool.and_self, if_true]
    rfl
  exact e
end
section
variable {P : Program} {w : World} {K : PySem.W.Frag}
abbrev lowBody (p1 p2 p3 p4 p5 p6 p7 p8 p9 p10 p11 p12 p13 p14 p15 : Pos) (j1 j2 j3 j4 j5 j6 k1 k2 : Nat) : List Stmt := [.Return (some (.IfExp (.Compare (.Subscript (.Name "pair" p1) (.Constant (.int 0) j1 p2) p3) [.Is] [.Constant .none j2 p4] p5) (.Tuple [.Constant (.int 0) j3 p6, .Constant (.int 0) j4 p7] k1 p8) (.Tuple [.Constant (.int 1) j5 p9, .Subscript (.Name "pair" p10) (.Constant (.int 0) j6 p11) p12] k2 p13) p14)) p15]
theorem low_pure {f : Addr} {x qual : Str} {params : Arguments} {scope : Scope} {dV kV doc pm cdv ct oc : Value} {an od : Option Addr} {osl : Array (Option Value)} {A : Around} {s : Shared} {v : Value} {o : Option Int}
    {p1 p2 p3 p4 p5 p6 p7 p8 p9 p10 p11 p12 p13 p14 p15 : Pos} {j1 j2 j3 j4 j5 j6 k1 k2 : Nat}
    (lk : K.lookup f = some ⟨oc, od, .func (PySem.W.fnOf x qual params (lowBody p1 p2 p3 p4 p5 p6 p7 p8 p9 p10 p11 p12 p13 p14 p15 j1 j2 j3 j4 j5 j6 k1 k2) scope dV kV doc pm an cdv ct), osl⟩)
    (hcd : PySem.W.codeIn K cdv qual = true) (hk : scope.kind = .function) (hco : scope.isCoroutine = false) (hgen : scope.isGenerator = false) (hnm : scope.names = [(("pair" : Str), .local)])
    (hb : bindArgs (PySem.W.fnOf x qual params (lowBody p1 p2 p3 p4 p5 p6 p7 p8 p9 p10 p11 p12 p13 p14 p15 j1 j2 j3 j4 j5 j6 k1 k2) scope dV kV doc pm an cdv ct) ⟨[v], []⟩ = pure [(("pair" : Str), v)])
    (hd : A.depth < recursionLimit) (KX : K.In s.heap) (lim : s.heap.NoLimit) (hv : FirstIs s.heap v o) :
    wpAny (model P w) A (call (.ref f) [v]) (PySem.W.KeyPure (lowKey o) s) (fun _ _ => False) s := by
  obtain ⟨t, its, rfl, ht, ho⟩ := hv
  refine wpAny_call (codeAny_call_function hd (KX _ _ lk) rfl hco hgen rfl (PySem.W.codeRec_of KX hcd) ?_)
  rw [hb]
  refine wpAny_pure ?_
  refine wpAny_newFunctionEnv (by rw [show (PySem.W.fnOf x qual params (lowBody p1 p2 p3 p4 p5 p6 p7 p8 p9 p10 p11 p12 p13 p14 p15 j1 j2 j3 j4 j5 j6 k1 k2) scope dV kV doc pm an cdv ct).scope = scope from rfl, hnm]; decide) (by rw [show (PySem.W.fnOf x qual params (lowBody p1 p2 p3 p4 p5 p6 p7 p8 p9 p10 p11 p12 p13 p14 p15 j1 j2 j3 j4 j5 j6 k1 k2) scope dV kV doc pm an cdv ct).scope = scope from rfl, hnm]; intro x hx; rw [List.mem_singleton] at hx; subst hx; rfl) (fun h1 hns sb => ?_) hk
  have kp : ∀ b o, s.heap.get? b = some o → h1.get? b = some o := fun b o e => by
    rw [sb.2 b (Nat.ne_of_lt (Heap.lt_size e))]
    exact Heap.get?_push_of_some _ e
  refine ⟨lim.keeps kp, codeAny_func ?_⟩
  have hns' : h1.Ns s.heap.objs.size (fun y => if y = "pair" then some (Value.ref t) else none) := by
    have e : (fun y => ([(("pair" : Str), Value.ref t)].reverse).lookup y) = (fun y : Str => if y = "pair" then some (Value.ref t) else none) := by
      funext y
      show (List.lookup y [(("pair" : Str), Value.ref t)]) = _
      by_cases h : y = "pair"
      · subst h; rfl
      · rw [if_neg h]
        show (match y == "pair" with | true => some (Value.ref t) | false => none) = none
        rw [show (y == "pair") = false from by simpa using h]
    rw [← e]; exact hns
  have ht1 := isTup_keep kp ht
  have hl : Env.kindOf (newEnv (PySem.W.fnOf x qual params (lowBody p1 p2 p3 p4 p5 p6 p7 p8 p9 p10 p11 p12 p13 p14 p15 j1 j2 j3 j4 j5 j6 k1 k2) scope dV kV doc pm an cdv ct).scope s.heap.objs.size mainGlobals [] (qual ++ ".<locals>.") (some f) cdv none 0) "pair" = some .local := by
    show scope.names.lookup ("pair" : Str) = some .local
    rw [hnm]; rfl
  have push : ∀ (b : Addr) (ob nb : Obj), h1.get? b = some ob → (h1.push nb).get? b = some ob := fun b ob nb e => Heap.get?_push_of_some _ e
  refine wpAny_execs_cons (wpAny_Return_some (wpAny_IfExp (wpAny_isTrue_Compare1 ?_)))
  cases o with
  | none =>
    refine low_sub hk hl hns' ht1 ho fun tk1 => wpAny_Constant_none (is_none_gen (wpAny_truthy_bool ?_))
    refine wpAny_Tuple (wpAny_items_cons (wpAny_Constant_int (wpAny_items_cons (wpAny_Constant_int (wpAny_items_nil ⟨by show 2 ≤ sizeLine; decide, ?_⟩)))))
    exact ⟨_, _, rfl, fun b ob e => push _ _ _ (kp b ob e), .tuple (Heap.get?_push_size _ rfl) rfl rfl (.cons (.int 0 _) (.cons (.int 0 _) .nil))⟩
  | some i =>
    obtain ⟨k, ho⟩ := ho
    refine low_sub hk hl hns' ht1 ho fun tk1 => wpAny_Constant_none (is_none_gen (wpAny_truthy_bool ?_))
    refine wpAny_Tuple (wpAny_items_cons (wpAny_Constant_int (wpAny_items_cons (low_sub hk hl hns' ht1 ho fun tk2 => (wpAny_items_nil ⟨by show 2 ≤ sizeLine; decide, ?_⟩)))))
    exact ⟨_, _, rfl, fun b ob e => push _ _ _ (kp b ob e), .tuple (Heap.get?_push_size _ rfl) rfl rfl (.cons (.int 1 _) (.cons (.int i _) .nil))⟩
end

/-! ### sorted(xs, key=low_of) -/
def kA (o : Option Int) : Int := match o with | none => 0 | some _ => 1
def kB (o : Option Int) : Int := match o with | none => 0 | some i => i
theorem lowKey_eq (o : Option Int) : lowKey o = .tuple [.int (kA o), .int (kB o)] := by cases o <;> rfl
def kLe (o u : Option Int) : Prop := kA o < kA u ∨ (kA o = kA u ∧ kB o ≤ kB u)
def rSortLow (K : PySem.W.Frag) (f : Addr) : List V → List V → Hp → VK → Prop := fun vs zs H Q => ∃ (a : Addr) (β : Type) (bs : List β) (fv : β → V) (fk : β → Option Int), vs = [.ref a] ∧ zs = [.ref f] ∧ SqL K H a (bs.map fv) ∧
  (∀ b ∈ bs, ∃ t x xs, fv b = .ref t ∧ SqT K H t (x :: xs) ∧ (match fk b with | none => x = .non | some i => x = .int i)) ∧
  ∀ (bs' : List β) (p : Addr), bs'.Perm bs → bs'.Pairwise (fun x y => kLe (fk x) (fk y)) → H p = none → Q (.ref p) (upd H p (.lst (bs'.map fv)))
theorem valsZip {β : Type} (fv : β → V) : ∀ (bs : List β) (us : List Value), Vals (bs.map fv) us → ∃ ts : List (Value × β), us = ts.map (·.1) ∧ bs = ts.map (·.2) ∧ ∀ t ∈ ts, RelV (fv t.2) t.1
  | [], us, h => by cases h; exact ⟨[], rfl, rfl, fun t ht => absurd ht List.not_mem_nil⟩
  | b :: bs, us, h => by
    cases h with
    | cons r t =>
      obtain ⟨ts, e1, e2, e3⟩ := valsZip fv bs _ t
      refine ⟨(_, b) :: ts, by rw [e1]; rfl, by rw [List.map_cons, ← e2], fun t ht => ?_⟩
      rcases List.mem_cons.mp ht with rfl | ht
      · exact r
      · exact e3 t ht
theorem eachIs_map {β : Type} {R : Value → β → Prop} (fu : β → Value) : ∀ bs : List β, (∀ b ∈ bs, R (fu b) b) → PySem.W.EachIs R (bs.map fu) bs
  | [], _ => .nil
  | b :: bs, h => .cons (h b List.mem_cons_self) (eachIs_map fu bs fun x hx => h x (List.mem_cons_of_mem _ hx))
theorem eachIs_eq {β : Type} {fu : β → Value} {S : β → Prop} : ∀ {us : List Value} {bs : List β}, PySem.W.EachIs (fun v b => v = fu b ∧ S b) us bs → us = bs.map fu
  | _, _, .nil => rfl
  | _, _, .cons h t => by rw [h.1, eachIs_eq t]; rfl
section
variable {X : Cx} {pos : Pos}
theorem cr_sortLow {f : Addr} {x qual : Str} {params : Arguments} {scope : Scope} {dV kV doc pm cdv ct oc : Value} {an od : Option Addr} {osl : Array (Option Value)}
    {p1 p2 p3 p4 p5 p6 p7 p8 p9 p10 p11 p12 p13 p14 p15 : Pos} {j1 j2 j3 j4 j5 j6 k1 k2 : Nat}
    (lk : X.K.lookup f = some ⟨oc, od, .func (PySem.W.fnOf x qual params (lowBody p1 p2 p3 p4 p5 p6 p7 p8 p9 p10 p11 p12 p13 p14 p15 j1 j2 j3 j4 j5 j6 k1 k2) scope dV kV doc pm an cdv ct), osl⟩)
    (hcd : PySem.W.codeIn X.K cdv qual = true) (hk : scope.kind = .function) (hco : scope.isCoroutine = false) (hgen : scope.isGenerator = false) (hnm : scope.names = [(("pair" : Str), .local)])
    (hb : ∀ v, bindArgs (PySem.W.fnOf x qual params (lowBody p1 p2 p3 p4 p5 p6 p7 p8 p9 p10 p11 p12 p13 p14 p15 j1 j2 j3 j4 j5 j6 k1 k2) scope dV kV doc pm an cdv ct) ⟨[v], []⟩ = pure [(("pair" : Str), v)])
    {k : Nat} (hr : Room k X.A) : CallRK X (.builtin "sorted") [Str.ofString "key"] (rSortLow X.K f) := by
  intro pins s σ H vs zs us ws Q I r rz h
  obtain ⟨a, β, bs, fv, fk, rfl, rfl, hs, hit, q⟩ := h
  obtain rfl := Vals.ref1 r
  obtain ⟨w1, rfl, e1⟩ := vals1 rz
  obtain rfl : w1 = Value.ref f := e1
  obtain ⟨its, rv, hl, hz⟩ := I.list hs
  obtain ⟨ts, rfl, rfl, hts⟩ := valsZip fv bs its rv
  have hz' : ts.length ≤ sizeLine := by simpa using hz
  have hfst : ∀ b ∈ ts, FirstIs s.heap b.1 (fk b.2) := by
    intro b hm
    obtain ⟨t, y, ys, ev, ht, hy⟩ := hit b.2 (List.mem_map_of_mem hm)
    have r1 := hts b hm
    rw [ev] at r1
    obtain ⟨its', r', pl, _⟩ := I.tuple ht
    cases r' with
    | cons ry _ =>
      refine ⟨t, _, r1, pl, ?_⟩
      split <;> rename_i e <;> rw [e] at hy
      · subst hy
        rw [show _ = Value.none from ry]; rfl
      · subst hy
        obtain ⟨k, rfl⟩ := ry
        exact ⟨k, rfl⟩
  refine PySem.W.sorted_key_data (b := false) (R := fun v b => v = b.1 ∧ (RelV (fv b.2) b.1 ∧ FirstIs s.heap b.1 (fk b.2))) (bs := ts) (fun b : Value × β => lowKey (fk b.2)) hl.isList (eachIs_map (·.1) ts fun b hm => ⟨rfl, hts b hm, hfst b hm⟩) (PySem.W.AllAlike.of fun b b' => ?_) (PySem.W.Sortable.tuples fun b => by rw [lowKey_eq]; exact ⟨_, _, rfl⟩) hz' (fun b _ => ?_)
    (PyProof.Rows.ksk_s1 _ _) (fun _ => PyProof.Rows.ksk_l1 _ _) (fun _ => PyProof.Rows.ksk_t1 _ _) (fun v b hR hm h1 tk kp => ?_) fun out c h' tk kp hn hD hlen eo => ?_
  · rw [lowKey_eq, lowKey_eq]
    simp [PySem.W.alike, PySem.W.alikeAll]
  · have hd : (lowKey (fk b.2)).depth = 1 := by rw [lowKey_eq]; simp [PyData.depth, PyData.depthAll]
    have := hr.units
    show X.A.units + 2 + (lowKey (fk b.2)).depth < cLine
    omega
  · obtain ⟨rfl, _, h2⟩ := hR
    exact low_pure lk hcd hk hco hgen hnm (hb _) hr.depth (I.kIn.keeps kp) (I.ok.mod.nolimit.keeps fun b o e => kp b o (I.bk b o e)) (h2.keep kp)
  · have le : (fun b : Value × β => lowKey (fk b.2)) = fun b => .tuple [.int (kA (fk b.2)), .int (kB (fk b.2))] := by funext b; rw [lowKey_eq]
    rw [le, PySem.W.dataLe_ii] at eo
    have tl : ∀ b b' : Value × β, (decide (kA (fk b.2) < kA (fk b'.2) ∨ (kA (fk b.2) = kA (fk b'.2) ∧ kB (fk b.2) ≤ kB (fk b'.2))) || decide (kA (fk b'.2) < kA (fk b.2) ∨ (kA (fk b'.2) = kA (fk b.2) ∧ kB (fk b'.2) ≤ kB (fk b.2)))) = true := by
      intro b b'
      rw [Bool.or_eq_true, decide_eq_true_eq, decide_eq_true_eq]
      omega
    have tr : ∀ b b' b'' : Value × β, decide (kA (fk b.2) < kA (fk b'.2) ∨ (kA (fk b.2) = kA (fk b'.2) ∧ kB (fk b.2) ≤ kB (fk b'.2))) = true → decide (kA (fk b'.2) < kA (fk b''.2) ∨ (kA (fk b'.2) = kA (fk b''.2) ∧ kB (fk b'.2) ≤ kB (fk b''.2))) = true → decide (kA (fk b.2) < kA (fk b''.2) ∨ (kA (fk b.2) = kA (fk b''.2) ∧ kB (fk b.2) ≤ kB (fk b''.2))) = true := by
      intro b b' b''
      rw [decide_eq_true_eq, decide_eq_true_eq, decide_eq_true_eq]
      omega
    have hp := List.mergeSort_perm ts (fun p q => decide (kA (fk p.2) < kA (fk q.2) ∨ (kA (fk p.2) = kA (fk q.2) ∧ kB (fk p.2) ≤ kB (fk q.2))))
    have hw := List.pairwise_mergeSort (le := fun p q : Value × β => decide (kA (fk p.2) < kA (fk q.2) ∨ (kA (fk p.2) = kA (fk q.2) ∧ kB (fk p.2) ≤ kB (fk q.2)))) tr tl ts
    generalize (ts.mergeSort fun p q => decide (kA (fk p.2) < kA (fk q.2) ∨ (kA (fk p.2) = kA (fk q.2) ∧ kB (fk p.2) ≤ kB (fk q.2)))) = ts' at eo hp hw
    have eu := eachIs_eq eo
    subst eu
    have hv : ∀ l : List (Value × β), (∀ t ∈ l, RelV (fv t.2) t.1) → Vals ((l.map (·.2)).map fv) (l.map (·.1)) := by
      intro l
      induction l with
      | nil => intro _; exact .nil
      | cons b l ih => intro h; exact .cons (h b List.mem_cons_self) (ih fun x hx => h x (List.mem_cons_of_mem _ hx))
    have hl2 : ((ts'.map (·.2)).map fv).length ≤ sizeLine := by rw [List.length_map, List.length_map, hp.length_eq]; exact hz'
    have hw' : (ts'.map (·.2)).Pairwise (fun x y => kLe (fk x) (fk y)) := by
      refine List.pairwise_map.mpr (hw.imp ?_)
      intro x y h
      rw [decide_eq_true_eq] at h
      exact h
    exact ⟨.ref _, upd H (s.heap.objs.size + 1) (.lst ((ts'.map (·.2)).map fv)), I.laid (t' := tk) kp (Nat.le_succ _) ⟨hl2, _, c, hv ts' fun t ht => hts t (hp.mem_iff.mp ht), hD⟩, rfl, q _ _ (hp.map _) hw' (I.hok.fresh (Nat.le_succ _))⟩
end
/-- the pair's first item -/
def fst? (d : D) : Option Int := match d with | .tup (.int i :: _) => some i | _ => none
def isPr (d : D) : Prop := ∃ x r, d = .tup (x :: r) ∧ (x = .non ∨ ∃ i, x = .int i)
def wSortLow (w : WE) : WA := fun env q => w env fun d => match d with | .lst ds => (∀ z ∈ ds, isPr z) ∧ ∀ ds' : List D, ds'.Perm ds → ds'.Pairwise (fun x y => kLe (fst? x) (fst? y)) → q ds' | _ => False
theorem RL.zip {K : PySem.W.Frag} {G : Hp} : ∀ {ds : List D} {vs : List V}, RL K G ds vs → ∃ bs : List (V × D), vs = bs.map (·.1) ∧ ds = bs.map (·.2) ∧ ∀ b ∈ bs, R K G b.2 b.1
  | [], vs, h => ⟨[], h.nilE, rfl, fun b hb => absurd hb List.not_mem_nil⟩
  | d :: ds, vs, h => by
    obtain ⟨v, r, rfl, h1, h2⟩ := h.consE
    obtain ⟨bs, e1, e2, e3⟩ := RL.zip h2
    refine ⟨(v, d) :: bs, by rw [e1]; rfl, by rw [e2]; rfl, fun b hb => ?_⟩
    rcases List.mem_cons.mp hb with rfl | hb
    · exact h1
    · exact e3 b hb
theorem RL.unzip {K : PySem.W.Frag} {G : Hp} : ∀ bs : List (V × D), (∀ b ∈ bs, R K G b.2 b.1) → RL K G (bs.map (·.2)) (bs.map (·.1))
  | [], _ => .nil
  | b :: bs, h => .cons (h b List.mem_cons_self) (RL.unzip bs fun x hx => h x (List.mem_cons_of_mem _ hx))
section
variable {X : Cx} {e : Expr} {t : TE} {w : WE} {pos p p0 pk : Pos} {fx : Str} {f : Addr}
theorem dn_sortLow (hc : CallRK X (.builtin "sorted") [Str.ofString "key"] (rSortLow X.K f)) (hg : Gl X "sorted") (hm : X.mg "sorted" = none) (hgf : Gl X fx) (hmf : X.mg fx = some (.ref f)) (hdf : (fx == ("__debug__" : Str)) = false) (ha : DE X e t w)
    (he : backTo pos (starEach [e] X.env) = (false, eval e X.env) :: backTo pos (starEach [] X.env) := by rfl) (hpl : (backTo pos (starEach [e] X.env)).any (·.1) = false := by rfl) (hs : starEach [e] X.env = (false, eval e X.env) :: starEach [] X.env := by rfl)
    (hall : (backToKw pos (keywordEach [⟨some (Str.ofString "key"), .Name fx p0, pk⟩] X.env)).all (·.1.isSome) = true := by rfl) (hnone : (backToKw pos (keywordEach [⟨some (Str.ofString "key"), .Name fx p0, pk⟩] X.env)).any (·.1.isNone) = false := by rfl) (hks : (backToKw pos (keywordEach [⟨some (Str.ofString "key"), .Name fx p0, pk⟩] X.env)).filterMap (·.1) = [Str.ofString "key"] := by rfl) :
    DN X (.Call (.Name "sorted" p) [e] [⟨some (Str.ofString "key"), .Name fx p0, pk⟩] pos) (tCKw (rSortLow X.K f) (tCons t tNil) (tCons (tC (.ref f)) tNil)) (wSortLow w) :=
  ⟨pe_callBK hc hg hm (by with_unfolding_all rfl) (pa_cons ha.pe pa_nil hs) (pk_cons (pe_glob hgf hmf rfl hdf) pk_nil) (by decide) (by decide) he hpl hall hnone hks, fun c G H env σ Q q fr hw k => by
    refine ha.snd c G H env σ _ _ fr hw fun v d G1 H1 f1 s1 r1 hq => ?_
    split at hq
    · rename_i ds
      obtain ⟨hp, hq⟩ := hq
      obtain ⟨a, vs, rfl, h1, h2⟩ := r1.lstE
      obtain ⟨bs, rfl, rfl, hb⟩ := h2.zip
      refine ⟨a, V × D, bs, (·.1), fun b => fst? b.2, rfl, rfl, SqL.of (f1.gh _ _ h1), fun b hm => ?_, fun bs' p hpm hpw hn => ?_⟩
      · obtain ⟨x, r, e1, e2⟩ := hp b.2 (List.mem_map_of_mem hm)
        have rb := hb b hm
        rw [e1] at rb
        obtain ⟨t, us, e3, h3, h4⟩ := rb.tupE
        obtain ⟨u, us', rfl, h5, h6⟩ := h4.consE
        refine ⟨t, u, us', e3, sqt_same f1.gh h3, ?_⟩
        show match fst? b.2 with | none => u = V.non | some i => u = V.int i
        rw [e1]
        rcases e2 with rfl | ⟨i, rfl⟩
        · exact h5
        · exact h5
      · have g := f1.newH (o := .lst (bs'.map (·.1))) hn
        exact k p _ (bs'.map (·.2)) G1 _ (f1.step g) (s1.trans g) upd_same (RL.unzip bs' fun b hm => hb b (hpm.mem_iff.mp hm)) (f1.gnone hn) (f1.h0none hn) (s1.fresh hn) (f1.noOwn hn) (hq _ (hpm.map _) (List.pairwise_map.mpr hpw))
    · exact hq.elim⟩
end
end Y

namespace Y
open PySem L2
section
variable {X : Cx} {K : PySem.W.Frag} {e a b : Expr} {es tes : List Expr} {t ta tb : TE} {w wa wb : WE} {tA : TA} {wA wN0 : WA} {pos p : Pos}
def wNeg (w : WE) : WE := fun env q => w env fun d => match d with | .int i => q (.int (-i)) | _ => False
theorem de_neg (ha : DE X a ta wa) : DE X (.UnaryOp .USub a pos) (tUn (rU fun i => .int (-i)) ta) (wNeg wa) := ⟨pe_un un_neg ha.pe, fun c G H env σ Q q f hw k => ha.snd c G H env σ _ _ f hw fun v d G' H' f' s r hq => by
  cases d with
  | int i => exact ⟨i, r, k _ _ G' H' f' s R.int_ hq⟩
  | _ => exact hq.elim⟩
/-! ### == and != , truth values too -/
def wEqU : WO := fun d e q => match d, e with | .bl i, .bl j => q (.bl (i == j)) | _, _ => wEq d e q
def wNeU : WO := fun d e q => match d, e with | .bl i, .bl j => q (.bl (i != j)) | _, _ => wNe d e q
theorem so_eqU : SndO K (rEqD K) wEqU := fun c G H env σ x y d e Q q f hx hy hw k => by
  unfold wEqU at hw
  split at hw
  · rename_i i j
    refine ⟨.bool i, .bool j, by rw [hx.bl]; exact .bl i, by rw [hy.bl]; exact .bl j, by cases i <;> decide, by cases j <;> decide, ?_⟩
    have e : PyData.eqv (.bool i) (.bool j) = (i == j) := by cases i <;> cases j <;> decide
    rw [e]
    exact k _ _ G H f (Gr.refl f) R.bl_ hw
  · exact so_eq c G H env σ x y d e Q q f hx hy hw k
theorem so_neU : SndO K (rNeD K) wNeU := fun c G H env σ x y d e Q q f hx hy hw k => by
  unfold wNeU at hw
  split at hw
  · rename_i i j
    refine ⟨.bool i, .bool j, by rw [hx.bl]; exact .bl i, by rw [hy.bl]; exact .bl j, by cases i <;> decide, by cases j <;> decide, ?_⟩
    have e : PyData.eqv (.bool i) (.bool j) = (i == j) := by cases i <;> cases j <;> decide
    rw [e]
    exact k _ _ G H f (Gr.refl f) R.bl_ hw
  · exact so_ne c G H env σ x y d e Q q f hx hy hw k
/-! ### x, y, .. = [..], e, .. : the first is a new list of ours -/
theorem ds_ownTup {i n k1 k2 : Nat} {x : Str} {px p1 p2 : Pos} {gs : TGs} {ws : WGs} {ss : List Nat} (hc : X.calm = true) (hN : X.N.Nodup) (hi : X.N[i]? = some x) (hx : Loc X.env.scope x) (hh : DN X e t wN0) (ha : DA X es tA wA) (hg : DGs X tes gs ws ss)
    (hes : starEach (e :: es) X.env = (false, eval e X.env) :: starEach es X.env := by rfl) (hf : X.fn x = true ∨ X.env.scope.names.lookup x = some .local := by first | exact .inl rfl | exact .inr rfl | assumption)
    (hpg : (assignEach (.Name x px :: tes) X.env).map (·.2) = assign (.Name x px) X.env :: (assignEach tes X.env).map (·.2) := by rfl) (hn : (assignEach (.Name x px :: tes) X.env).length = n := by rfl) (hst : (assignEach (.Name x px :: tes) X.env).findIdx? (·.1) = none := by rfl)
    (hs : swapsWithSole [.Tuple (.Name x px :: tes) k1 p1] (.Tuple (e :: es) k2 p2) pos.line X.env = pure false := by rfl) (hw : swappedStores [.Tuple (.Name x px :: tes) k1 p1] (.Tuple (e :: es) k2 p2) X.env = pure none := by rfl)
    (h1 : (assignEach [.Tuple (.Name x px :: tes) k1 p1] X.env).map (·.2) = [assign (.Tuple (.Name x px :: tes) k1 p1) X.env] := by rfl) :
    DS X (.Assign [.Tuple (.Name x px :: tes) k1 p1] (.Tuple (e :: es) k2 p2) pos) (tAsg (tTup (tCons t tA)) (gTup X.K n (gCons (gName i) gs)))
      (fun env E => wN0 env fun ds => wA env fun us => (us.length + 1 ≤ sizeLine ∧ us.length + 1 = n) ∧ ws us (env.set i (.ol ds)) E.nx) :=
  ⟨ps_asg (pe_tup (pa_cons hh.pe ha.pa hes)) (pg_tup hc (pgs_cons (pg_name hN hi hx hf) hg.pg hpg) hn hst) hs hw h1, fun c G H env σ D E f hw L => by
    refine hh.snd c G H env σ _ _ f hw fun o vs ds G1 H1 f1 g1 e1 e2 e3 e4 e5 no hq => ?_
    refine ha.snd c G1 H1 env σ _ _ f1 hq fun us zs G2 H2 f2 g2 r2 hq2 => ?_
    obtain ⟨⟨hl, hl2⟩, hq2⟩ := hq2
    have hu := r2.length
    refine ⟨by show (us.length + 1) ≤ _; omega, fun T hT => ?_⟩
    have eo : H2 o = some (.lst vs) := g2.hh _ _ e1 (f.own_ne e4)
    have g3 := f2.newH (o := .tup (.ref o :: us)) hT
    have f3 := f2.step g3
    have eo3 : (upd H2 T (.tup (.ref o :: us))) o = some (.lst vs) := by rw [upd_ne (ne_of_none eo hT)]; exact eo
    have no2 : NoOwn env σ o := no
    refine ⟨T, .ref o :: us, rfl, SqT.of upd_same, by show us.length + 1 = n; omega, .ref o, us, rfl, ?_⟩
    have f4 := f3.setOl i eo3 (RL.mono g2.gg _ _ e2) (g2.old _ _ e1 e3) e4 no2
    exact hg.snd c _ _ _ _ us zs _ _ f4 r2 hq2 fun env' σ' G' H' f' g' _ hq' => L.nx G' H' env' σ' f' hq'⟩
end
/-! ### a pass that takes some items -/
theorem lc_fm {wg : WG} {wt : WT} {we : WE} {vs : List Nat} {env : List Sl} {q : List D → Prop} {ds : List D} (p : D → Bool) (z : D → D) (hl : ds.length ≤ sizeLine)
    (step : ∀ (d : D) (acc : List D) (R : List D → Prop), d ∈ ds → acc.length < sizeLine → R (acc ++ if p d then [z d] else []) →
      wg d (wipeE env vs) fun env2 => wt env2 fun b => match b with | true => we env2 fun y => acc.length < sizeLine ∧ R (acc ++ [y]) | false => R acc)
    (hq : q ((ds.filter p).map z)) :
    ∃ I : Nat → List D → Prop, I 0 [] ∧
  (∀ k d acc, ds[k]? = some d → I k acc → wg d (wipeE env vs) fun env2 => wt env2 fun b => match b with | true => we env2 fun y => acc.length < sizeLine ∧ I (k + 1) (acc ++ [y]) | false => I (k + 1) acc) ∧
  ∀ acc, I ds.length acc → q acc := by
  refine ⟨fun k acc => acc = ((ds.take k).filter p).map z, rfl, fun k d acc hd ha => ?_, fun acc ha => ?_⟩
  · have hk : k < ds.length := (List.getElem?_eq_some_iff.mp hd).1
    refine step d acc (fun acc' => acc' = ((ds.take (k + 1)).filter p).map z) (List.mem_of_getElem? hd) ?_ ?_
    · rw [ha, List.length_map]
      have h1 : ((ds.take k).filter p).length ≤ (ds.take k).length := List.length_filter_le ..
      rw [List.length_take] at h1
      omega
    · rw [ha, List.take_succ, hd]
      simp only [Option.toList_some, List.filter_append, List.map_append, List.append_cancel_left_eq]
      cases hp : p d <;> simp [hp]
  · rw [ha, List.take_length]; exact hq
theorem lc_m {wg : WG} {we : WE} {vs : List Nat} {env : List Sl} {q : List D → Prop} {ds : List D} (z : D → D) (hl : ds.length ≤ sizeLine)
    (step : ∀ (d : D) (acc : List D) (R : List D → Prop), d ∈ ds → acc.length < sizeLine → R (acc ++ [z d]) → wg d (wipeE env vs) fun env2 => we env2 fun y => acc.length < sizeLine ∧ R (acc ++ [y]))
    (hq : q (ds.map z)) :
    ∃ I : Nat → List D → Prop, I 0 [] ∧
  (∀ k d acc, ds[k]? = some d → I k acc → wg d (wipeE env vs) fun env2 => wYes env2 fun b => match b with | true => we env2 fun y => acc.length < sizeLine ∧ I (k + 1) (acc ++ [y]) | false => I (k + 1) acc) ∧
  ∀ acc, I ds.length acc → q acc :=
  lc_fm (wt := wYes) (fun _ => true) z hl (fun d acc R hm ha hR => step d acc R hm ha hR) (by rw [List.filter_eq_self.mpr fun _ _ => rfl]; exact hq)
/-! ### the law's own start: the draw -/
theorem fr_law {K : PySem.W.Frag} {H : Hp} {s dr : Addr} {ns : List Int} {n : Nat} (hs : SqL K H s (ns.map V.int)) (hdr : H dr = none) :
    Fr K ⟨H, upd H dr (.lst [.ref s, .int 0]), some dr⟩ H (upd H dr (.lst [.ref s, .int 0])) (.no :: .dr :: List.replicate n .no) (some (.ref s) :: some (.ref dr) :: List.replicate n none) := by
  have sm : Same H (upd H dr (.lst [.ref s, .int 0])) := fun b u e => by rw [upd_ne (ne_of_none e hdr)]; exact e
  refine ⟨fun a o h _ => h, Same.refl H, sm, fun _ _ _ h => h, fun a e => (by cases e; exact ⟨_, upd_same⟩), fun a e => (by cases e; exact ⟨hdr, s, 0, ns, upd_same, hs⟩), by rw [List.length_cons, List.length_cons, List.length_cons, List.length_cons, List.length_replicate, List.length_replicate], fun i sl o h1 h2 => ?_, fun i j a si sj oi oj h1 h2 h3 h4 h5 h6 => ?_⟩
  · match i with
    | 0 => cases h1; trivial
    | 1 => cases h1; cases h2; exact ⟨dr, rfl, rfl⟩
    | i + 2 =>
      rw [List.getElem?_cons_succ, List.getElem?_cons_succ, List.getElem?_replicate] at h1
      split at h1
      · cases h1; trivial
      · cases h1
  · have no : ∀ (i : Nat) (si : Sl) (oi : Option V), (Sl.no :: Sl.dr :: List.replicate n Sl.no)[i]? = some si → ownAt si oi ≠ some a := by
      intro i si oi h z
      match i with
      | 0 => cases h; cases z
      | 1 => cases h; cases z
      | i + 2 =>
        rw [List.getElem?_cons_succ, List.getElem?_cons_succ, List.getElem?_replicate] at h
        split at h
        · cases h; cases z
        · cases h
    exact absurd h5 (no i si oi h1)

/-! ### defs in bundles -/
structure Df (P : Program) (w : World) (K : PySem.W.Frag) (mg : Str → Option Value) (base : Heap) (k : Nat) (x : Str) (ps : List Str) (W : List D → (D → Prop) → Prop) : Prop where
  ex : ∃ f fd, FnOk P w K mg base CX0 k f fd ps (spD K W) ∧ mg x = some (.ref f) ∧ PySem.W.keepIn K (.ref f) = true ∧ Binds K fd ps []
structure Dr (P : Program) (w : World) (K : PySem.W.Frag) (mg : Str → Option Value) (base : Heap) (k : Nat) (x : Str) (ps : List Str) (W : List D → (D → Prop) → Prop) : Prop where
  ex : ∃ f fd, FnOk P w K mg base CX0 k f fd ps (spR K W) ∧ mg x = some (.ref f) ∧ PySem.W.keepIn K (.ref f) = true ∧ Binds K fd ps []
structure Here (K : PySem.W.Frag) (mg : Str → Option Value) (x : Str) (ps : List Str) (st : Stmt) : Prop where
  ex : ∃ f fd, Fun K x x st f fd ∧ mg x = some (.ref f) ∧ Binds K fd ps []
section
variable {X : Cx} {e : Expr} {es : List Expr} {tA : TA} {wA : WA} {pos p p2 : Pos} {x y : Str} {k : Nat} {ps : List Str} {W : List D → (D → Prop) → Prop}
theorem de_cl (F : Df X.prog X.w X.K X.mg X.base k x ps W) (hr : Room k X.A) (hg : Gl X x) (ha : DA X (e :: es) tA wA) (hdb : (x == ("__debug__" : Str)) = false := by decide) (he : starEach (e :: es) X.env = (false, eval e X.env) :: starEach es X.env := by rfl) (hpl : (backTo pos (starEach es X.env)).any (·.1) = false := by rfl) :
    DE X (.Call (.Name x p) (e :: es) [] pos) (tCall (spD X.K W) [] E0 tA) (wCall W wA) := by
  obtain ⟨f, fd, F, hm, hk, hb⟩ := F.ex
  exact de_call F hr hg hm hk hb ha hdb he hpl
theorem de_clR (i : Nat) (F : Dr X.prog X.w X.K X.mg X.base k x ps W) (hr : Room k X.A) (hg : Gl X x) (hv : PE X (.Name y p2) (tVar i)) (ha : DA X es tA wA) (hdb : (x == ("__debug__" : Str)) = false := by decide) (he : starEach (.Name y p2 :: es) X.env = (false, eval (.Name y p2) X.env) :: starEach es X.env := by rfl) (hpl : (backTo pos (starEach es X.env)).any (·.1) = false := by rfl) :
    DE X (.Call (.Name x p) (.Name y p2 :: es) [] pos) (tCall (spR X.K W) [] E0 (tCons (tVar i) tA)) (wCallR W i wA) := by
  obtain ⟨f, fd, F, hm, hk, hb⟩ := F.ex
  exact de_callR i F hr hg hm hk hb hv ha hdb he hpl
end
section
variable {P : Program} {w : World} {K : PySem.W.Frag} {mg : Str → Option Value} {base : Heap}
theorem df_of {x : Str} {st : Stmt} {N ps : List Str} {k : Nat} {W : List D → (D → Prop) → Prop} (h0 : Here K mg x ps st) (S : FnScope N ps (defScope st)) (hW : ∀ ds q, W ds q → ds.length = ps.length)
    (h : ∀ (f : Addr) (cdv : Value) (A : Around) (outer : List Env) (s : Shared) (H : Hp) (E : XK), Room k (A.deeper (PyProof.Rows.envOfC x (defScope st) s.heap.objs.size f cdv)) →
      ∃ t wS, DSs (cxOf CX0 P w K mg base N x (defScope st) f cdv A outer s H E).nox (defBody st) t wS ∧ ∀ ds q, W ds q → wS (env0 N.length ds) { nx := fun _ => q .non, rt := q }) : Df P w K mg base (k + 1) x ps W := by
  obtain ⟨f, fd, F, hm, hb⟩ := h0.ex
  exact ⟨f, fd, fn_d F S hW (h f), hm, F.kp, hb⟩
theorem dr_of {x : Str} {st : Stmt} {N ps : List Str} {k : Nat} {W : List D → (D → Prop) → Prop} (h0 : Here K mg x ps st) (S : FnScope N ps (defScope st)) (hW : ∀ ds q, W ds q → ds.length + 1 = ps.length)
    (h : ∀ (f : Addr) (cdv : Value) (A : Around) (outer : List Env) (s : Shared) (H : Hp) (E : XK), Room k (A.deeper (PyProof.Rows.envOfC x (defScope st) s.heap.objs.size f cdv)) →
      ∃ t wS, DSs (cxOf CX0 P w K mg base N x (defScope st) f cdv A outer s H E).nox (defBody st) t wS ∧ ∀ ds q, W ds q → wS (envR N.length ds) { nx := fun _ => q .non, rt := q }) : Dr P w K mg base (k + 1) x ps W := by
  obtain ⟨f, fd, F, hm, hb⟩ := h0.ex
  exact ⟨f, fd, fn_r F S hW (h f), hm, F.kp, hb⟩
end
/-- what a draw gives: any number there is -/
def wTake : List D → (D → Prop) → Prop := fun ds q => ∃ m : Int, ds = [.int m] ∧ 0 < m ∧ ∀ v : Int, 0 ≤ v → v < m → q (.int v)

/-! ### a list of ours is frozen ahead of a statement -/
def wFrz (i : Nat) (w : WS) : WS := fun env E => match env[i]? with | some (.ol ds) => w (env.set i (.d (.lst ds))) E | some (.d d) => w env E | _ => False
theorem ds_frz {X : Cx} {st : Stmt} {t : TS} {w : WS} (i : Nat) (h : DS X st t w) : DS X st t (wFrz i w) := ⟨h.ps, fun c G H env σ D E f hw L => by
  unfold wFrz at hw
  split at hw
  · rename_i ds e
    obtain ⟨a, vs, e1, h1, h2, sm, f'⟩ := f.freeze e
    exact h.snd c _ H _ σ D E f' hw L
  · exact h.snd c G H env σ D E f hw L
  · exact hw.elim⟩

/-- x, y, z = [..], e, e2, plain locals: the first is a list of ours -/
theorem ds_ownPar3 {X : Cx} {a b c3 : Expr} {t : TE} {tA : TA} {wn wA : WA} {i j l : Nat} {x y z : Str} {px py pz pt pos : Pos} {kt k2 pt2} (hc : X.calm = true) (hN : X.N.Nodup) (hi : X.N[i]? = some x) (hj : X.N[j]? = some y) (hl : X.N[l]? = some z) (hij : i ≠ j) (hil : i ≠ l) (hjl : j ≠ l)
    (hx : X.env.scope.names.lookup x = some .local) (hy : X.env.scope.names.lookup y = some .local) (hz : X.env.scope.names.lookup z = some .local) (hh : DN X a t wn) (ha : DA X [b, c3] tA wA)
    (hw : swappedStores [.Tuple [.Name x px, .Name y py, .Name z pz] kt pt] (.Tuple [a, b, c3] k2 pt2) X.env = pure (some [x, y, z]))
    (hes : starEach [a, b, c3] X.env = (false, eval a X.env) :: starEach [b, c3] X.env := by rfl)
    (hs : swapsWithSole [.Tuple [.Name x px, .Name y py, .Name z pz] kt pt] (.Tuple [a, b, c3] k2 pt2) pos.line X.env = pure false := by rfl) :
    DS X (.Assign [.Tuple [.Name x px, .Name y py, .Name z pz] kt pt] (.Tuple [a, b, c3] k2 pt2) pos) (tPar3 i j l (tCons t tA)) (fun env E => wn env fun ds => wA env fun us => match us with | [d, e] => E.nx (((env.set i (.ol ds)).set j (.d d)).set l (.d e)) | _ => False) :=
  ⟨ps_par3 hc hN hi hj hl hij hil hjl hx hy hz (pa_cons hh.pe ha.pa hes) hw hs, fun c G H env σ D E f hw L => by
    refine hh.snd c G H env σ _ _ f hw fun o vs ds G1 H1 f1 g1 e1 e2 e3 e4 e5 no hq => ?_
    refine ha.snd c G1 H1 env σ _ _ f1 hq fun us zs G2 H2 f2 g2 r2 hq2 => ?_
    split at hq2
    · obtain ⟨v, us, rfl, r3, r4⟩ := r2.consE
      obtain ⟨u, us2, rfl, r5, r6⟩ := r4.consE
      rw [r6.nilE]
      have eo : H2 o = some (.lst vs) := g2.hh _ _ e1 (f.own_ne e4)
      have f4 := f2.setOl i eo (RL.mono g2.gg _ _ e2) (g2.old _ _ e1 e3) e4 no
      exact ⟨.ref o, v, u, rfl, L.nx _ H2 _ _ ((f4.setD j r3).setD l r5) hq2⟩
    · exact hq2.elim⟩
end Y

namespace Y
open PySem L2
/-! the same rules, K named: for the inside of a comprehension -/
section
variable {X : Cx} {K : PySem.W.Frag} {e a b : Expr} {es : List Expr} {t ta tb : TE} {w wa wb : WE} {tA : TA} {wA : WA} {pos p p2 : Pos} {x y : Str}
theorem call_lenK (hK : X.K = K := by rfl) : CallR X (.builtin "len") (fun xs H Q => ∃ x n, xs = [x] ∧ LenV K x H n ∧ Q (.int n) H) := by subst hK; exact call_len
theorem call_tupleK (hK : X.K = K := by rfl) : CallR X (.type "tuple") (fun xs H Q => ∃ p ys, xs = [.ref p] ∧ ((SqL K H p ys ∧ ∀ l, H l = none → Q (.ref l) (upd H l (.tup ys))) ∨ (SqT K H p ys ∧ Q (.ref p) H))) := by subst hK; exact call_tuple_of
theorem cr_sumK (hc : X.calm = true) (hK : X.K = K := by rfl) : CallR X (.builtin "sum") (rSum K) := by subst hK; exact cr_sum hc
theorem cr_maxK (hc : X.calm = true) (hK : X.K = K := by rfl) : CallR X (.builtin "max") (rMax K) := by subst hK; exact cr_max hc
theorem cr_minK1 (hc : X.calm = true) (hK : X.K = K := by rfl) : CallR X (.builtin "min") (rMin K) := by subst hK; exact cr_min hc
theorem cr_anyK (hc : X.calm = true) (hK : X.K = K := by rfl) : CallR X (.builtin "any") (rAny K) := by subst hK; exact cr_any hc
theorem cr_allK (hc : X.calm = true) (hK : X.K = K := by rfl) : CallR X (.builtin "all") (rAll K) := by subst hK; exact cr_all hc
theorem op_addUK (hK : X.K = K := by rfl) : OpR X (binaryOp .Add) (rAddU K) := by subst hK; exact op_addU
theorem op_eqDK (hu : X.A.units + 64 < cLine) (hK : X.K = K := by rfl) : OpR X (compareOp .Eq) (rEqD K) := by subst hK; exact op_eqD hu
theorem op_neDK (hu : X.A.units + 64 < cLine) (hK : X.K = K := by rfl) : OpR X (compareOp .NotEq) (rNeD K) := by subst hK; exact op_neD hu
theorem op_inK (hK : X.K = K := by rfl) : OpR X (compareOp .In) (rIn K false) := by subst hK; exact op_in_seq
theorem op_notInK (hK : X.K = K := by rfl) : OpR X (compareOp .NotIn) (rIn K true) := by subst hK; exact op_notIn_seq
theorem de_ixK (ha : DB X a ta wa) (hb : DB X b tb wb) (hs : PlainIx b) (hK : X.K = K := by rfl) : DE X (.Subscript a b pos) (tOp (rIx K) ta tb) (wOp2 wIx wa wb) := by subst hK; exact de_ix ha hb hs
theorem de_sliceK {lo hi : Option Expr} {tl th : TO} {w1 w2 : WP} (ha : DB X a ta wa) (hl : DO X lo tl w1) (hh : DO X hi th w2) (hK : X.K = K := by rfl) : DE X (.Subscript a (.Slice lo hi none p2) pos) (tSl (rSlU K) ta tl th) (wSl wa w1 w2) := by subst hK; exact de_slice ha hl hh
theorem dg_tupK {k : Nat} {gs : TGs} {ws : WGs} {ss : List Nat} {n : Nat} (hc : X.calm = true) (h : DGs X es gs ws ss) (hn : (assignEach es X.env).length = n := by rfl) (hst : (assignEach es X.env).findIdx? (·.1) = none := by rfl) (hK : X.K = K := by rfl) :
    DG X (.Tuple es k pos) (gTup K n gs) (wgTup n ws) ss := by subst hK; exact dg_tup hc h hn hst
theorem de_clK {k : Nat} {ps : List Str} {W : List D → (D → Prop) → Prop} (F : Df X.prog X.w K X.mg X.base k x ps W) (hr : Room k X.A) (hg : Gl X x) (ha : DA X (e :: es) tA wA) (hK : X.K = K := by rfl) (hdb : (x == ("__debug__" : Str)) = false := by decide) (he : starEach (e :: es) X.env = (false, eval e X.env) :: starEach es X.env := by rfl) (hpl : (backTo pos (starEach es X.env)).any (·.1) = false := by rfl) :
    DE X (.Call (.Name x p) (e :: es) [] pos) (tCall (spD K W) [] E0 tA) (wCall W wA) := by subst hK; exact de_cl F hr hg ha hdb he hpl
theorem de_clRK (i : Nat) {k : Nat} {ps : List Str} {W : List D → (D → Prop) → Prop} (F : Dr X.prog X.w K X.mg X.base k x ps W) (hr : Room k X.A) (hg : Gl X x) (hv : PE X (.Name y p2) (tVar i)) (ha : DA X es tA wA) (hK : X.K = K := by rfl) (hdb : (x == ("__debug__" : Str)) = false := by decide) (he : starEach (.Name y p2 :: es) X.env = (false, eval (.Name y p2) X.env) :: starEach es X.env := by rfl) (hpl : (backTo pos (starEach es X.env)).any (·.1) = false := by rfl) :
    DE X (.Call (.Name x p) (.Name y p2 :: es) [] pos) (tCall (spR K W) [] E0 (tCons (tVar i) tA)) (wCallR W i wA) := by subst hK; exact de_clR i F hr hg hv ha hdb he hpl
end
end Y

namespace Y
open PySem L2
theorem g_lcm {wg : WG} {we : WE} {vs : List Nat} {env : List Sl} {ql : List D → Prop} {ds : List D} (z : D → D) (hl : ds.length ≤ sizeLine)
    (step : ∀ (d : D) (L : Prop) (R : D → Prop), d ∈ ds → L → R (z d) → wg d (wipeE env vs) fun env2 => we env2 fun y => L ∧ R y) (hq : ql (ds.map z)) : kLc wg wYes we vs env ql ds :=
  kLc_i (lc_m z hl (fun d acc R hm ha hR => step d _ (fun y => R (acc ++ [y])) hm ha hR) hq)
def kIt (we : WE) (env : List Sl) (L : Prop) (R : D → Prop) (n : Prop) (b : Bool) : Prop := match b with | true => we env fun y => L ∧ R y | false => n
theorem g_lcf {wg : WG} {wt : WT} {we : WE} {vs : List Nat} {env : List Sl} {ql : List D → Prop} {ds : List D} (p : D → Bool) (z : D → D) (hl : ds.length ≤ sizeLine)
    (step : ∀ (d : D) (L n : Prop) (R : D → Prop), d ∈ ds → L → (p d = true → R (z d)) → (p d = false → n) → wg d (wipeE env vs) fun env2 => wt env2 (kIt we env2 L R n)) (hq : ql ((ds.filter p).map z)) : kLc wg wt we vs env ql ds :=
  kLc_i (lc_fm p z hl (fun d acc R hm ha hR => step d _ _ (fun y => R (acc ++ [y])) hm ha (fun e => by rw [e] at hR; exact hR) (fun e => by rw [e] at hR; simpa using hR)) hq)
/-- a for: I holds ahead of each item -/
theorem g_for {wg : WG} {wb : WS} {env : List Sl} {E : DEnds} {ds : List D} (I : Nat → List Sl → Prop) (h0 : I 0 env) (step : ∀ i d env', ds[i]? = some d → I i env' → wg d env' fun env2 => wb env2 { nx := I (i + 1), rt := E.rt, bk := E.nx, ct := I (i + 1) })
    (fin : ∀ env', I ds.length env' → E.nx env') : kFor wg wb env E ds := kFor_i ⟨I, h0, step, fin⟩
def kWh (wb : WS) (env : List Sl) (n r : DEnds) (x : Prop) (b : Bool) : Prop := match b with | true => wb env n | false => x
theorem g_while {wc : WT} {wb : WS} {env : List Sl} {E : DEnds} (I : List Sl → Prop) (μ : List Sl → Nat) (h0 : I env)
    (step : ∀ env', I env' → wc env' fun b => match b with | true => wb env' { nx := fun e => I e ∧ μ e < μ env', rt := E.rt, bk := E.nx, ct := fun e => I e ∧ μ e < μ env' } | false => E.nx env') : wWhile wc wb env E := while_i ⟨I, μ, h0, step⟩
theorem lz0 : ([] : List D).length ≤ sizeLine := by show 0 ≤ sizeLine; decide
theorem lz1 {a : D} : [a].length ≤ sizeLine := by show 1 ≤ sizeLine; decide
theorem lz2 {a b : D} : [a, b].length ≤ sizeLine := by show 2 ≤ sizeLine; decide
theorem lz3 {a b c : D} : [a, b, c].length ≤ sizeLine := by show 3 ≤ sizeLine; decide
theorem lz5 {a b c d e : D} : [a, b, c, d, e].length ≤ sizeLine := by show 5 ≤ sizeLine; decide
abbrev oD (o : Option Int) : D := match o with | none => .non | some i => .int i
def kSeq (q : List D → Prop) (d : D) : Prop := match d with | .lst ds => q ds | .tup ds => q ds | _ => False
theorem d_ni {i : Int} (h : D.int i = .non) : False := by cases h
theorem d_nt {ds : List D} (h : D.tup ds = .non) : False := by cases h
theorem d_nl {ds : List D} (h : D.lst ds = .non) : False := by cases h
theorem d_ns {s : Str} (h : D.str s = .non) : False := by cases h
theorem lq1 {a : D} : [a].length = 1 := rfl
theorem lq2 {a b : D} : [a, b].length = 2 := rfl
theorem lq3 {a b c : D} : [a, b, c].length = 3 := rfl
theorem lq4 {a b c d : D} : [a, b, c, d].length = 4 := rfl
theorem lq5 {a b c d e : D} : [a, b, c, d, e].length = 5 := rfl
theorem g_any {q : D → Prop} {bs : List Bool} (k : q (.bl (bs.any id))) : wAny [.lst (bs.map D.bl)] q := by show match bllsOf (bs.map D.bl) with | some bs => q (.bl (bs.any id)) | none => False; rw [bllsOf_map]; exact k
theorem g_all {q : D → Prop} {bs : List Bool} (k : q (.bl (bs.all id))) : wAll [.lst (bs.map D.bl)] q := by show match bllsOf (bs.map D.bl) with | some bs => q (.bl (bs.all id)) | none => False; rw [bllsOf_map]; exact k
theorem g_sum {q : D → Prop} {ns : List Int} (k : q (.int ns.sum)) : wSum [.lst (ns.map D.int)] q := by show match intsOf (ns.map D.int) with | some bs => q (.int bs.sum) | none => False; rw [intsOf_map]; exact k
theorem g_min1 {q : D → Prop} {ns : List Int} (k0 : 0 < ns.length) (k : ∀ m, m ∈ ns → (∀ y, y ∈ ns → m ≤ y) → q (.int m)) : wMin1 [.lst (ns.map D.int)] q := by show match intsOf (ns.map D.int) with | some ns => 0 < ns.length ∧ ∀ m, m ∈ ns → (∀ y, y ∈ ns → m ≤ y) → q (.int m) | none => False; rw [intsOf_map]; exact ⟨k0, k⟩
theorem d_tc {x : D} {xs : List D} (h : D.tup (x :: xs) = .tup []) : False := by cases h
theorem d_lc {x : D} {xs : List D} (h : D.lst (x :: xs) = .lst []) : False := by cases h
theorem dr_t {env : List Sl} {i : Nat} (h : env[i]? = some .dr) : isDr env i := by unfold isDr; rw [h]; trivial
end Y

namespace Y
open PySem L2
/-! ### texts -/
def chars (s : Str) : List D := s.cps.toList.map fun c => D.str ⟨#[c]⟩
section
variable {X : Cx} {K : PySem.W.Frag} {tg iter e a b : Expr} {t ta tb : TE} {w wa wb : WE} {tA : TA} {wA : WA} {pos p : Pos} {x : Str}
def wStrI (w : WE) : WA := fun env q => w env fun d => match d with | .str s => q (chars s) | _ => False
theorem wk_str {c : Ctx} {P : Hp → Hp → Prop} {s : Str} (hP : ∀ G H, P G H → ∃ env σ, Fr K c G H env σ) : Wk K c.da P (Its s) (chars s) := by
  refine ⟨fun G1 H1 p i d hi => ?_, fun G1 H1 p => ?_⟩
  · unfold chars at hi
    rw [List.getElem?_map] at hi
    cases e : s.cps.toList[i]? with
    | none => rw [e] at hi; cases hi
    | some c0 =>
      rw [e] at hi
      cases hi
      obtain ⟨env, σ, f⟩ := hP _ _ p
      have hi' : i < s.cps.size := by have := (List.getElem?_eq_some_iff.mp e).1; rwa [Array.length_toList] at this
      refine ⟨hi', fun v H' y => ?_⟩
      obtain ⟨rfl, c1, h1, rfl⟩ := y
      have : c1 = c0 := by
        rw [Array.getElem?_toList, h1] at e
        exact Option.some.inj e
      subst this
      exact ⟨G1, Gr.refl f, R.str_⟩
  · show s.cps.size ≤ (chars s).length
    unfold chars
    rw [List.length_map, Array.length_toList]; exact Nat.le_refl _
theorem di_str (h : DE X iter t w) : DI X tg iter (iStr t) (wStrI w) := ⟨pi_str h.pe, fun c G H env σ Rr q f hw k => h.snd c G H env σ _ _ f hw fun v d G' H' f' s r hq => by
  split at hq
  · exact ⟨_, r, k _ _ G' H' f' s (wk_str fun _ _ p => p.2) hq⟩
  · exact hq.elim⟩
def wStrOf : WC := fun ds q => match ds with | [.int i] => i.natAbs.log2 < 1920 ∧ q (.str (toString i)) | _ => False
theorem sc_strOf : SndC K (fun xs H Q => ∃ i, xs = [.int i] ∧ i.natAbs.log2 < 1920 ∧ Q (.str (toString i)) H) wStrOf := fun c G H env σ xs ds Q q f hx hw k => by
  unfold wStrOf at hw
  split at hw
  · obtain ⟨v, rfl, r⟩ := hx.one
    exact ⟨_, by rw [r.int], hw.1, k _ _ G H f (Gr.refl f) R.str_ hw.2⟩
  · exact hw.elim
def wIntOf : WC := fun ds q => match ds with | [.str s] => (match PySem.intText? s with | some n => s.length ≤ 640 ∧ q (.int n) | none => False) | _ => False
theorem sc_intOf : SndC K (fun xs H Q => ∃ a n, xs = [.str a] ∧ PySem.intText? a = some n ∧ a.length ≤ 640 ∧ Q (.int n) H) wIntOf := fun c G H env σ xs ds Q q f hx hw k => by
  unfold wIntOf at hw
  split at hw
  · obtain ⟨v, rfl, r⟩ := hx.one
    split at hw
    · rename_i n e
      exact ⟨_, n, by rw [r.str], e, hw.1, k _ _ G H f (Gr.refl f) R.int_ hw.2⟩
    · exact hw.elim
  · exact hw.elim
/-! a sign in a text -/
def wInU : WO := fun d e q => match d, e with | .str s, .str z => (match s.cps.toList with | [c] => q (.bl (decide (c ∈ z.cps.toList))) | _ => False) | _, _ => wIn d e q
/-! split -/
def kSplit2 (q : List D → Prop) (a : Str) (e : D) : Prop := match e with | .str b => ((b.length == 0) = false ∧ a.length + 2 ≤ sizeLine ∧ (Txt.split a b).length ≤ sizeLine) ∧ q ((Txt.split a b).map D.str) | _ => False
def kSplit1 (wb : WE) (env : List Sl) (q : List D → Prop) (d : D) : Prop := match d with | .str a => wb env (kSplit2 q a) | _ => False
def wSplitN (wa wb : WE) : WA := fun env q => wa env (kSplit1 wb env q)
theorem rl_strs {G : Hp} : ∀ ys : List Str, RL K G (ys.map D.str) (ys.map V.str)
  | [] => .nil
  | y :: ys => .cons R.str_ (rl_strs ys)
theorem dn_split {apos : Pos} (ha : DE X a ta wa) (hb : DE X b tb wb) (hs : starEach [b] X.env = [(false, eval b X.env)] := by rfl) (hbase : attributeBase a "split" X.env (eval a X.env) = eval a X.env := by rfl) (hline : (apos.endLine == pos.line) = true := by rfl) :
    DN X (.Call (.Attribute a "split" apos) [b] [] pos) (tM1 (fun x xs H Q => ∃ a b, x = .str a ∧ xs = [.str b] ∧ (b.length == 0) = false ∧ a.length + 2 ≤ sizeLine ∧ rNewStrs (Txt.split a b) H Q) ta tb) (wSplitN wa wb) :=
  ⟨pe_split ha.pe hb.pe hs hbase hline, fun c G H env σ Q q f hw k => by
    refine ha.snd c G H env σ _ _ f hw fun v d G1 H1 f1 g1 r1 hw1 => ?_
    unfold kSplit1 at hw1
    split at hw1
    · rename_i s
      refine ⟨⟨s, r1⟩, hb.snd c G1 H1 env σ _ _ f1 hw1 fun u e G2 H2 f2 g2 r2 hw2 => ?_⟩
      unfold kSplit2 at hw2
      split at hw2
      · obtain ⟨⟨h1, h2, h3⟩, hq⟩ := hw2
        refine ⟨_, _, r1, by rw [show u = _ from r2], h1, h2, fun p hp => ?_⟩
        exact k p _ _ G2 _ (f2.step (f2.newH hp)) ((g1.trans g2).trans (f2.newH hp)) upd_same (rl_strs _) (f2.gnone hp) (f2.h0none hp) ((g1.trans g2).fresh hp) (f2.noOwn hp) hq
      · exact hw2.elim
    · exact hw1.elim⟩
/-! ### isinstance(e, T), T built in -/
def tyName (d : D) : String := match d with | .non => "NoneType" | .bl _ => "bool" | .int _ => "int" | .str _ => "str" | .tup _ => "tuple" | .lst _ => "list" | .dct _ => "dict" | .ins .. => "?"
inductive Tn where | int | str | bool | tup | lst
def Tn.name : Tn → String | .int => "int" | .str => "str" | .bool => "bool" | .tup => "tuple" | .lst => "list"
def isT : Tn → D → Bool
  | .int, .int _ => true | .int, .bl _ => true | .str, .str _ => true | .bool, .bl _ => true | .tup, .tup _ => true | .lst, .lst _ => true | _, _ => false
def flatT (d : D) : Prop := match d with | .dct _ => False | .ins .. => False | _ => True
theorem tyx {H : Hp} {d : D} {v : V} (h : R K H d v) (f : flatT d) : TyX K H v (.type (tyName d)) := by
  cases d with
  | non => cases (show v = .non from h); exact .base .non
  | bl b => cases (show v = .bl b from h); exact .base (.bl b)
  | int i => cases (show v = .int i from h); exact .base (.int i)
  | str s => cases (show v = .str s from h); exact .base (.str s)
  | tup ds =>
    obtain ⟨a, vs, rfl, h1, _⟩ := h.tupE
    rcases h1 with (h1 | ⟨o, h1⟩) | ⟨o, its, n, h1, h2, _⟩
    · exact .base (.tup h1)
    · exact .fTuple h1
    · exact .kTuple h1 h2
  | lst ds =>
    obtain ⟨a, vs, rfl, h1, _⟩ := h.lstE
    exact .base (.lst h1)
  | dct _ => exact f.elim
  | ins _ _ => exact f.elim
theorem kit_t {T : Tn} {d : D} (f : flatT d) : PySem.W.kitOne K (.type (tyName d)) (.type T.name) = some (isT T d) := by
  cases T <;> cases d <;> first | exact f.elim | rfl | (with_unfolding_all rfl) | kernel_rfl
def kIsi (T : Tn) (q : D → Prop) (d : D) : Prop := match d with | .dct _ => False | .ins .. => False | d => q (.bl (isT T d))
theorem kIsi_e {T : Tn} {q : D → Prop} {d : D} (h : kIsi T q d) : flatT d ∧ q (.bl (isT T d)) := by cases d <;> first | exact h.elim | exact ⟨True.intro, h⟩
def wIsi (T : Tn) (w : WE) : WE := fun env q => w env (kIsi T q)
theorem call_isiK' (hK : X.K = K := by rfl) : CallR X (.builtin "isinstance") (rIsi K) := by subst hK; exact call_isi
theorem de_isi (T : Tn) {y : Str} {p2 : Pos} (ha : DE X e t w) (hg : Gl X "isinstance") (hm : X.mg "isinstance" = none) (hgT : Gl X y) (hmT : X.mg y = none) (hvT : bootBuiltins y = some (.type T.name)) (hn : y ≠ "__name__" := by decide) (hdb : (y == ("__debug__" : Str)) = false := by decide)
    (he : starEach [e, .Name y p2] X.env = (false, eval e X.env) :: starEach [.Name y p2] X.env := by rfl) (he2 : starEach [.Name y p2] X.env = (false, eval (.Name y p2) X.env) :: starEach [] X.env := by rfl) (hpl : (backTo pos (starEach [.Name y p2] X.env)).any (·.1) = false := by rfl) (hK : X.K = K := by rfl) :
    DE X (.Call (.Name "isinstance" p) [e, .Name y p2] [] pos) (tCB (rIsi K) (tCons t (tCons (tC (.ty T.name)) tNil))) (wIsi T w) :=
  ⟨pe_callB (call_isiK' hK) hg hm (by with_unfolding_all rfl) (pa_cons ha.pe (pa_cons (pe_bltn hgT hmT hvT rfl hn hdb) pa_nil he2) he) (by decide) (by decide) he hpl, fun c G H env σ Q q f hw k => by
    subst hK
    refine ha.snd c G H env σ _ _ f hw fun v d G1 H1 f1 g1 r1 hw1 => ?_
    obtain ⟨h1, h2⟩ := kIsi_e hw1
    exact ⟨v, .ty T.name, _, _, _, rfl, .ty _, tyx (r1.mono f1.gh) h1, kit_t h1, k _ _ G1 H1 f1 g1 R.bl_ h2⟩⟩
end
/-! ### sorted and max of plain data -/
section
variable {X : Cx} {e : Expr} {t : TE} {w : WE} {pos p : Pos}
def rSortDat (K : PySem.W.Frag) : List V → Hp → VK → Prop := fun vs H Q => ∃ (a : Addr) (β : Type) (bs : List β) (fv : β → V) (fk : β → PyData), vs = [.ref a] ∧ SqL K H a (bs.map fv) ∧ (∀ b ∈ bs, Dp K H (fv b) (fk b)) ∧
  PySem.W.AllAlike (bs.map fk) ∧ PySem.W.Sortable (bs.map fk) ∧ (∀ b ∈ bs, (fk b).depth ≤ 32) ∧
  ∀ (p : Addr), H p = none → Q (.ref p) (upd H p (.lst ((bs.mergeSort (PySem.W.dataLe false fk)).map fv)))
theorem cr_sortDat (hu : X.A.units + 64 < cLine) : CallR X (.builtin "sorted") (rSortDat X.K) := by
  intro pins s σ H vs us Q I r h
  obtain ⟨a, β, bs, fv, fk, rfl, hs, hit, hal, hso, hdp, q⟩ := h
  obtain rfl := Vals.ref1 r
  obtain ⟨its, rv, hl, hz⟩ := I.list hs
  obtain ⟨ts, rfl, rfl, hts⟩ := valsZip fv bs its rv
  have hz' : ts.length ≤ sizeLine := by simpa using hz
  have em : (ts.map (·.2)).map fk = ts.map (fun b : Value × β => fk b.2) := List.map_map
  rw [em] at hal hso
  have hrd : ∀ b ∈ ts, ∃ as, Reads s.heap b.1 (fk b.2) as := fun b hm => Dp.reads I _ _ _ (hit b.2 (List.mem_map_of_mem hm)) (hts b hm)
  refine PySem.W.sorted_data (R := fun v b => v = b.1 ∧ RelV (fv b.2) b.1) (bs := ts) (enc := fun b : Value × β => fk b.2) hl.isList (eachIs_map (·.1) ts fun b hm => ⟨rfl, hts b hm⟩) (eachIs_map (R := fun v b => ∃ as, Reads s.heap v (fk b.2) as) (·.1) ts hrd) hal hso hz' (fun b hm => ?_) fun out hlen eo => ?_
  · have := hdp b.2 (List.mem_map_of_mem hm)
    show X.A.units + 2 + (fk b.2).depth < cLine
    omega
  · have eu := eachIs_eq eo
    subst eu
    have hp := List.mergeSort_perm ts (PySem.W.dataLe false fun b : Value × β => fk b.2)
    have eb : (ts.mergeSort (PySem.W.dataLe false fun b : Value × β => fk b.2)).map (·.2) = (ts.map (·.2)).mergeSort (PySem.W.dataLe false fk) := PySem.W.sort_maps (fun b : Value × β => b.2) fun _ _ _ _ => rfl
    generalize ts.mergeSort (PySem.W.dataLe false fun b : Value × β => fk b.2) = ts' at hp eb
    have hv : ∀ l : List (Value × β), (∀ t ∈ l, RelV (fv t.2) t.1) → Vals ((l.map (·.2)).map fv) (l.map (·.1)) := by
      intro l
      induction l with
      | nil => intro _; exact .nil
      | cons b l ih => intro h; exact .cons (h b List.mem_cons_self) (ih fun x hx => h x (List.mem_cons_of_mem _ hx))
    have hl2 : ((ts'.map (·.2)).map fv).length ≤ sizeLine := by rw [List.length_map, List.length_map, hp.length_eq]; exact hz'
    obtain ⟨ep, he'⟩ := PyProof.Rows.sortedAll_at s.heap (ts.map (·.1)) (List.toArray (ts'.map (·.1)))
    refine ⟨.ref _, upd H (s.heap.objs.size + 1) (.lst ((ts'.map (·.2)).map fv)), I.laid (t' := s.toks) (fun _ _ => PyProof.Rows.sortedAll_old) (Nat.le_succ _) ⟨hl2, _, ep, hv ts' fun t ht => hts t (hp.mem_iff.mp ht), he'⟩, rfl, ?_⟩
    rw [eb]
    exact q _ (I.hok.fresh (Nat.le_succ _))
/-- the order of plain data -/
def dLe (d e : D) : Bool := PySem.W.dataLe false D.py d e
def kSortD (q : List D → Prop) (d : D) : Prop := match d with | .lst ds => (PySem.W.AllAlike (ds.map D.py) ∧ PySem.W.Sortable (ds.map D.py) ∧ ∀ z ∈ ds, Pu 31 z) ∧ q (ds.mergeSort dLe) | _ => False
def wSortD (w : WE) : WA := fun env q => w env (kSortD q)
theorem dn_sortD (hu : X.A.units + 64 < cLine) (hg : Gl X "sorted") (hm : X.mg "sorted" = none) (ha : DE X e t w) (he : starEach [e] X.env = (false, eval e X.env) :: starEach [] X.env := by rfl) (hpl : (backTo pos (starEach [] X.env)).any (·.1) = false := by rfl) :
    DN X (.Call (.Name "sorted" p) [e] [] pos) (tCB (rSortDat X.K) (tCons t tNil)) (wSortD w) :=
  ⟨pe_callB (cr_sortDat hu) hg hm (by with_unfolding_all rfl) (pa_cons ha.pe pa_nil he) (by decide) (by decide) he hpl, fun c G H env σ Q q f hw k => by
    refine ha.snd c G H env σ _ _ f hw fun v d G1 H1 f1 g1 r1 hw1 => ?_
    unfold kSortD at hw1
    split at hw1
    · rename_i ds
      obtain ⟨⟨h1, h2, h3⟩, hq⟩ := hw1
      obtain ⟨a, vs, rfl, e1, e2⟩ := r1.lstE
      obtain ⟨bs, rfl, rfl, hb⟩ := e2.zip
      have em : (bs.map fun b : V × D => b.2.py) = (bs.map (·.2)).map D.py := List.map_map.symm
      have es : (bs.mergeSort (PySem.W.dataLe false fun b : V × D => b.2.py)).map (·.2) = (bs.map (·.2)).mergeSort dLe := PySem.W.sort_maps (fun b : V × D => b.2) fun _ _ _ _ => rfl
      have hp := List.mergeSort_perm bs (PySem.W.dataLe false fun b : V × D => b.2.py)
      refine ⟨a, V × D, bs, (·.1), fun b => b.2.py, rfl, SqL.of (f1.gh _ _ e1), fun b hm => R.dp 31 _ _ (h3 _ (List.mem_map_of_mem hm)) ((hb b hm).mono f1.gh), by rw [em]; exact h1, by rw [em]; exact h2, fun b hm => Nat.le_trans (Pu.lay 31 _ (h3 _ (List.mem_map_of_mem hm))).2 (by decide), fun p hn => ?_⟩
      have g := f1.newH (o := .lst ((bs.mergeSort (PySem.W.dataLe false fun b : V × D => b.2.py)).map (·.1))) hn
      exact k p _ _ G1 _ (f1.step g) (g1.trans g) upd_same (RL.unzip _ fun b hm => hb b (hp.mem_iff.mp hm)) (f1.gnone hn) (f1.h0none hn) (g1.fresh hn) (f1.noOwn hn) (by rw [es]; exact hq)
    · exact hw1.elim⟩
def rMaxDat (K : PySem.W.Frag) : List V → Hp → VK → Prop := fun vs H Q => ∃ (a : Addr) (β : Type) (b0 : β) (bs : List β) (fv : β → V) (fk : β → PyData), vs = [.ref a] ∧ SqL K H a ((b0 :: bs).map fv) ∧ (∀ b ∈ b0 :: bs, Dp K H (fv b) (fk b)) ∧
  PySem.W.AlikeAll ((b0 :: bs).map fk) ∧ PyData.depthAll ((b0 :: bs).map fk) ≤ 32 ∧ ∀ b ∈ b0 :: bs, fk b = PySem.W.maxD (fk b0) (bs.map fk) → Q (fv b) H
theorem dpAll_of {K : PySem.W.Frag} {H : Hp} {β : Type} (fv : β → V) (fk : β → PyData) : ∀ bs : List β, (∀ b ∈ bs, Dp K H (fv b) (fk b)) → DpAll K H (bs.map fv) (bs.map fk)
  | [], _ => .nil
  | b :: bs, h => .cons (h b List.mem_cons_self) (dpAll_of fv fk bs fun x hx => h x (List.mem_cons_of_mem _ hx))
theorem cr_maxDat (hc : X.calm = true) (hu : X.A.units + 64 < cLine) : CallR X (.builtin "max") (rMaxDat X.K) := by
  intro pins s σ H vs us Q I r h
  obtain ⟨a, β, b0, bs, fv, fk, rfl, hs, hit, hal, hdp, q⟩ := h
  obtain rfl := Vals.ref1 r
  obtain ⟨its, rv, hl, hz⟩ := I.list hs
  obtain ⟨as, hrd⟩ := Dp.readsAll I _ _ _ (dpAll_of fv fk (b0 :: bs) hit) rv
  refine PySem.W.max_list_data (x := fk b0) (xs := bs.map fk) (I.ok.hd hc) hl.isList (by rw [List.toList_toArray]; exact hrd) hal (by have e := hdp; simp only [List.map_cons] at e; omega) fun i v h' tk bs' hv hr kp => ?_
  obtain ⟨ts, e1, e2, hts⟩ := valsZip fv (b0 :: bs) its rv
  subst e1
  have hv' : (ts.map (·.1))[i]? = some v := by simpa using hv
  rw [List.getElem?_map] at hv'
  cases et : ts[i]? with
  | none => rw [et] at hv'; cases hv'
  | some tb =>
    rw [et] at hv'
    cases hv'
    have hm := List.mem_of_getElem? et
    have hb : tb.2 ∈ b0 :: bs := by rw [e2]; exact List.mem_map_of_mem hm
    obtain ⟨as2, r2⟩ := Dp.reads I _ _ _ (hit tb.2 hb) (hts tb hm)
    have e3 := (PyProof.Rows.reads_det (fun b o e _ => kp b o e) r2 hr).1
    exact ⟨fv tb.2, H, I.kept (t' := tk) kp, hts tb hm, q tb.2 hb e3.symm⟩
def kMaxD (q : D → Prop) (d : D) : Prop := match d with | .lst (d :: ds) => (PySem.W.AlikeAll ((d :: ds).map D.py) ∧ PuL 31 (d :: ds)) ∧ ∀ z ∈ d :: ds, z.py = PySem.W.maxD d.py (ds.map D.py) → q z | _ => False
def wMaxD (w : WE) : WE := fun env q => w env (kMaxD q)
theorem pys_map : ∀ ds : List D, D.pys ds = ds.map D.py
  | [] => rfl
  | d :: ds => by unfold D.pys; rw [pys_map ds]; rfl
theorem de_maxD (hc : X.calm = true) (hu : X.A.units + 64 < cLine) (hg : Gl X "max") (hm : X.mg "max" = none) (ha : DE X e t w) (he : starEach [e] X.env = (false, eval e X.env) :: starEach [] X.env := by rfl) (hpl : (backTo pos (starEach [] X.env)).any (·.1) = false := by rfl) :
    DE X (.Call (.Name "max" p) [e] [] pos) (tCB (rMaxDat X.K) (tCons t tNil)) (wMaxD w) :=
  ⟨pe_callB (cr_maxDat hc hu) hg hm (by with_unfolding_all rfl) (pa_cons ha.pe pa_nil he) (by decide) (by decide) he hpl, fun c G H env σ Q q f hw k => by
    refine ha.snd c G H env σ _ _ f hw fun v d G1 H1 f1 g1 r1 hw1 => ?_
    unfold kMaxD at hw1
    split at hw1
    · rename_i d ds
      obtain ⟨⟨h1, h2⟩, hq⟩ := hw1
      obtain ⟨a, vs, rfl, e1, e2⟩ := r1.lstE
      obtain ⟨bs, rfl, eb, hb⟩ := e2.zip
      cases bs with
      | nil => cases eb
      | cons b0 bs =>
        have e3 : d = b0.2 ∧ ds = bs.map (·.2) := by simpa using eb
        obtain ⟨rfl, rfl⟩ := e3
        have em : (b0 :: bs).map (fun b : V × D => b.2.py) = (b0.2 :: bs.map (·.2)).map D.py := by rw [List.map_cons, List.map_cons, List.map_map]; rfl
        have em2 : bs.map (fun b : V × D => b.2.py) = (bs.map (·.2)).map D.py := List.map_map.symm
        have pu : ∀ b ∈ b0 :: bs, Pu 31 b.2 := fun b hm => by
          have : ∀ (l : List D), PuL 31 l → ∀ z ∈ l, Pu 31 z := by
            intro l
            induction l with
            | nil => intro _ z hz; cases hz
            | cons x l ih =>
              intro h z hz
              unfold PuL at h
              rcases List.mem_cons.mp hz with rfl | hz
              · exact h.1
              · exact ih h.2 z hz
          exact this _ h2 _ (by rw [← List.map_cons (f := fun b : V × D => b.2)]; exact List.mem_map_of_mem hm)
        refine ⟨a, V × D, b0, bs, (·.1), fun b => b.2.py, rfl, SqL.of (f1.gh _ _ e1), fun b hm => R.dp 31 _ _ (pu b hm) ((hb b hm).mono f1.gh), by rw [em]; exact h1, by rw [em, ← pys_map]; exact Nat.le_trans (PuL.lay 31 _ h2).2 (by decide), fun b hm e => ?_⟩
        rw [em2] at e
        exact k b.1 b.2 G1 H1 f1 g1 (hb b hm) (hq b.2 (by rw [← List.map_cons (f := fun b : V × D => b.2)]; exact List.mem_map_of_mem hm) e)
    · exact hw1.elim⟩
end
/-! ### a sign in a text -/
def wInS : WO := fun d e q => match d, e with | .str s, .str z => (match s.cps.toList with | [c] => q (.bl (decide (c ∈ z.cps.toList))) | _ => False) | _, _ => False
theorem so_inS {K : PySem.W.Frag} : SndO K (fun x y H Q => ∃ (c : Nat) (z : Str), x = .str ⟨#[c]⟩ ∧ y = .str z ∧ Q (.bl (decide (c ∈ z.cps.toList))) H) wInS := fun c G H env σ x y d e Q q f hx hy hw k => by
  unfold wInS at hw
  split at hw
  · rename_i s z
    split at hw
    · rename_i c0 e
      have es : s = ⟨#[c0]⟩ := by
        cases s with
        | mk cps => congr 1; exact Array.toList_inj.mp (by simpa using e)
      exact ⟨c0, z, by rw [hx.str, es], hy.str, k _ _ G H f (Gr.refl f) R.bl_ hw⟩
    · exact hw.elim
  · exact hw.elim
/-! ### == of texts: nothing more is asked -/
def wEqS : WO := fun d e q => match d, e with | .str a, .str b => (a = b → q (.bl true)) ∧ (a ≠ b → q (.bl false)) | _, _ => False
def wNeS : WO := fun d e q => match d, e with | .str a, .str b => (a ≠ b → q (.bl true)) ∧ (a = b → q (.bl false)) | _, _ => False
theorem so_eqS {K : PySem.W.Frag} : SndO K rEq wEqS := fun c G H env σ x y d e Q q f hx hy hw k => by
  unfold wEqS at hw
  split at hw
  · rename_i a b
    rw [hx.str, hy.str]
    refine ⟨rfl, ?_⟩
    by_cases h : a = b
    · subst h; rw [decide_eq_true rfl]; exact k _ _ G H f (Gr.refl f) R.bl_ (hw.1 rfl)
    · rw [decide_eq_false fun z => h (V.str.inj z)]; exact k _ _ G H f (Gr.refl f) R.bl_ (hw.2 h)
  · exact hw.elim
theorem so_neS {K : PySem.W.Frag} : SndO K rNe wNeS := fun c G H env σ x y d e Q q f hx hy hw k => by
  unfold wNeS at hw
  split at hw
  · rename_i a b
    rw [hx.str, hy.str]
    refine ⟨rfl, ?_⟩
    by_cases h : a = b
    · subst h; rw [decide_eq_true rfl]; exact k _ _ G H f (Gr.refl f) R.bl_ (hw.2 rfl)
    · rw [decide_eq_false fun z => h (V.str.inj z)]; exact k _ _ G H f (Gr.refl f) R.bl_ (hw.1 h)
  · exact hw.elim
end Y

/-! an exception class E(x) whose __init__ says super().__init__(text); self.x = x -/
namespace YX
open PySem PySem.W PySem.Calls PyProof.Rows PySem.Spec
abbrev exB : List Value := [.type "Exception", .type "BaseException", .type "object"]
theorem ns1_one {h : Heap} {dx : Addr} {fld : Str} {hsh : Int} {tk : Tok} {u : Value} {n : Nat} (e : h.get? dx = some (dictOf [⟨hsh, .str fld tk, u⟩] n)) : h.Ns1 dx (fun y => if y = fld then some u else none) := by
  refine ⟨_, _, _, e, rfl, fun x hx => ?_, ?_, fun name => ?_⟩
  · have : x = ⟨hsh, .str fld tk, u⟩ := by simpa using hx
    rw [this]; exact ⟨_, _, rfl⟩
  · exact List.pairwise_singleton _ _
  · unfold nsFind findBy
    by_cases h : name = fld
    · subst h; simp [Value.isStr]
    · simp [Value.isStr, h, Ne.symm h]
section
variable {P : Program} {w : World} {K : Frag} {mg : Str → Option Value} {base : Heap} {A : Around} {E : Value → Shared → Prop}
theorem x1_node {s : Shared} {h₀ : Heap} {L : Addr} {m : Str → Option Value} {news : List (Addr × Obj)} {x C D f cc cda : Addr} {ox : Obj} {odx : Option Obj} {body : List Stmt} {q : Str} {scope : Scope} {p0 p1 : Pos} {attr : Str} {whole : Sem Value} {fd : FuncData} {ar : Arg} {vs : Array Value} {file : Str} {tf : Tok} {oc ccl cl : Value} {od cdd cld : Option Addr} {osl ccs csl : Array (Option Value)} {cdD : ClassData} {Q : Value → Shared → Prop}
    (M : L2.Mod K mg base) (hb : ∀ b o, base.get? b = some o → h₀.get? b = some o) (F : Fr h₀ L s.heap m) (X₀ : K.In h₀) (N : News h₀ L s.heap news)
    (hf : K.lookup f = some ⟨oc, od, .func fd, osl⟩) (hp : (fd.params.posonlyargs ++ fd.params.args).head? = some ar) (hv : m ar.arg = some (.ref x)) (I : PySem.W.InstAt s.heap x ox C odx)
    (hcode : K.lookup cda = some ⟨ccl, cdd, .fields vs, ccs⟩) (hvs : vs[2]? = some (.str file tf)) (hfile : ((P.main.file : Str) == file) = true)
    (hcell : K.lookup cc = some ⟨cl, cld, .cell (some (.ref D)), csl⟩) (hD : clsIn K D = some cdD) (hsub : mroIn K C (.ref D) = some true) (hsuper : nsIn K mainGlobals "super" = some none)
    (hat : (attr == ("__class__" : Str)) = false) (hks : scope.names.lookup ("super" : Str) = some .globalImplicit) (hkc : scope.names.lookup ("__class__" : Str) = some .free) (hka : scope.names.lookup ar.arg = some .local) (hk : scope.kind = .function)
    (htop : (P.main.scope.names.lookup ("super" : Str)).isSome = false)
    (h : ∀ so h', Fr h₀ L h' m → News h₀ L h' ((so, ks_superObj D x C) :: news) → (∀ p ∈ news, p.1 < so) → Q (.ref so) { s with heap := h' }) :
    _root_.PySem.wpAt (model P w) A (.func body (ksEnv q scope L f (.ref cda) cc)) (attributeBase (.Call (.Name "super" p0) [] [] p1) attr (ksEnv q scope L f (.ref cda) cc) whole) Q E s := by
  have X : K.In s.heap := X₀.keeps F.keep
  obtain ⟨mb, hb1, hb2⟩ := M.blt
  have kk : ∀ b o, base.get? b = some o → s.heap.get? b = some o := fun b o e => F.keep b o (hb b o e)
  obtain ⟨hh, g, d, t, os⟩ := s
  obtain ⟨oD, hD1, hD2⟩ : ∃ oD, hh.get? D = some oD ∧ oD.data = .cls cdD := by
    unfold clsIn at hD
    split at hD
    · rename_i c d cd' sl ho
      cases hD
      exact ⟨_, X _ _ ho, rfl⟩
    · cases hD
  refine ks_wpAt_super_base (env := ksEnv q scope L f (.ref cda) cc) hks hkc hat rfl (X _ _ hf) rfl hp rfl (X _ _ hcode) rfl hvs hfile htop ?_
  refine ks_loadName_global hk hks (loadGlobal_builtin (env := ksEnv q scope L f (.ref cda) cc) (M.glob.keeps kk) (mg_none_of M.kin M.glob hsuper) (hb1.keeps kk) ((hb2 _ (by decide +kernel)).trans (show bootBuiltins "super" = some (.type "super") by first | rfl | kernel_rfl)) ⟨rfl, ?_⟩)
  refine wpAny_loadName_free hk hkc rfl ⟨_, X _ _ hcell, rfl⟩ ?_
  refine wpAny_loadName_local hk hka F.ns hv ?_
  refine ks_wpAny_isType_cls hD1 hD2 ⟨rfl, ?_⟩
  refine ks_wpAny_call_super hD1 hD2 I.at_ I.cls (fun c e => ?_) (looks_mroIn X hsub) (fun h' e k => ?_)
  · have := I.no
    unfold notCls at this
    rw [e] at this
    exact Bool.noConfusion this
  · obtain ⟨F', N', l'⟩ := ks_newsPush (s := ⟨hh, g, d, t, os⟩) F N rfl e k
    exact h _ _ F' N' l'
/-- def __init__(self, par): super().__init__(txt); self.fld = par -/
abbrev x1Body (self par fld txt : Str) (k : Nat) (p0 p1 p2 p3 p4 p5 p6 p7 p8 pe : Pos) : List Stmt :=
  [.Expr (.Call (.Attribute (.Call (.Name "super" p0) [] [] p1) "__init__" p2) [.Constant (.str txt) k pe] [] p3) p4, .Assign [.Attribute (.Name self p5) fld p6] (.Name par p7) p8]
/-- what the written part says of the class -/
structure X1 (P : Program) (K : Frag) (C : Addr) (fld : Str) : Prop where
  ex : ∃ (fI cda cc : Addr) (nm qual txt self par : Str) (params : Arguments) (scope : Scope) (k : Nat) (p0 p1 p2 p3 p4 p5 p6 p7 p8 pe : Pos) (dV kV doc pm ct oc ccl cl : Value) (an od cdd cld : Option Addr) (osl ccs csl : Array (Option Value)) (vs : Array Value) (file : Str) (tf : Tok) (cdD : ClassData) (ar : Arg),
    K.lookup fI = some ⟨oc, od, .func (ksFn nm qual params (x1Body self par fld txt k p0 p1 p2 p3 p4 p5 p6 p7 p8 pe) scope dV kV doc pm an (.ref cda) ct cc), osl⟩ ∧ codeIn K (.ref cda) qual = true ∧
    K.lookup cda = some ⟨ccl, cdd, .fields vs, ccs⟩ ∧ vs[2]? = some (.str file tf) ∧ ((P.main.file : Str) == file) = true ∧
    K.lookup cc = some ⟨cl, cld, .cell (some (.ref C)), csl⟩ ∧
    (∀ (s : Shared) (a b : Value), BindsTo s (ksFn nm qual params (x1Body self par fld txt k p0 p1 p2 p3 p4 p5 p6 p7 p8 pe) scope dV kV doc pm an (.ref cda) ct cc) ⟨[a, b], []⟩ [(self, a), (par, b)]) ∧
    (params.posonlyargs ++ params.args).head? = some ar ∧ ar.arg = self ∧ self ≠ par ∧
    scope.names.lookup ("super" : Str) = some .globalImplicit ∧ scope.names.lookup ("__class__" : Str) = some .free ∧ scope.names.lookup self = some .local ∧ scope.names.lookup par = some .local ∧
    (∀ x ∈ scope.names, x.2 ≠ .cell) ∧ scope.isCoroutine = false ∧ scope.isGenerator = false ∧ scope.kind = .function ∧
    (self == ("__debug__" : Str)) = false ∧ (par == ("__debug__" : Str)) = false ∧
    (∀ env : Env, ∃ pl : Sem Bool, eval (.Call (.Attribute (.Call (.Name "super" p0) [] [] p1) "__init__" p2) [.Constant (.str txt) k pe] [] p3) env = (do
      let ov ← attributeBase (.Call (.Name "super" p0) [] [] p1) "__init__" env (eval (.Call (.Name "super" p0) [] [] p1) env)
      standAt p2.atName
      let (f, first) ← holding [ov] (getMethod ov "__init__" pl)
      callWith p3 f first (backTo p3 (starEach [.Constant (.str txt) k pe] env)) [])) ∧
    (∀ env : Env, swapsWith (.Call (.Attribute (.Call (.Name "super" p0) [] [] p1) "__init__" p2) [.Constant (.str txt) k pe] [] p3) none p4.line env = pure false) ∧
    (∀ env : Env, swapsWith (.Name par p7) (some (.Attribute (.Name self p5) fld p6)) p8.line env = pure false) ∧
    (P.main.scope.names.lookup ("super" : Str)).isSome = false ∧ nsIn K mainGlobals "super" = some none ∧
    findIn K (.ref C) "__init__" = some (some (.ref fI)) ∧ isFn K (.ref fI) = true ∧ clsIn K C = some cdD
  q : excInitIn K C exB "Exception.__new__" = true
  sub : mroIn K C (.ref C) = some true
  sup : ks_superIn K C C "__init__" = some (some (.builtin "Exception.__init__"))
  subE : subIn K (.ref C) (.type "Exception") = some true
  any : nsIn K cStatics "thirdparty.any" = some none
  sa : findIn K (.ref C) "__setattr__" = some (some (.builtin "object.__setattr__"))
  over : excOver K C exB = true
  taker : takerIn K C fld = some none
  dict : hasDictIn K C = true
  subB : subIn K (.ref C) (.type "BaseException") = some true
  ty : typeIn K (.ref C) = some (.type "type")
  keep : keepIn K (.ref C) = true
theorem x1_call {s : Shared} {C : Addr} {fld : Str} {u : Value} {Q : Value → Shared → Prop} (M : L2.Mod K mg base) (hb : ∀ b o, base.get? b = some o → s.heap.get? b = some o) (T : X1 P K C fld)
    (hroom : A.depth + 1 < recursionLimit)
    (hq : ∀ e dx h' t' tk, s.heap.objs.size ≤ e → e < dx → (∀ b o, s.heap.get? b = some o → h'.get? b = some o) → h'.get? e = some (excObj C t' (some dx) .none) → h'.Ns1 dx (fun y => if y = fld then some u else none) →
      Q (.ref e) { s with heap := h', toks := tk }) : wpAny (model P w) A (call (.ref C) [u]) Q E s := by
  obtain ⟨fI, cda, cc, nm, qual, txt, self, par, params, scope, k, p0, p1, p2, p3, p4, p5, p6, p7, p8, pe, dV, kV, doc, pm, ct, oc, ccl, cl, an, od, cdd, cld, osl, ccs, csl, vs, file, tf, cdD, ar, lk, hcd, hc, hvs, hfile, hcell, hbind, hp, har, hne, hks, hkc, hself, hpar, hcells, hco, hgen, hk, dbs, dbp, hev, hs1, hs2, htop, hsup, hi, hf, hD⟩ := T.ex
  have X : K.In s.heap := M.kin.keeps hb
  obtain ⟨nm', N', qn, bs, bm, hdct, sn, sub, ab, col, dd, k0, k1, k2, k3, k5, hC, hT⟩ := excInit_of X T.q
  obtain ⟨hh, g, d, tk, os⟩ := s
  have hoI := X _ _ lk
  have hoc : oc = .type "function" := by
    have hf' : (K.lookup fI).map (·.cls) == some (.type "function") := hf
    rw [lk] at hf'
    simpa using hf'
  refine wpAny_call (PX.call_own F.excBase_Exception hT hC (looks_findIn X hi) (fun self => exc_bind hoI hoc self) (by rw [sizeLine_eq, List.length_singleton]; omega) ?_)
  have up : ∀ b o, hh.get? b = some o → ((hh.push (excTup [u])).push (excObj C hh.objs.size none .none)).get? b = some o := fun b o e => Heap.get?_push_of_some _ (Heap.get?_push_of_some _ e)
  have he : ((hh.push (excTup [u])).push (excObj C hh.objs.size none .none)).get? (hh.objs.size + 1) = some (excObj C hh.objs.size none .none) := Heap.get?_push_at (by rw [Heap.size_push]) rfl
  have X2 := X.keeps up
  show codeAny _ _ _ _ ⟨(hh.push (excTup [u])).push (excObj C hh.objs.size none .none), g, d, tk, os⟩
  generalize hH2 : (hh.push (excTup [u])).push (excObj C hh.objs.size none .none) = H2 at up he X2
  have hsz : H2.objs.size = hh.objs.size + 2 := by rw [← hH2, Heap.size_push, Heap.size_push]
  refine ks_codeAny_call_defAt (fd := ksFn nm qual params (x1Body self par fld txt k p0 p1 p2 p3 p4 p5 p6 p7 p8 pe) scope dV kV doc pm an (.ref cda) ct cc) (body := x1Body self par fld txt k p0 p1 p2 p3 p4 p5 p6 p7 p8 pe) (binds := [(self, .ref (hh.objs.size + 1)), (par, u)])
    (by rw [L2.make_depth]; exact hroom) (X2 _ _ lk) rfl (M.nolimit.keeps fun b o e => up b o (hb b o e)) (codeRec_of X2 hcd) rfl (hbind _ _ _) hcells (fun x hx => ?_) (fun h₁ hns hk₁ => ?_) hco hgen hk
  · rcases List.mem_cons.mp hx with rfl | hx
    · exact hself
    · rw [List.mem_singleton.mp hx]; exact hpar
  have nb : ∀ b o, hh.get? b = some o → b ∉ [hh.objs.size + 1] := fun b o e z => by
    have := Heap.lt_size e
    have z' : b = hh.objs.size + 1 := List.mem_singleton.mp z
    rw [z'] at this
    exact absurd this (Nat.not_lt.mpr (Nat.le_succ _))
  have st : ∀ b o, hh.get? b = some o → (hideAll H2 [hh.objs.size + 1]).get? b = some o := fun b o e => hideAll_get _ (up b o e) (nb b o e)
  have X0 : K.In (hideAll H2 [hh.objs.size + 1]) := X.keeps st
  have F0 : Fr (hideAll H2 [hh.objs.size + 1]) H2.objs.size h₁ (fun x => [(self, Value.ref (hh.objs.size + 1)), (par, u)].reverse.lookup x) := ⟨hns, fun b o e => hk₁ b o (of_hideAll _ e), Nat.le_of_eq (hideAll_size _ _)⟩
  have N0 : News (hideAll H2 [hh.objs.size + 1]) H2.objs.size h₁ [(hh.objs.size + 1, excObj C hh.objs.size none .none)] := fun p hp => by
    rw [List.mem_singleton.mp hp]
    exact ⟨hk₁ _ _ he, by show hh.objs.size + 1 ≠ H2.objs.size; omega, hideAll_none _ (by simp)⟩
  generalize hh0 : hideAll H2 [hh.objs.size + 1] = h0 at st X0 F0 N0
  have mself : (fun x => [(self, Value.ref (hh.objs.size + 1)), (par, u)].reverse.lookup x) self = some (.ref (hh.objs.size + 1)) := by
    show List.lookup self [(par, u), (self, Value.ref (hh.objs.size + 1))] = _
    rw [List.lookup_cons, show (self == par) = false from beq_false_of_ne hne]
    simp
  have mpar : (fun x => [(self, Value.ref (hh.objs.size + 1)), (par, u)].reverse.lookup x) par = some u := by
    show List.lookup par [(par, u), (self, Value.ref (hh.objs.size + 1))] = _
    rw [List.lookup_cons]; simp
  generalize (fun x => [(self, Value.ref (hh.objs.size + 1)), (par, u)].reverse.lookup x) = m at F0 mself mpar
  obtain ⟨pl, hpl⟩ := hev (ksEnv qual scope H2.objs.size fI (.ref cda) cc)
  refine ks_wpAt_execs_cons (ks_wpAt_Expr_any (hi := by first | rfl | (simp [interactive, callEnv, newEnv, hk]; done)) (hs := hs1 _) (ks_wpAt_MethodCall (he := hpl) (x1_node M (fun b o e => st b o (hb b o e)) F0 X0 N0 lk hp (by rw [har]; exact mself) (InstAt.of_exc0 N0 (.head _)) hc hvs hfile hcell hD T.sub hsup (by decide) hks hkc (by rw [har]; exact hself) hk htop fun so h' F1 N1 l1 => ?_)))
  have lso := l1 _ (.head _)
  refine kxs_method kxs_Exception F1 X0 N1 (.head _) (InstAt.of_exc0 N1 (.tail _ (.head _))) T.any T.sup T.subE (by decide) fun q h2 F2 N2 l2 => ?_
  have lq1 := l2 _ (.head _)
  have lq2 := l2 _ (.tail _ (.head _))
  refine kxs_callWith1 N2 (.head _) (PyProof.Rows.spliced_more (Calls.Constant_str (PyProof.Rows.spliced_none ⟨kxs_at N2 (.head _), ?_⟩)))
  refine kxs_call F2 X0 N2 F.excBase_Exception T.q (.head _) (.tail (by show q ≠ _; exact fun z => by rw [z] at lq2; exact absurd lq2 (Nat.lt_irrefl _)) (.tail (by show so ≠ _; exact fun z => by rw [z] at lso; exact absurd lso (Nat.lt_irrefl _)) (.head fun p hp => by cases hp))) (by rw [sizeLine_eq, List.length_singleton]; omega) fun t3 h3 F3 N3 l3 => ?_
  refine ks_wpAt_execs_cons (ks_wpAt_Assign_Attr (hs := hs2 _) (wpAt_of_wpAny (wpAny_Name (wpAny_loadName_local hk hpar F3.ns mpar (wpAny_Name (wpAny_loadName_local hk hself F3.ns mself ?_) dbs)) dbp)))
  refine set_exc0 (nw := _) (es' := _) (n' := _) F.store_Exception F3 X0 N3 (.tail _ (.tail _ (.tail _ (.head _)))) T.sa T.over T.taker T.dict rfl (.tail (by show t3 ≠ _; exact fun z => by have := l3 _ (.tail _ (.tail _ (.head _))); rw [z] at this; exact absurd this (Nat.lt_irrefl _)) (.tail (by show q ≠ _; exact fun z => by rw [z] at lq2; exact absurd lq2 (Nat.lt_irrefl _)) (.tail (by show so ≠ _; exact fun z => by rw [z] at lso; exact absurd lso (Nat.lt_irrefl _)) (.head fun p hp => by cases hp)))) (by show 1 ≤ 1000; decide) fun dx h4 F4 N4 l4 => ?_
  refine wpAt_of_wpAny (wpAny_execs_nil ⟨rfl, ?_⟩)
  exact hq _ dx h4 t3 _ (Nat.le_succ _) (l4 _ (.tail _ (.tail _ (.tail _ (.head _))))) (fun b o e => F4.keep b o (st b o e)) (N4 _ (.tail _ (.tail _ (.tail _ (.tail _ (.head _)))))).1 (ns1_one (N4 _ (.head _)).1)
/-- C(e), C of this kind -/
def tMkX (C : Addr) (fld : Str) (ta : L2.TA) : L2.St → L2.Hp → L2.XK → Prop := fun σ H Q => ta σ H fun vs H1 => ∃ v, vs = [v] ∧ ∀ d, H1 d = none → Q (.ref C) (some d) (L2.upd H1 d (.xd [(fld, v)]))
theorem pmk_x1 {X : L2.Cx} {x : Str} {C : Addr} {k : Nat} {fld : Str} {e : Expr} {es : List Expr} {ta : L2.TA} {p pos : Pos} (T : X1 X.prog X.K C fld) (hr : L2.Room (k + 1) X.A) (hg : L2.Gl X x) (hm : X.mg x = some (.ref C)) (ha : L2.PA X (e :: es) ta)
    (hdb : (x == ("__debug__" : Str)) = false := by decide) (he : starEach (e :: es) X.env = (false, eval e X.env) :: starEach es X.env := by rfl) (hpl : (backTo pos (starEach es X.env)).any (·.1) = false := by rfl) :
    L2.PMk X (.Call (.Name x p) (e :: es) [] pos) (tMkX C fld ta) := by
  intro pins s σ H Q I h
  refine wpAny_Call_Name_kw (L2.ld_glob I hg hm ?_ hdb)
  refine PySem.W.callWith_K (h₀ := X.base) I.ok.mod.kin T.keep (L2.thn (ha.run pos pins _ σ H _ (I.tok _) h) fun us s1 ⟨vs, H1, I1, r1, v, ev, q1⟩ => ⟨I1.kIn, ?_⟩) he hpl
  subst ev
  obtain ⟨u, rfl, ru⟩ : ∃ u, us = [u] ∧ L2.RelV v u := by
    cases r1 with
    | cons r rs => cases rs with
      | nil => exact ⟨_, rfl, r⟩
  show wpAny _ _ (call (.ref C) [u]) _ _ _
  refine x1_call I1.ok.mod I1.bk T (by have := hr.dp; omega) fun e dx h' t' tk le lt kk he hn => ?_
  have hen : H1 e = none := I1.hok.fresh le
  have hdn : H1 dx = none := I1.hok.fresh (Nat.le_of_lt (Nat.lt_of_le_of_lt le lt))
  obtain ⟨G, g1', g2'⟩ := L2.restrict h' fun b => decide (b ≠ e)
  have gk : ∀ b, b ≠ e → G.get? b = h'.get? b := fun b hb => g1' b (decide_eq_true hb)
  have ge : G.get? e = none := g2' e (by simp)
  have kG : ∀ b o, s1.heap.get? b = some o → G.get? b = some o := fun b o z => (gk b (Nat.ne_of_lt (Nat.lt_of_lt_of_le (Heap.lt_size z) le))).trans (kk b o z)
  have dne : dx ≠ e := Nat.ne_of_gt lt
  have J := I1.laid (t' := tk) (h' := G) (a := dx) (o := .xd [(fld, v)]) kG (Nat.le_of_lt (Nat.lt_of_le_of_lt le lt)) ⟨_, hn.at fun o y => (gk dx dne).trans y, fun f => by
    show L2.RelO (List.lookup f [(fld, v)]) _
    rw [L2.lookup_put]
    by_cases hf : f = fld
    · rw [if_pos hf, if_pos hf]; exact ru
    · rw [if_neg hf, if_neg hf]; trivial⟩
  refine ⟨e, _, _, _, _, .ref C, some dx, rfl, J, fun b o z => ?_, ge, he, ⟨rfl, rfl⟩, rfl, rfl, ?_, rfl, I1.bare, L2.raises_own T.subB T.ty, q1 dx hdn⟩
  · by_cases hb : b = e
    · rw [hb, ge] at z; cases z
    · exact (gk b hb).symm.trans z
  · rw [L2.upd_ne (Ne.symm dne)]; exact hen
end
end YX

/-! what may be raised -/
namespace Y
open PySem L2
/-- of an exception: class, fields, the slots where it arises -/
abbrev XQ := Value → List (Str × D) → List Sl → Prop
abbrev WSX := XQ → WS
abbrev WEX := XQ → WE
def LiftX (K : PySem.W.Frag) (c : Ctx) (xq : XQ) (W : WX) : Prop := ∀ (G H : Hp) (env : List Sl) (σ : L2.St) (cls : Value) (d : Addr) (fs : List (Str × D)) (ws : List (Str × V)), Fr K c G H env σ → G d = some (.xd ws) → RF K G fs ws → xq cls fs env → W cls (some d) σ H
def SndX (K : PySem.W.Frag) (W : WX) (t : TS) (w : WSX) : Prop := ∀ (c : Ctx) (G H : Hp) (env : List Sl) (σ : L2.St) (D : Ends) (E : DEnds) (xq : XQ), Fr K c G H env σ → LiftX K c xq W → w xq env E → Lift K c E D → t D σ H
def SndEX (K : PySem.W.Frag) (W : WX) (t : TE) (w : WEX) : Prop := ∀ (c : Ctx) (G H : Hp) (env : List Sl) (σ : L2.St) (Q : VK) (q : D → Prop) (xq : XQ), Fr K c G H env σ → LiftX K c xq W → w xq env q →
  (∀ v d G' H', Fr K c G' H' env σ → Gr K c.da G H G' H' → R K G' d v → q d → Q v H') → t σ H Q
structure DX1 (X : Cx) (W : WX) (st : Stmt) (t : TS) (w : WSX) : Prop where
  ps : PS X st t
  snd : SndX X.K W t w
structure DXs (X : Cx) (W : WX) (st : List Stmt) (t : TS) (w : WSX) : Prop where
  ps : PSs X st t
  snd : SndX X.K W t w
structure DEX (X : Cx) (W : WX) (e : Expr) (t : TE) (w : WEX) : Prop where
  pe : PE X e t
  snd : SndEX X.K W t w
section
variable {X : Cx} {W : WX} {e cnd : Expr} {es : List Expr} {t : TE} {w : WE} {wx : WEX} {tA : TA} {wA : WA} {tt : TT} {wt : WT} {st : Stmt} {A B rest body : List Stmt} {tS uS : TS} {wS vS : WS} {wX vX : WSX} {pos p : Pos} {x : Str} {C : Addr} {fld : Str} {k : Nat}
theorem dx_of1 (h : DS X st tS wS) : DX1 X W st tS (fun _ => wS) := ⟨h.ps, fun c G H env σ D E xq f _ hw L => h.snd c G H env σ D E f hw L⟩
theorem dx_of (h : DSs X A tS wS) : DXs X W A tS (fun _ => wS) := ⟨h.ps, fun c G H env σ D E xq f _ hw L => h.snd c G H env σ D E f hw L⟩
theorem dx_one (h : DX1 X W st tS wX) : DXs X W [st] tS wX := ⟨pss_one h.ps, h.snd⟩
theorem dx_nil : DXs X W [] tNext (fun _ => wNext) := dx_of dss_nil
theorem dx_cons (h1 : DX1 X W st tS wX) (h2 : DXs X W rest uS vX) : DXs X W (st :: rest) (tSeq tS uS) (fun xq => wThen (wX xq) (vX xq)) := ⟨pss_cons h1.ps h2.ps, fun c G H env σ D E xq f lx hw L =>
  h1.snd c G H env σ { D with nx := uS D } { E with nx := fun env' => vX xq env' E } xq f lx hw ⟨fun G' H' env' σ' f' hw' => h2.snd c G' H' env' σ' D E xq f' lx hw' L, L.rt, L.bk, L.ct⟩⟩
theorem dx_if (hc : DT X cnd tt wt) (ha : DXs X W A tS wX) (hb : DXs X W B uS vX) : DX1 X W (.If cnd A B pos) (tIfS tt tS uS) (fun xq => wIf wt (wX xq) (vX xq)) := ⟨ps_if hc.pt ha.ps hb.ps, fun c G H env σ D E xq f lx hw L => hc.snd c G H env σ _ _ f hw fun b G' H' f' s hq => by
  cases b with
  | true => exact iteT (ha.snd c G' H' env σ D E xq f' lx hq L)
  | false => exact iteF (hb.snd c G' H' env σ D E xq f' lx hq L)⟩
theorem rf_one {G : Hp} {d : D} {v : V} (r : R X.K G d v) : RF X.K G [(fld, d)] [(fld, v)] := by
  unfold RF
  exact ⟨v, [], rfl, r, by unfold RF; rfl⟩
/-- raise C(e), C an exception class with one field -/
def wRaise (C : Addr) (fld : Str) (wA : WA) : WSX := fun xq env E => wA env fun ds => match ds with | [d] => xq (.ref C) [(fld, d)] env | _ => False
theorem dx_raise {pos2 : Pos} (hc : X.calm = true) (tk : Takes X W) (T : YX.X1 X.prog X.K C fld) (hr : Room (k + 1) X.A) (hg : Gl X x) (hm : X.mg x = some (.ref C)) (ha : DA X (e :: es) tA wA)
    (hdb : (x == ("__debug__" : Str)) = false := by decide) (he : starEach (e :: es) X.env = (false, eval e X.env) :: starEach es X.env := by rfl) (hpl : (backTo pos (starEach es X.env)).any (·.1) = false := by rfl) :
    DX1 X W (.Raise (some (.Call (.Name x p) (e :: es) [] pos)) none pos2) (fun _ σ H => YX.tMkX C fld tA σ H fun cls d H' => W cls d σ H') (wRaise C fld wA) :=
  ⟨L2.ps_raise hc tk (YX.pmk_x1 T hr hg hm ha.pa hdb he hpl), fun c G H env σ D E xq f lx hw L => ha.snd c G H env σ _ _ f hw fun vs ds G1 H1 f1 s1 r1 hq => by
    split at hq
    · rename_i d
      obtain ⟨v, us, rfl, r2, r3⟩ := r1.consE
      cases r3.nilE
      refine ⟨v, rfl, fun dd hn => ?_⟩
      have g := f1.newG (o := .xd [(fld, v)]) hn
      exact lx _ _ env σ (.ref C) dd [(fld, d)] [(fld, v)] (f1.step g) upd_same (rf_one (r2.mono g.gg)) hq
    · exact hq.elim⟩
theorem dx_expr (h : DEX X W e t wx) (hs : swapsWith e none pos.line X.env = pure false := by rfl) : DX1 X W (.Expr e pos) (tDrop t) (fun xq => wExpr (wx xq)) :=
  ⟨ps_expr h.pe hs, fun c G H env σ D E xq f lx hw L => h.snd c G H env σ _ _ xq f lx hw fun v d G' H' f' s r hq => L.nx G' H' env σ f' hq⟩
theorem dx_ret (h : DEX X W e t wx) : DX1 X W (.Return (some e) pos) (tRet t) (fun xq => wRet (wx xq)) := ⟨ps_ret h.pe, fun c G H env σ D E xq f lx hw L => h.snd c G H env σ _ _ xq f lx hw fun v d G' H' f' s r hq => L.rt v d G' H' env σ f' r hq⟩
theorem dx_set {i : Nat} (hN : X.N.Nodup) (hi : X.N[i]? = some x) (hx : Loc X.env.scope x) (h : DEX X W e t wx) (hs : swapsWith e (some (.Name x p)) pos.line X.env = pure false := by rfl) (hf : X.fn x = true ∨ X.env.scope.names.lookup x = some .local := by first | exact .inl rfl | exact .inr rfl) :
    DX1 X W (.Assign [.Name x p] e pos) (tAsg t (gName i)) (fun xq => wSet i (wx xq)) := ⟨ps_set hN hi hx h.pe hs hf, fun c G H env σ D E xq f lx hw L => h.snd c G H env σ _ _ xq f lx hw fun v d G' H' f' s r hq => L.nx G' H' _ _ (f'.setD i r) hq⟩
/-- plain data in; out plain data or an exception -/
abbrev WDX := List D → (D → Prop) → (Value → List (Str × D) → Prop) → Prop
def spX (K : PySem.W.Frag) (Wd : WDX) : Sp := fun vs H Q E => ∃ (G : Hp) (ds : List D) (q : D → Prop) (xq : Value → List (Str × D) → Prop), Same G H ∧ RL K G ds vs ∧ Wd ds q xq ∧
  (∀ v d G' H', Same H H' → Same G G' → Same G' H' → (∀ a o, H a = some o → G a = none → G' a = none) → R K G' d v → q d → Q v H') ∧
  ∀ cls d fs ws G' H', Same H H' → Same G G' → Same G' H' → (∀ a o, H a = some o → G a = none → G' a = none) → G' d = some (.xd ws) → RF K G' fs ws → xq cls fs → E cls (some d) H'
structure Dx (P : Program) (w : World) (K : PySem.W.Frag) (mg : Str → Option Value) (base : Heap) (k : Nat) (x : Str) (ps : List Str) (Wd : WDX) : Prop where
  ex : ∃ f fd, FnOk P w K mg base (L2.CX P w) k f fd ps (spX K Wd) ∧ mg x = some (.ref f) ∧ PySem.W.keepIn K (.ref f) = true ∧ Binds K fd ps []
def wCallX (Wd : WDX) (wA : WA) : WEX := fun xq env q => wA env fun ds => Wd ds q fun cls fs => xq cls fs env
theorem de_clX {ps : List Str} {Wd : WDX} (F : Dx X.prog X.w X.K X.mg X.base k x ps Wd) (hr : Room k X.A) (hg : Gl X x) (tk : Takes X W) (ha : DA X (e :: es) tA wA) (hdb : (x == ("__debug__" : Str)) = false := by decide) (he : starEach (e :: es) X.env = (false, eval e X.env) :: starEach es X.env := by rfl) (hpl : (backTo pos (starEach es X.env)).any (·.1) = false := by rfl) :
    DEX X W (.Call (.Name x p) (e :: es) [] pos) (tCallS (spX X.K Wd) (L2.WE W) tA) (wCallX Wd wA) := by
  obtain ⟨f, fd, F, hm, hk, hb⟩ := F.ex
  refine ⟨pe_callS F hr hg hm hk hb (passAt tk) ha.pa hdb he hpl, fun c G H env σ Q q xq f lx hw k => ha.snd c G H env σ _ _ f hw fun vs ds G1 H1 f1 s1 r1 hq => ?_⟩
  refine ⟨G1, ds, q, _, f1.gh, r1, hq, fun v d G' H' h1 h2 h3 h4 r hq' => ?_, fun cls d fs ws G' H' h1 h2 h3 h4 hd r hx => ?_⟩
  · have g := gr_call f1 h1 h2 h3 h4
    exact k v d G' H' (f1.step g) (s1.trans g) r hq'
  · have g := gr_call f1 h1 h2 h3 h4
    exact lx G' H' env σ cls d fs ws (f1.step g) hd r hx
theorem de_clXK {K : PySem.W.Frag} {ps : List Str} {Wd : WDX} (F : Dx X.prog X.w K X.mg X.base k x ps Wd) (hr : Room k X.A) (hg : Gl X x) (tk : Takes X W) (ha : DA X (e :: es) tA wA) (hK : X.K = K := by rfl) (hdb : (x == ("__debug__" : Str)) = false := by decide) (he : starEach (e :: es) X.env = (false, eval e X.env) :: starEach es X.env := by rfl) (hpl : (backTo pos (starEach es X.env)).any (·.1) = false := by rfl) :
    DEX X W (.Call (.Name x p) (e :: es) [] pos) (tCallS (spX K Wd) (L2.WE W) tA) (wCallX Wd wA) := by subst hK; exact de_clX F hr hg tk ha hdb he hpl
/-- fault.f in the suite of `except C as fault` -/
def wXf (i : Nat) (a d : Addr) (f : Str) : WE := fun env q => match env[i]? with | some (.ex a' d' fs) => a' = a ∧ d' = d ∧ ∃ y, fs.lookup f = some y ∧ q y | _ => False
theorem rf_get {K : PySem.W.Frag} {G : Hp} {f : Str} {y : D} : ∀ {fs : List (Str × D)} {ws : List (Str × V)}, RF K G fs ws → fs.lookup f = some y → ∃ v, ws.lookup f = some v ∧ R K G y v
  | [], _, _, e => by cases e
  | (g, d) :: fs, ws, r, e => by
    unfold RF at r
    obtain ⟨v, r', rfl, h1, h2⟩ := r
    rw [List.lookup_cons] at e ⊢
    cases hb : f == g with
    | true => rw [hb] at e; cases e; exact ⟨v, rfl, h1⟩
    | false => rw [hb] at e; exact rf_get h2 e
theorem de_xf {a d : Addr} {oe : Obj} {pn : List (Addr × Obj)} {n y : Str} {i : Nat} (T : XfC X.K C) (hno : PySem.W.findIn X.K (.ref C) n = some none)
    (hz : Zc (.ref C) (some d) oe) (hf : ∃ vs, oe.data = .fields vs) (hv : PE (X.suite a ((a, oe) :: pn)) (.Name y p) (tVar i)) (hb : attributeBase (.Name y p) n X.env (eval (.Name y p) X.env) = eval (.Name y p) X.env := by rfl) :
    DE (X.suite a ((a, oe) :: pn)) (.Attribute (.Name y p) n pos) (tXf a (.ref C) (some d) C n (tVar i)) (wXf i a d n) :=
  ⟨pe_xf T hno hz hf hv hb, fun c G H env σ Q q f hw k => by
    unfold wXf at hw
    split at hw
    · rename_i a' d' fs e
      obtain ⟨rfl, rfl, y, hy, hq⟩ := hw
      obtain ⟨o, e1, rfl, ws, h1, h2⟩ := f.get e
      obtain ⟨v, l, r⟩ := rf_get h2 hy
      exact ⟨_, e1, rfl, rfl, _, ws, v, rfl, f.gh _ _ h1, l, k v y G H f (Gr.refl f) r hq⟩
    · exact hw.elim⟩
/-- try: body except C as n: suite -/
def wTry (i : Nat) (C : Value) (wb : WSX) (ws : Addr → Addr → WS) : WS := fun env E => wb (fun cls fs env' => cls = C ∧ ∀ a d, ws a d (env'.set i (.ex a d fs)) { nx := fun env2 => E.nx (env2.set i .no), rt := E.rt, bk := fun env2 => E.bk (env2.set i .no), ct := fun env2 => E.ct (env2.set i .no) }) env E
theorem ds_try {n : Str} {C : Value} {i : Nat} {b₀ : Stmt} {suite : List Stmt} {np pos' : Pos} {tb : WX → TS} {wb : WSX} {ts : Addr → Addr → TS} {ws : Addr → Addr → WS} (hs : X.stack = X.env :: X.outer) (hf : X.env.frame = some X.env.locals) (hN : X.N.Nodup) (hi : X.N[i]? = some n) (hln : X.env.kindOf n = some .local) (hc : Names X x C)
    (hex : PySem.W.exmOne X.K C C = some true)
    (hb : ∀ (W : WX) (pn : List (Addr × Obj)) (xe : Value → Shared → Prop), Takes (X.tr pn xe) W → DXs (X.tr pn xe) W body (tb W) wb)
    (hsu : ∀ (a d : Addr) (oe : Obj) (pn : List (Addr × Obj)), Zc C (some d) oe → (∃ vs, oe.data = .fields vs) → DSs (X.suite a ((a, oe) :: pn)) (b₀ :: suite) (ts a d) (ws a d)) :
    DS X (.Try body [.ExceptHandler (some (.Name x np)) (some n) (b₀ :: suite) pos'] [] [] pos) (fun D σ H => tb (wAs X.K C i (fun a cls d D' σ' H' => ∃ dd, cls = C ∧ d = some dd ∧ ts a dd D' σ' H') (fun _ _ _ _ => False) D) D σ H) (wTry i C wb ws) := by
  refine ⟨L2.ps_try_as hs hf hN hi hln hc (takes0 (X := X)) (fun W pn xe tk _ => (hb W pn xe tk).ps) (fun a oe cls d pn hz hfl => ⟨fun pins s σ H D I h => ?_⟩), fun c G H env σ D E f hw L => ?_⟩
  · obtain ⟨dd, rfl, rfl, h⟩ := h
    exact (hsu a dd oe pn hz hfl).ps.run pins s σ H D I h
  · refine (hb _ [] (fun _ _ => True) (fun _ _ _ => trivial)).snd c G H env σ D E _ f ?_ hw L
    rintro G' H' env' σ' cls d fs vs f' hd r ⟨rfl, hx⟩
    refine ⟨true, hex, fun _ a ha => ⟨d, rfl, rfl, ?_⟩, fun z => by cases z⟩
    exact (hsu a d ⟨cls, some d, .fields #[], #[]⟩ [] ⟨rfl, rfl⟩ ⟨_, rfl⟩).snd c G' H' _ _ _ _ (f'.set i (s := .ex a d fs) ⟨rfl, vs, hd, r⟩ fun b e => by cases e) (hx a d)
        ⟨fun G2 H2 env2 σ2 f2 hq => L.nx G2 H2 _ _ (f2.setNo i none) hq, L.rt, fun G2 H2 env2 σ2 f2 hq => L.bk G2 H2 _ _ (f2.setNo i none) hq, fun G2 H2 env2 σ2 f2 hq => L.ct G2 H2 _ _ (f2.setNo i none) hq⟩
end
section
variable {P : Program} {w : World} {K : PySem.W.Frag} {mg : Str → Option Value} {base : Heap}
theorem dxf_of {x : Str} {st : Stmt} {N ps : List Str} {k : Nat} {Wd : WDX} (h0 : Here K mg x ps st) (S : FnScope N ps (defScope st)) (hW : ∀ ds q xq, Wd ds q xq → ds.length = ps.length)
    (h : ∀ (f : Addr) (cdv : Value) (A : Around) (outer : List Env) (s : Shared) (H : Hp) (E : XK), Room k (A.deeper (PyProof.Rows.envOfC x (defScope st) s.heap.objs.size f cdv)) →
      ∃ t wS, DXs (cxOf (L2.CX P w) P w K mg base N x (defScope st) f cdv A outer s H E) (fun cls d _ H' => E cls d H') (defBody st) t wS ∧ ∀ ds q xq, Wd ds q xq → wS (fun cls fs _ => xq cls fs) (env0 N.length ds) { nx := fun _ => q .non, rt := q }) : Dx P w K mg base (k + 1) x ps Wd := by
  obtain ⟨f, fd, F, hm, hb⟩ := h0.ex
  refine ⟨f, fd, F.okX S (fun vs H Q E hsp => ?_) (fun cdv A outer s H vs Q E hr hsp => ?_), hm, F.kp, hb⟩
  · obtain ⟨G, ds, q, xq, _, r, hw, _⟩ := hsp
    rw [r.length]; exact hW ds q xq hw
  · obtain ⟨G, ds, q, xq, sg, r, hw, fin, finx⟩ := hsp
    obtain ⟨t, wS, D, hD⟩ := h f cdv A outer s H E hr
    refine ⟨t, D.ps, ?_⟩
    have hl : ds.length ≤ N.length := by
      rw [hW ds q xq hw]
      have := congrArg List.length S.pre
      rw [List.length_take] at this
      omega
    have f0 := fr_start N sg r hl
    refine D.snd _ G H _ _ _ _ _ f0 (fun G' H' env σ cls d fs ws f' hd rf hx => ?_) (hD ds q xq hw) ⟨fun G' H' env σ f' hq => fin _ _ G' H' (fun a o e => f'.hb a o e (by intro z; cases z)) f'.gg f'.gh f'.old R.non_ hq,
      fun v d G' H' env σ f' r' hq => fin v d G' H' (fun a o e => f'.hb a o e (by intro z; cases z)) f'.gg f'.gh f'.old r' hq, fun _ _ _ _ _ z => z.elim, fun _ _ _ _ _ z => z.elim⟩
    exact finx cls d fs ws G' H' (fun a o e => f'.hb a o e (by intro z; cases z)) f'.gg f'.gh f'.old hd rf hx
end
end Y

/-! enumerate of lists and tuples -/
namespace YE
open PySem PySem.Spec PyProof.Rows L2
theorem meets_enum1 {v : Value} {o : Obj} {H : Heap → Prop} (B : Begins v o H) :
    Meets (Builtin.«enumerate.__new__» ⟨[.type "enumerate", v], []⟩) (fun _ R s => H s.heap ∧
      R (.ok (.ret (.ref (s.heap.push o).objs.size))) { s with heap := (s.heap.push o).push { cls := .type "enumerate", data := .fields #[.none, .bool false, .ref s.heap.objs.size, rawInt 0, .none, .none] } }) :=
  .of_wp fun prog w A R s h => by
    obtain ⟨hp, g, d, tk, os⟩ := s; obtain ⟨h1, h⟩ := h
    have hsub := sub_enumerate
    have q1 : ∀ {A' : Around} {E : Value → Shared → Prop} {Q : Value → Shared → Prop}, Q (.ref hp.objs.size) ⟨hp.push o, g, d, tk, os⟩ → wpAny (model prog w) A' (pyIter v) Q E ⟨hp, g, d, tk, os⟩ :=
      fun q => B.iter prog w _ _ ⟨hp, g, d, tk, os⟩ _ h1 q
    wp_walk using q1
    refine wpAny_stack_any fun st => wpAny_pure ?_
    split
    · rename_i c _ _ _ _ _
      cases (c == Value.type "enumerate")
      · wp_walk using q1
        exact ⟨_, rfl, h⟩
      · wp_walk using q1
        exact ⟨_, rfl, h⟩
    · wp_walk using q1
      exact ⟨_, rfl, h⟩
section
variable {prog : Program} {w : World} {A : Around} {E : Value → Shared → Prop} {s : Shared}
theorem call_enumB {v : Value} {o : Obj} {H : Heap → Prop} {Q : Value → Shared → Prop} (B : Begins v o H) (h1 : H s.heap)
    (h : ∀ h', IsEnum h' (s.heap.objs.size + 1) s.heap.objs.size 0 .none → h'.get? s.heap.objs.size = some o → h'.objs.size = s.heap.objs.size + 2 →
      (∀ b o, s.heap.get? b = some o → h'.get? b = some o) → Q (.ref (s.heap.objs.size + 1)) { s with heap := h' }) :
    wpAny (model prog w) A (call (.type "enumerate") [v]) Q E s := by
  refine callType_new F.called_enumerate (by decide) (F.typeCall_enumerate_1 _) (F.newCall_enumerate_1 _) (fun obj => F.args_object_init_2 obj _) F.entry_enumerate_new
    (meets_enum1 B) ⟨h1, ?_⟩
  have hz : (s.heap.push o).objs.size = s.heap.objs.size + 1 := Heap.size_push ..
  show _ ∧ _
  rw [hz]
  have he : IsEnum ((s.heap.push o).push { cls := .type "enumerate", data := .fields #[.none, .bool false, .ref s.heap.objs.size, rawInt 0, .none, .none] }) (s.heap.objs.size + 1) s.heap.objs.size 0 .none := by
    have := Heap.get?_push_size (s.heap.push o) (o := { cls := .type "enumerate", data := .fields #[.none, .bool false, .ref s.heap.objs.size, rawInt 0, .none, .none] }) rfl
    rw [hz] at this; exact this
  refine ⟨⟨_, he, rfl⟩, h _ he (Heap.get?_push_of_some _ (Heap.get?_push_size _ B.free)) (by rw [Heap.size_push, hz]) fun b o x => Heap.get?_push_of_some _ (Heap.get?_push_of_some _ x)⟩
end
/-- the tuple at a as it stands at each turn, each item in a new pair -/
def IteT (K : PySem.W.Frag) (a : Addr) : It :=
  ⟨fun i H => ∃ (xs : List V) (x : V), SqT K H a xs ∧ xs[i]? = some x, fun i H v H' => ∃ T x, v = .ref T ∧ H T = none ∧ H' = upd H T (.tup [.int (i : Nat), x]) ∧ ∀ xs, SqT K H a xs → xs[i]? = some x, fun i H => ∃ xs : List V, SqT K H a xs ∧ xs.length = i⟩
theorem turn_enumT {P : Program} {w : World} {K : PySem.W.Frag} {elts : List Expr} {kk : Nat} {tpos : Pos} (a e it : Addr) :
    Turn P w K (.Tuple elts kk tpos) (IteT K a) [e, it] e (fun i h => (∃ old, IsEnum h e it ((i : Nat) : Int) old) ∧ h.IsTupleIter it a i ∧ e ≠ it ∧ a ≠ it ∧ e ≠ a) where
  mem := by simp
  obj := fun i h st b hb => by
    obtain ⟨⟨old, he⟩, ⟨o, ho, hc, hd⟩, _⟩ := st
    have e' : b = e ∨ b = it := by simpa using hb
    rcases e' with z | z
    · rw [z]; exact ⟨_, he, fun v q => nomatch q⟩
    · rw [z]; exact ⟨o, ho, fun v q => by rw [hd] at q; cases q⟩
  keep := fun i h h' st k => let ⟨⟨old, he⟩, hi, hne⟩ := st; ⟨⟨old, k e (by simp) _ he⟩, hi.at fun o q => k it (by simp) o q, hne⟩
  item := by
    intro X hP hw hK hc i pins s σ H E I hf st hg
    subst hP hw hK
    obtain ⟨⟨old, he⟩, hit, hne, hai, hea⟩ := st
    obtain ⟨xs, x, hq, hx⟩ := hg
    obtain ⟨its, rv, p, hz⟩ := I.tuple hq
    obtain ⟨u, hu, ru⟩ := rv.get hx
    have hel : e < s.heap.objs.size := Heap.lt_size he
    have hil : it < s.heap.objs.size := by obtain ⟨_, q, _⟩ := hit; exact Heap.lt_size q
    have hilt : i < its.toArray.size := by simpa using (List.getElem?_eq_some_iff.mp hu).1
    refine wpAny_pyNext_enum_itemD (Draws.tuple (A := X.A.in1) (I.ok.hd hc) it a hai its.toArray) he ⟨hit, p⟩ hilt hne (by simp [hne, hea]) fun x' h' tk hPx ho hit' hT hsz hk => ?_
    have ex : x' = u := by
      have : its.toArray[i]? = some x' := hPx
      rw [show its.toArray[i]? = some u from by simpa using hu] at this
      exact (Option.some.inj this).symm
    subst ex
    refine ⟨_, rfl, wpAny_letOwnedTupleGo_enum (s := { s with heap := h', toks := tk + 1 }) ho fun h'' he' sb => ?_⟩
    have hT2 : h''.get? s.heap.objs.size = some { cls := .type "tuple", data := .seq #[.int i tk, x'] } := (sb.2 _ (Nat.ne_of_gt hel)).trans hT
    have new : ObjOk X.prog X.w (upd H s.heap.objs.size (.tup [.int (i : Nat), x])) h'' s.heap.objs.size (.tup [.int (i : Nat), x]) :=
      ⟨by show 2 ≤ sizeLine; decide, [.int i tk, x'], .cons ⟨_, rfl⟩ (.cons ru .nil), ⟨_, hT2, rfl, _, rfl⟩⟩
    have I1 : Inv X pins σ (upd H s.heap.objs.size (.tup [.int (i : Nat), x])) { s with heap := h'', toks := tk + 1 } :=
      I.turnedNew (ch := [e, it]) (fun b ob hb q => (sb.2 b (fun z => hb (by simp [z]))).trans (hk b ob (fun z => hb (by simp [z])) (fun z => hb (by simp [z])) q)) hf (Nat.le_refl _) new
    refine ⟨.ref s.heap.objs.size, _, I1, rfl, ⟨_, x, rfl, I.hok.fresh (Nat.le_refl _), rfl, fun ys hy => by rw [I.tuple_inj hy hq]; exact hx⟩, ⟨⟨x', ?_⟩, hit'.1.at fun o q => (sb.2 it (Ne.symm hne)).trans q, hne, hai, hea⟩, fun b hb => ?_⟩
    · have e1 : ((i + 1 : Nat) : Int) = (i : Int) + 1 := by omega
      rw [e1]; exact he'
    · have hb' : b < s.heap.objs.size := by
        have e' : b = e ∨ b = it := by simpa using hb
        rcases e' with z | z
        · rw [z]; exact hel
        · rw [z]; exact hil
      rw [upd_ne (Nat.ne_of_lt hb')]
      exact (hf b hb).1
  done := by
    intro X hP hw hK hc i pins s σ H E I hf st hg
    subst hP hw hK
    obtain ⟨⟨old, he⟩, hit, hne, hai, hea⟩ := st
    obtain ⟨xs, hq, hx⟩ := hg
    obtain ⟨its, rv, p, hz⟩ := I.tuple hq
    obtain ⟨f0, f1, f2, f3, f4, f5⟩ := hf it (by simp)
    have hl := rv.length
    have e : its.toArray.size = i := by simp; omega
    exact wpAny_pyNext_enum_endD (n := its.toArray.size) (Draws.tuple (A := X.A.in1) (I.ok.hd hc) it a hai its.toArray) he ⟨e ▸ hit, p⟩ fun h' eb => ⟨rfl, I.turned (t' := s.toks) (fun b o hb q => eb b o hb q) f0 f1 f3 f4 f5⟩
  self := fun A i s Q E st h => let ⟨⟨_, he⟩, _⟩ := st; wpAny_pyIter_enum he h
def iEnumA (K : PySem.W.Frag) (ta : TA) : TI := fun σ H R => ta σ H fun vs H1 => ∃ a xs, vs = [.ref a] ∧ ((SqL K H1 a xs ∧ R (Ite K a) H1) ∨ (SqT K H1 a xs ∧ R (IteT K a) H1))
theorem pi_enumA {X : Cx} {e : Expr} {ta : TA} {p pos tpos : Pos} {elts : List Expr} {kk : Nat} (hg : Gl X "enumerate") (hm : X.mg "enumerate" = none) (ha : PA X [e] ta) (hs : starEach [e] X.env = [(false, eval e X.env)] := by rfl) :
    PI X (.Tuple elts kk tpos) (.Call (.Name "enumerate" p) [e] [] pos) (iEnumA X.K ta) := by
  refine ⟨fun pins s σ H R I h => ?_⟩
  refine Call_ (ld_blt I hg hm boot_enumerate (PyProof.Rows.callWith_type1 (thn (ha.run pos pins s σ H _ I h) fun us s1 ⟨vs, H1, I1, r1, q1⟩ => ?_) hs rfl))
  obtain ⟨a, xs, ex, q1⟩ := q1
  subst ex
  cases r1 with
  | cons r rr =>
    cases rr
    cases r
    have fp : ∀ b, b ∈ [s1.heap.objs.size + 1, s1.heap.objs.size] → FpOk X pins H1 b := fun b hb => by
      have e' : b = s1.heap.objs.size + 1 ∨ b = s1.heap.objs.size := by simpa using hb
      have hle : s1.heap.objs.size ≤ b := by
        rcases e' with z | z
        · rw [z]; exact Nat.le_add_right _ _
        · rw [z]; exact Nat.le_refl _
      exact I1.fpOk hle (I1.hok.fresh hle)
    rcases q1 with ⟨hq, q⟩ | ⟨hq, q⟩
    · obtain ⟨its, rv, p', hz⟩ := I1.list hq
      refine call_enumerate_list p'.isList fun h' he hit hsz hk => wpAny_pyIter_enum he ?_
      have I2 : Inv X pins σ H1 { s1 with heap := h' } := I1.kept (t' := s1.toks) hk
      exact ⟨s1.heap.objs.size + 1, [s1.heap.objs.size + 1, s1.heap.objs.size], _, _, H1, rfl, I2, turn_enum a (s1.heap.objs.size + 1) s1.heap.objs.size, ⟨⟨.none, he⟩, hit, Nat.succ_ne_self _⟩, fp, q⟩
    · obtain ⟨its, rv, p', hz⟩ := I1.tuple hq
      obtain ⟨o1, ho1, _⟩ := id p'
      have hlt : a < s1.heap.objs.size := Heap.lt_size ho1
      refine call_enumB (begins_tuple a its.toArray) p' fun h' he hit hsz hk => wpAny_pyIter_enum he ?_
      have I2 : Inv X pins σ H1 { s1 with heap := h' } := I1.kept (t' := s1.toks) hk
      exact ⟨s1.heap.objs.size + 1, [s1.heap.objs.size + 1, s1.heap.objs.size], _, _, H1, rfl, I2, turn_enumT a (s1.heap.objs.size + 1) s1.heap.objs.size, ⟨⟨.none, he⟩, ⟨_, hit, rfl, rfl⟩, Nat.succ_ne_self _, Nat.ne_of_lt hlt, Nat.ne_of_gt (Nat.lt_succ_of_lt hlt)⟩, fp, q⟩
end YE
namespace Y
open PySem L2
def enumD (ds : List D) : List D := (List.range ds.length).map fun i => .tup [.int (i : Nat), (ds[i]?).getD .non]
theorem enumD_get {ds : List D} {i : Nat} {d : D} (h : (enumD ds)[i]? = some d) : ∃ x, ds[i]? = some x ∧ d = .tup [.int (i : Nat), x] := by
  unfold enumD at h
  rw [List.getElem?_map] at h
  by_cases hi : i < ds.length
  · rw [List.getElem?_range hi] at h
    have e := List.getElem?_eq_getElem hi
    cases h
    exact ⟨_, e, by show D.tup [D.int (i : Nat), (ds[i]?).getD D.non] = _; rw [e]; rfl⟩
  · rw [List.getElem?_eq_none (by rw [List.length_range]; omega)] at h; cases h
theorem enumD_len {ds : List D} : (enumD ds).length = ds.length := by unfold enumD; rw [List.length_map, List.length_range]
section
variable {K : PySem.W.Frag} {X : Cx} {e : Expr} {tA : TA} {wA : WA} {pos : Pos}
theorem wk_enumL {c : Ctx} {P : Hp → Hp → Prop} {ds : List D} {a : Addr} (hP : ∀ G H, P G H → (∃ env σ, Fr K c G H env σ) ∧ ∃ vs, H a = some (.lst vs) ∧ RL K G ds vs) : Wk K c.da P (Ite K a) (enumD ds) := by
  refine ⟨fun G1 H1 p i d hd => ?_, fun G1 H1 p => ?_⟩
  · obtain ⟨⟨env, σ, f⟩, vs, h1, h2⟩ := hP G1 H1 p
    obtain ⟨x, e1, rfl⟩ := enumD_get hd
    obtain ⟨v, g1, g2⟩ := h2.get e1
    refine ⟨⟨vs, v, SqL.of h1, g1⟩, fun x H2 yy => ?_⟩
    obtain ⟨T, v', rfl, hT, rfl, k1⟩ := yy
    have e3 := one_of g1 (k1 _ (SqL.of h1))
    subst e3
    exact gr_pair f hT R.int_ g2
  · obtain ⟨_, vs, h1, h2⟩ := hP G1 H1 p
    exact ⟨vs, SqL.of h1, by rw [enumD_len, h2.length]; exact Nat.le_refl _⟩
theorem wk_enumT {c : Ctx} {P : Hp → Hp → Prop} {ds : List D} {a : Addr} (hP : ∀ G H, P G H → (∃ env σ, Fr K c G H env σ) ∧ ∃ vs, SqT K G a vs ∧ RL K G ds vs) : Wk K c.da P (YE.IteT K a) (enumD ds) := by
  refine ⟨fun G1 H1 p i d hd => ?_, fun G1 H1 p => ?_⟩
  · obtain ⟨⟨env, σ, f⟩, vs, h1, h2⟩ := hP G1 H1 p
    obtain ⟨x, e1, rfl⟩ := enumD_get hd
    obtain ⟨v, g1, g2⟩ := h2.get e1
    refine ⟨⟨vs, v, sqt_same f.gh h1, g1⟩, fun x H2 yy => ?_⟩
    obtain ⟨T, v', rfl, hT, rfl, k1⟩ := yy
    have e3 := one_of g1 (k1 _ (sqt_same f.gh h1))
    subst e3
    exact gr_pair f hT R.int_ g2
  · obtain ⟨⟨env, σ, f⟩, vs, h1, h2⟩ := hP G1 H1 p
    exact ⟨vs, sqt_same f.gh h1, by rw [enumD_len, h2.length]⟩
/-- enumerate of a list or of a tuple -/
def wEnum (wA : WA) : WA := fun env q => wA env fun ds => match ds with | [.lst xs] => q (enumD xs) | [.tup xs] => q (enumD xs) | _ => False
theorem di_enum {elts : List Expr} {kk : Nat} {p tpos : Pos} (hg : Gl X "enumerate") (hm : X.mg "enumerate" = none) (ha : DA X [e] tA wA) (hs : starEach [e] X.env = [(false, eval e X.env)] := by rfl) :
    DI X (.Tuple elts kk tpos) (.Call (.Name "enumerate" p) [e] [] pos) (YE.iEnumA X.K tA) (wEnum wA) := ⟨YE.pi_enumA hg hm ha.pa hs, fun c G H env σ Rr q f hw k => ha.snd c G H env σ _ _ f hw fun vs ds G' H' f' s r hq => by
  split at hq
  · obtain ⟨v, us, rfl, r1, r2⟩ := r.consE
    rw [r2.nilE]
    obtain ⟨a, vs, rfl, h1, h2⟩ := r1.lstE
    refine ⟨a, vs, rfl, .inl ⟨SqL.of (f'.gh _ _ h1), k _ _ G' H' f' s (wk_enumL fun G1 H1 p => ?_) hq⟩⟩
    obtain ⟨s1, env1, σ1, f1⟩ := p
    exact ⟨⟨env1, σ1, f1⟩, vs, f1.gh _ _ (s1 _ _ h1), RL.mono s1 _ _ h2⟩
  · obtain ⟨v, us, rfl, r1, r2⟩ := r.consE
    rw [r2.nilE]
    obtain ⟨a, vs, rfl, h1, h2⟩ := r1.tupE
    refine ⟨a, vs, rfl, .inr ⟨sqt_same f'.gh h1, k _ _ G' H' f' s (wk_enumT fun G1 H1 p => ?_) hq⟩⟩
    obtain ⟨s1, env1, σ1, f1⟩ := p
    exact ⟨⟨env1, σ1, f1⟩, vs, sqt_same s1 h1, RL.mono s1 _ _ h2⟩
  · exact hq.elim⟩
end
end Y

/-! rows of statements behind one another -/
namespace Y
open PySem L2
theorem wp_app {M : Model} {A : Around} {env : Env} {Q : Flow → Shared → Prop} {E : Value → Shared → Prop} {bs : List Stmt} (Γ) (hΓ : Γ.In A) : ∀ (as : List Stmt) (p : Pos) (s : Shared),
    Sem.wp M Γ (execs as env) (fun f _ s' => match f with | .next => wpAny M A (execs bs env) Q E s' | f => Q f s') (fun e _ s' => E e s') p s → Sem.wp M Γ (execs (as ++ bs) env) (fun f _ s' => Q f s') (fun e _ s' => E e s') p s
  | [], p, s, h => by
    have h' : wpAny M A (execs bs env) Q E s := h
    exact h' Γ p hΓ
  | a :: as, p, s, h => by
    rw [execs_cons, Sem.wp_bind'] at h
    rw [List.cons_append, execs_cons, Sem.wp_bind']
    refine Sem.wp_mono M Γ _ (fun f p' s' h' => ?_) (fun _ _ _ h' => h') _ _ h
    cases f with
    | next => exact wp_app Γ hΓ as p' s' h'
    | _ => exact h'
theorem wpAny_app {M : Model} {A : Around} {env : Env} {Q : Flow → Shared → Prop} {E : Value → Shared → Prop} {as bs : List Stmt} {s : Shared}
    (h : wpAny M A (execs as env) (fun f s' => match f with | .next => wpAny M A (execs bs env) Q E s' | f => Q f s') E s) : wpAny M A (execs (as ++ bs) env) Q E s := fun Γ p hΓ => wp_app Γ hΓ as p s (h Γ p hΓ)
section
variable {X : Cx} {as bs : List Stmt} {t u : TS} {wS vS : WS}
theorem pss_app (h1 : PSs X as t) (h2 : PSs X bs u) : PSs X (as ++ bs) (tSeq t u) := by
  refine ⟨fun pins s σ H D I h => ?_⟩
  refine wpAny_app (thn (h1.run pins s σ H { D with nx := u D } (I) h) fun f s1 q => ?_)
  cases f with
  | next =>
    obtain ⟨σ', H', I', q⟩ := q
    exact h2.run pins s1 σ' H' D I' q
  | ret v => exact q
  | brk => exact q
  | cont => exact q
theorem dss_app (h1 : DSs X as t wS) (h2 : DSs X bs u vS) : DSs X (as ++ bs) (tSeq t u) (wThen wS vS) := ⟨pss_app h1.ps h2.ps, fun c G H env σ D E f hw L =>
  h1.snd c G H env σ { D with nx := u D } { E with nx := fun env' => vS env' E } f hw ⟨fun G' H' env' σ' f' hw' => h2.snd c G' H' env' σ' D E f' hw' L, L.rt, L.bk, L.ct⟩⟩
end
end Y

namespace S02
open PySem L2 Y
def top (i : Nat) : Stmt := PySem.Challenge.pw_streamsure_k02_whole_cuts.main.body.getD i (.Pass ⟨0, 0, 0, 0⟩)
abbrev sBadPlace_init : Stmt := inClass (top 3) 0
abbrev sis_whole : Stmt := top 5
abbrev snumber_of : Stmt := top 9
abbrev swhole_text : Stmt := top 13
abbrev swhole_of : Stmt := top 14
abbrev storn : Stmt := top 15
abbrev snewest : Stmt := top 16
abbrev swith_text : Stmt := top 17
abbrev sL_number : Stmt := top 19
abbrev sL_take : Stmt := top 20
abbrev sL_pick : Stmt := top 21
abbrev slaw : Stmt := top 22
theorem same_new {H : Hp} {p : Addr} {o : HO} (h : H p = none) : Same H (upd H p o) := fun b u e => by rw [upd_ne (ne_of_none e h)]; exact e
structure DTxt (mg : Str → Option Value) : Prop where
  int : mg "int" = none
  len : mg "len" = none
  abs : mg "abs" = none
def spNumber (K : PySem.W.Frag) : Sp := fun vs H Q _ => ∃ (a : Addr) (ns : List Int) (i : Int), vs = [.ref a, .int i] ∧ SqL K H a (ns.map V.int) ∧ ∀ (v : Int) (H' : Hp), Same H H' → Q (.int v) H'
section
variable {P : Program} {w : World} {K : PySem.W.Frag} {mg : Str → Option Value} {base : Heap}
theorem dp_ints {K : PySem.W.Frag} {H : Hp} : ∀ ns : List Int, DpAll K H (ns.map V.int) (ns.map PyData.int)
  | [] => .nil
  | i :: r => .cons (.int i) (dp_ints r)
theorem scN : FnScope ["_law_script", "_law_index", "_law_cell", "_law_blend"] ["_law_script", "_law_index"] (defScope sL_number) := ⟨rfl, rfl, rfl, by decide +kernel, rfl, by decide +kernel, by decide +kernel⟩
theorem lay_ints : ∀ ns : List Int, PyData.canLayAll0 (ns.map PyData.int) = true
  | [] => rfl
  | i :: r => by
    show (PyData.canLay0 (.int i) && PyData.canLayAll0 (r.map PyData.int)) = true
    rw [lay_ints r]; rfl
theorem dep_ints : ∀ ns : List Int, PyData.depthAll (ns.map PyData.int) ≤ 1
  | [] => by decide
  | i :: r => by
    have h := dep_ints r
    show max (PyData.depth (.int i)) (PyData.depthAll (r.map PyData.int)) ≤ 1
    have e : PyData.depth (.int i) ≤ 1 := by first | (show 0 ≤ 1; decide) | (show 1 ≤ 1; decide)
    omega
theorem shp_ints (ns : List Int) : SeqAt.shaped (.list (ns.map PyData.int)) = true := by
  have h1 := lay_ints ns
  have h2 := dep_ints ns
  unfold SeqAt.shaped
  rw [Bool.and_eq_true]
  refine ⟨h1, decide_eq_true ?_⟩
  show PyData.depthAll (ns.map PyData.int) + 1 ≤ 64
  omega
theorem ok_number {f : Addr} {fd : FuncData} (F : Fun K "_law_number" "_law_number" sL_number f fd) (T : DTxt mg) : FnOk P w K mg base CX0 1 f fd ["_law_script", "_law_index"] (spNumber K) := by
  refine F.ok scN (fun vs H Q E h => ?_) (fun cdv A outer s H vs Q E hr h => ?_)
  · obtain ⟨a, ns, i, rfl, _⟩ := h
    rfl
  · obtain ⟨a, ns, i, rfl, hS, k⟩ := h
    refine ⟨_, pss_cons (ps_if (pt_cmpR (op_eqD hr.units) (pv 0) (pe_lst pa_nil) (nomark _)) (pss_one (ps_ret (pe_callTy call_int1 (by rfl) T.int (by decide +kernel) (pa_cons (pe_op op_mod (pe_op op_add (pe_op op_mul (pv 1) pe_int) pe_int) pe_int) pa_nil)))) pss_nil)
      (pss_cons (ps_set (i := 2) scN.nd rfl (Or.inl rfl) (pe_ix ix_list (pv 0) (pe_op op_mod (pv 1) (pe_callB call_len_seq (by rfl) T.len PySem.boot_len (pa_cons (pv 0) pa_nil))) (fun _ _ => rfl)))
      (pss_cons (ps_if (pt_cmpR op_ge (pe_callB call_abs (by rfl) T.abs (by decide +kernel) (pa_cons (pv 2) pa_nil)) (pe_op op_pow pe_int pe_int) (nomark _)) (pss_one (ps_set (i := 2) scN.nd rfl (Or.inl rfl) (pe_op op_mod (pv 2) (pe_op op_pow pe_int pe_int)))) pss_nil)
      (pss_cons (ps_set (i := 3) scN.nd rfl (Or.inl rfl) (pe_op op_mod (pe_op op_add (pe_op op_mul (pe_op op_add (pv 2) (pe_op op_mul pe_int (pv 1))) pe_int) (pe_op op_mul pe_int (pe_callB call_len_seq (by rfl) T.len PySem.boot_len (pa_cons (pv 0) pa_nil)))) pe_int))
      (pss_one (ps_ret (pe_callTy call_int1 (by rfl) T.int (by decide +kernel) (pa_cons (pe_op op_mod (pe_op op_add (pe_op op_mul (pe_op op_mod (pe_op op_mul (pv 3) pe_int) pe_int) pe_int) (pv 1)) pe_int) pa_nil))))))), ?_⟩
    refine ⟨_, rfl, Nat.zero_le _, fun p hp => ?_⟩
    have s1 : Same H (upd H p (.lst [])) := same_new hp
    refine ⟨.list (ns.map .int), .list [], .lst (s1.seq hS) (dp_ints ns), .lst (SqL.of upd_same) .nil, shp_ints ns, shp_ints [], _, rfl, ?_⟩
    cases ns with
    | nil =>
      refine iteT ?_
      refine ⟨_, rfl, _, _, rfl, rfl, .inr (by decide), _, _, rfl, rfl, _, _, rfl, rfl, (by show (0 : Int) < 2147483647; decide), .inl ⟨_, rfl, k _ _ s1⟩⟩
    | cons n0 r =>
      refine iteF ?_
      have hl : 0 < (((n0 :: r).map V.int).length : Int) := by simp only [List.map_cons, List.length_cons]; omega
      refine ⟨_, rfl, _, rfl, _, rfl, a, _, rfl, .inl (s1.seq hS), _, _, rfl, rfl, hl, ?_⟩
      have hm0 := Int.emod_nonneg i (Int.ne_of_gt hl)
      have hm1 := Int.emod_lt_of_pos i hl
      obtain ⟨j, hj⟩ : ∃ j : Nat, i % (((n0 :: r).map V.int).length : Int) = (j : Int) := ⟨_, (Int.toNat_of_nonneg hm0).symm⟩
      have hjl : j < (n0 :: r).length := by
        rw [hj, List.length_map] at hm1
        omega
      refine ⟨a, _, _, V.int ((n0 :: r)[j]), rfl, rfl, s1.seq hS, ?_, ?_⟩
      · rw [hj]
        refine atI_nat ?_
        rw [List.getElem?_map, List.getElem?_eq_getElem hjl]
        rfl
      · refine ⟨_, rfl, _, rfl, _, _, rfl, rfl, ⟨by decide, by decide, by decide⟩, _, _, rfl, rfl, _, rfl, ?_⟩
        refine ite2 (fun _ => ?_) (fun _ => ?_)
        · refine ⟨_, rfl, _, _, rfl, rfl, ⟨by decide, by decide, by decide⟩, _, _, rfl, rfl, (by show (0 : Int) < 10 ^ 18; decide), ?_⟩
          refine ⟨_, rfl, _, rfl, _, _, rfl, rfl, .inl (by decide), _, _, rfl, rfl, _, _, rfl, rfl, .inr (by decide), _, rfl, a, _, rfl, .inl (s1.seq hS), _, _, rfl, rfl, .inl (by decide), _, _, rfl, rfl, _, _, rfl, rfl, (by show (0 : Int) < 2147483647; decide), ?_⟩
          exact ⟨_, rfl, _, _, rfl, rfl, .inr (by decide), _, _, rfl, rfl, (by show (0 : Int) < 2147483629; decide), _, _, rfl, rfl, .inr (by decide), _, rfl, _, _, rfl, rfl, _, _, rfl, rfl, (by show (0 : Int) < 2147483587; decide), .inl ⟨_, rfl, k _ _ s1⟩⟩
        · refine ⟨_, rfl, _, rfl, _, _, rfl, rfl, .inl (by decide), _, _, rfl, rfl, _, _, rfl, rfl, .inr (by decide), _, rfl, a, _, rfl, .inl (s1.seq hS), _, _, rfl, rfl, .inl (by decide), _, _, rfl, rfl, _, _, rfl, rfl, (by show (0 : Int) < 2147483647; decide), ?_⟩
          exact ⟨_, rfl, _, _, rfl, rfl, .inr (by decide), _, _, rfl, rfl, (by show (0 : Int) < 2147483629; decide), _, _, rfl, rfl, .inr (by decide), _, rfl, _, _, rfl, rfl, _, _, rfl, rfl, (by show (0 : Int) < 2147483587; decide), .inl ⟨_, rfl, k _ _ s1⟩⟩

theorem get_list {X : Cx} : PGet X (rIxL X.K) := by
  intro pins s σ H x y v u Q I rx ry h
  obtain ⟨p, xs, i, z, rfl, rfl, hq, he, q⟩ := h
  cases rx
  obtain ⟨t, rfl⟩ := ry
  obtain ⟨its, r, pl, hz⟩ := I.list hq
  obtain ⟨j, h1, h2, h3, h4, h5⟩ := atI_get he
  obtain ⟨w, ew, rw'⟩ := r.get h2
  have hl := r.length
  have hn := line63
  have fin : EP X pins σ Q w s := ⟨z, H, I, rw', q⟩
  by_cases h0 : 0 ≤ i
  · have hj : i.toNat = j := by
      rw [seqIndex_of h0 h5] at h1
      exact Option.some.inj h1
    exact wpAny_getItem_list pl.isList h0 (by omega) (by rw [hj]; simpa using ew) fin
  · have hj : (i + (its.toArray.size : Int)).toNat = j := by
      rw [seqIndex_neg (by omega) h4] at h1
      rw [List.size_toArray, ← hl]
      exact Option.some.inj h1
    exact wpAny_getItem_list_neg pl.isList (by omega) (by rw [List.size_toArray] <;> omega) (by omega) (by rw [hj]; simpa using ew) fin
theorem scT : FnScope ["_law_draw", "_law_many"] ["_law_draw", "_law_many"] (defScope sL_take) := ⟨rfl, rfl, rfl, by decide +kernel, rfl, by decide +kernel, by decide +kernel⟩
theorem dr_take (h0 : Here K mg "_law_take" ["_law_draw", "_law_many"] sL_take) (hN : Here K mg "_law_number" ["_law_script", "_law_index"] sL_number) (T : DTxt mg) : Dr P w K mg base 2 "_law_take" ["_law_draw", "_law_many"] wTake := by
  obtain ⟨f, fd, F, hmT, hbT⟩ := h0.ex
  obtain ⟨fN, fdN, FN, mN, bN⟩ := hN.ex
  have GN : FnOk P w K mg base CX0 1 fN fdN ["_law_script", "_law_index"] (spNumber K) := ok_number FN T
  refine ⟨f, fd, F.ok scT (fun vs H Q E h => ?_) (fun cdv A outer s H vs Q E hr h => ?_), hmT, F.kp, hbT⟩
  · obtain ⟨G, a, us, ds, q, rfl, _, _, r, ⟨m, rfl, _⟩, _⟩ := h
    rw [List.length_cons, r.length]; rfl
  · obtain ⟨G, d, us, ds, q, rfl, sg, ⟨gn, a, n, ns, hd, hSG⟩, r, ⟨m, rfl, hm, hq⟩, fin⟩ := h
    obtain ⟨v0, us', rfl, rv, r2⟩ := r.consE
    cases r2.nilE
    cases (show v0 = V.int m from rv)
    have sG1 : ∀ o, Same G (upd H d o) := fun o b u e => by
      have nb : b ≠ d := fun z => by rw [z, gn] at e; cases e
      rw [upd_ne nb]; exact sg b u e
    refine ⟨_, pss_cons (ps_augS (pv 0) pe_int get_list pe_int ip_add set_list)
      (pss_one (ps_ret (pe_op op_mod (pe_callTy call_int1 (by rfl) T.int (by decide +kernel) (pa_cons (pe_call GN hr rfl mN FN.kp bN .nil pass0 (pa_cons (pe_ix ix_list (pv 0) pe_int (fun _ _ => rfl)) (pa_cons (pe_callTy call_int1 (by rfl) T.int (by decide +kernel) (pa_cons (pe_ix ix_list (pv 0) pe_int (fun _ _ => rfl)) pa_nil)) pa_nil))) pa_nil)) (pv 1)))), ?_⟩
    have hd1 : (upd H d (.lst [.ref a, .int (n + 1)])) d = some (.lst [.ref a, .int (n + 1)]) := upd_same
    have hS1 := (sG1 (.lst [.ref a, .int (n + 1)])).seq hSG
    refine ⟨_, rfl, d, _, 1, .int n, rfl, rfl, SqL.of hd, rfl, n, 1, rfl, rfl, d, _, 1, 1, rfl, rfl, hd, rfl, ?_⟩
    refine ⟨_, rfl, d, _, 0, .ref a, rfl, rfl, SqL.of hd1, rfl, ?_⟩
    refine ⟨_, rfl, d, _, 1, .int (n + 1), rfl, rfl, SqL.of hd1, rfl, .inl ⟨_, rfl, a, ns, _, rfl, hS1, fun v H' s' => ?_⟩⟩
    refine .inl ⟨v, rfl, _, rfl, v, m, rfl, rfl, hm, ?_⟩
    exact fin _ (.int (v % m)) G H' (fun b o hb nb => s' b o (by rw [upd_ne nb]; exact hb)) (Same.refl G) ((sG1 _).trans s') (fun _ _ _ n => n) ⟨gn, a, n + 1, ns, s' _ _ hd1, hSG⟩ R.int_ (hq _ (Int.emod_nonneg v (Int.ne_of_gt hm)) (Int.emod_lt_of_pos v hm))
end
end S02

namespace S02
open PySem L2 Y
/-! the plain law: a whole text that is cut, another's rest behind the cut -/
abbrev W3 (A B C : List Nat) : List Nat := A ++ 10 :: (B ++ 10 :: (C ++ [10]))
theorem free_uniq : ∀ {A A' R R' : List Nat}, 10 ∉ A → 10 ∉ A' → A ++ 10 :: R = A' ++ 10 :: R' → A = A' ∧ R = R'
  | [], [], _, _, _, _, h => ⟨rfl, by simpa using h⟩
  | [], b :: A', _, _, _, h', h => by
    have : (10 : Nat) = b := by simpa using congrArg List.head? h
    exact (h' (by rw [this]; exact List.mem_cons_self)).elim
  | a :: A, [], _, _, h', _, h => by
    have : a = 10 := by simpa using congrArg List.head? h
    exact (h' (by rw [this]; exact List.mem_cons_self)).elim
  | a :: A, b :: A', R, R', h1, h2, h => by
    have e : a = b ∧ A ++ 10 :: R = A' ++ 10 :: R' := by simpa using h
    obtain ⟨e1, e2⟩ := free_uniq (fun z => h1 (List.mem_cons_of_mem _ z)) (fun z => h2 (List.mem_cons_of_mem _ z)) e.2
    exact ⟨by rw [e.1, e1], e2⟩
theorem cnt_free {A : List Nat} (h : 10 ∉ A) : A.count 10 = 0 := List.count_eq_zero.mpr h
theorem take_low {A R : List Nat} {c : Nat} (h : 10 ∉ A) (h0 : ((A ++ 10 :: R).take c).count 10 = 0) : (A ++ 10 :: R).take c = A.take c ∧ (A ++ 10 :: R).drop c = A.drop c ++ 10 :: R := by
  have hc : c ≤ A.length := by
    rcases Nat.lt_or_ge A.length c with g | g
    · exfalso
      have e : (A ++ 10 :: R).take c = A ++ 10 :: R.take (c - A.length - 1) := by
        rw [List.take_append, List.take_of_length_le (by omega)]
        obtain ⟨k, hk⟩ : ∃ k, c - A.length = k + 1 := ⟨c - A.length - 1, by omega⟩
        rw [hk, List.take_succ_cons]; rfl
      rw [e, List.count_append, List.count_cons_self] at h0
      omega
    · exact g
  rw [List.take_append, List.drop_append, show c - A.length = 0 from by omega]
  simp
theorem take_high {A R : List Nat} {c : Nat} (h : 10 ∉ A) (h0 : 1 ≤ ((A ++ 10 :: R).take c).count 10) : ∃ k, (A ++ 10 :: R).take c = A ++ 10 :: R.take k ∧ (A ++ 10 :: R).drop c = R.drop k := by
  rcases Nat.lt_or_ge A.length c with g | g
  · obtain ⟨k, hk⟩ : ∃ k, c - A.length = k + 1 := ⟨c - A.length - 1, by omega⟩
    refine ⟨k, ?_, ?_⟩
    · rw [List.take_append, List.take_of_length_le (by omega), hk, List.take_succ_cons]
    · rw [List.drop_append, List.drop_of_length_le (by omega), hk]; rfl
  · exfalso
    rw [List.take_append, show c - A.length = 0 from by omega, List.take_zero, List.append_nil] at h0
    have : (A.take c).count 10 = 0 := cnt_free fun z => h (List.mem_of_mem_take z)
    omega
theorem cnt3 {A B C : List Nat} (a : 10 ∉ A) (b : 10 ∉ B) (c : 10 ∉ C) : (W3 A B C).count 10 = 3 := by
  simp only [W3, List.count_append, List.count_cons_self, cnt_free a, cnt_free b, cnt_free c, List.count_nil]
theorem prefix_no {X Y Z A B C : List Nat} {k : Nat} (x : 10 ∉ X) (y : 10 ∉ Y) (z : 10 ∉ Z) (a : 10 ∉ A) (b : 10 ∉ B) (c : 10 ∉ C) (hk : k < (W3 X Y Z).length) (h : (W3 X Y Z).take k = W3 A B C) : False := by
  have e : W3 X Y Z = (X ++ 10 :: (Y ++ 10 :: Z)) ++ [10] := by simp [W3]
  have h1 : (W3 X Y Z).take k = (X ++ 10 :: (Y ++ 10 :: Z)).take k := by
    rw [e, List.take_append, show k - (X ++ 10 :: (Y ++ 10 :: Z)).length = 0 from by rw [e, List.length_append] at hk; simp only [List.length_cons, List.length_nil] at hk; omega]
    simp
  have h2 : ((X ++ 10 :: (Y ++ 10 :: Z)).take k).count 10 ≤ (X ++ 10 :: (Y ++ 10 :: Z)).count 10 := (List.take_sublist _ _).count_le _
  have h3 : (X ++ 10 :: (Y ++ 10 :: Z)).count 10 = 2 := by simp only [List.count_append, List.count_cons_self, cnt_free x, cnt_free y, cnt_free z]
  have h4 := cnt3 a b c
  rw [← h, h1] at h4
  omega
theorem overlay {E X0 Y0 X1 Y1 A B C : List Nat} {k : Nat} (x0 : 10 ∉ X0) (y0 : 10 ∉ Y0) (x1 : 10 ∉ X1) (y1 : 10 ∉ Y1) (e0 : 10 ∉ E) (a : 10 ∉ A) (b : 10 ∉ B) (c : 10 ∉ C) (ne : X0 ≠ X1) (hC : C = E ++ A)
    (h : (W3 X0 Y0 (E ++ X0)).take k ++ (W3 X1 Y1 (E ++ X1)).drop k = W3 A B C) : W3 A B C = W3 X0 Y0 (E ++ X0) ∨ W3 A B C = W3 X1 Y1 (E ++ X1) := by
  have z0 : 10 ∉ E ++ X0 := fun z => (List.mem_append.mp z).elim e0 x0
  have z1 : 10 ∉ E ++ X1 := fun z => (List.mem_append.mp z).elim e0 x1
  have c3 := cnt3 a b c
  have c31 := cnt3 x1 y1 z1
  rw [← List.take_append_drop k (W3 X1 Y1 (E ++ X1)), List.count_append] at c31
  rw [← h, List.count_append] at c3
  have ec : ((W3 X0 Y0 (E ++ X0)).take k).count 10 = ((W3 X1 Y1 (E ++ X1)).take k).count 10 := by omega
  rcases Nat.eq_zero_or_pos (((W3 X0 Y0 (E ++ X0)).take k).count 10) with g | g
  · obtain ⟨t1, d1⟩ := take_low x0 g
    obtain ⟨t2, d2⟩ := take_low x1 (ec ▸ g)
    rw [t1, d2, ← List.append_assoc] at h
    obtain ⟨h1, h2⟩ := free_uniq (fun z => (List.mem_append.mp z).elim (fun z => x0 (List.mem_of_mem_take z)) fun z => x1 (List.mem_of_mem_drop z)) a h
    obtain ⟨h3, h4⟩ := free_uniq y1 b h2
    have h5 : E ++ X1 = C := List.append_cancel_right h4
    rw [hC] at h5
    have h6 : X1 = A := by simpa using h5
    right
    rw [hC, ← h6, ← h3]
  · obtain ⟨k0, t1, d1⟩ := take_high x0 g
    obtain ⟨k1, t2, d2⟩ := take_high x1 (by rw [← ec]; exact g)
    rw [t1, d2, List.append_assoc, List.cons_append] at h
    obtain ⟨h1, h2⟩ := free_uniq x0 a h
    have ec2 : ((Y0 ++ 10 :: ((E ++ X0) ++ [10])).take k0).count 10 = ((Y1 ++ 10 :: ((E ++ X1) ++ [10])).take k1).count 10 := by
      rw [t1, t2] at ec
      simp only [List.count_append, List.count_cons_self, cnt_free x0, cnt_free x1] at ec
      omega
    rcases Nat.eq_zero_or_pos (((Y0 ++ 10 :: ((E ++ X0) ++ [10])).take k0).count 10) with g2 | g2
    · exfalso
      obtain ⟨t3, d3⟩ := take_low y0 g2
      obtain ⟨t4, d4⟩ := take_low y1 (ec2 ▸ g2)
      rw [t3, d4, ← List.append_assoc] at h2
      obtain ⟨h3, h4⟩ := free_uniq (fun z => (List.mem_append.mp z).elim (fun z => y0 (List.mem_of_mem_take z)) fun z => y1 (List.mem_of_mem_drop z)) b h2
      have h5 : E ++ X1 = C := List.append_cancel_right h4
      rw [hC, ← h1] at h5
      have h6 : X1 = X0 := by simpa using h5
      exact ne h6.symm
    · obtain ⟨k2, t3, d3⟩ := take_high y0 g2
      rw [t3, List.append_assoc, List.cons_append] at h2
      obtain ⟨h3, _⟩ := free_uniq y0 b h2
      left
      rw [hC, ← h1, ← h3]
end S02

namespace S02
open PySem L2 Y TL
theorem pu_ii {m n : Int} : Pu 32 (D.int m) ∧ Pu 32 (D.int n) := ⟨by unfold Pu; trivial, by unfold Pu; trivial⟩
local macro_rules | `(tactic| walk_at $_:str) => `(tactic| (conv => whnf) <;> repeat' (first
  | (refine And.intro (fun (hc : (_ : Prop)) => ?_) (fun (hc : (_ : Prop)) => ?_) <;> first | exact (d_ni hc).elim | exact (d_nt hc).elim | exact (d_nl hc).elim | exact (d_tc hc).elim | exact (d_lc hc).elim | exact (hc rfl).elim | (conv => whnf))
  | (refine And.intro (by first | exact dr_t rfl | with_reducible first | exact lz1 | exact lz2 | exact lz3 | exact lz0 | exact pu_ii | exact lq2 | exact lq1 | exact lq3 | exact lq5 | assumption | exact rfl) ?_ <;> (conv => whnf))
  | fail))
structure Cst (mg : Str → Option Value) (x : Str) (v : V) : Prop where
  ex : ∃ u, mg x = some u ∧ RelV v u
structure Txt (mg : Str → Option Value) : Prop where
  d : DTxt mg
  len : mg "len" = none
  range : mg "range" = none
  tuple : mg "tuple" = none
  all : mg "all" = none
  max : mg "max" = none
  int : mg "int" = none
  str : mg "str" = none
  bool : mg "bool" = none
  isinstance : mg "isinstance" = none
  enumerate : mg "enumerate" = none
  sorted : mg "sorted" = none
  figures : Cst mg "FIGURES" (.str "0123456789")
  most : Cst mg "MOST_FIGURES" (.int 4000)
  places : Cst mg "PLACES" (.int 2)
  end_ : Cst mg "END" (.str "end ")
abbrev WD := List D → (D → Prop) → Prop
def wWhole : WD := fun ds q => ∃ d : D, ds = [d] ∧ flatT d ∧ q (.bl (isT .int d && !isT .bool d))
def wNum : WD := fun ds q => ∃ s : Str, ds = [.str s] ∧ s.length ≤ 500 ∧ ∀ r : Option Int, (∀ m : Nat, r = some (m : Int) ↔ tl s = numL m) → q (oD r)
theorem tl_cut1 (s : Str) : tl (cutS s (some 1) none) = (tl s).drop 1 := by
  show ((tl s).drop (HT.sIx s.length 0 (some 1))).take (s.length - HT.sIx s.length 0 (some 1)) = _
  have e : HT.sIx s.length 0 (some 1) = min 1 s.length := HT.sIx_nat s.length 0 1
  rw [e, len_tl]
  generalize tl s = l
  cases l with
  | nil => rfl
  | cons a r =>
    rw [show min 1 (a :: r).length = 1 from by simp only [List.length_cons]; omega]
    show List.take _ r = r
    rw [List.take_of_length_le (by simp)]
theorem tl_cut0 (s : Str) : tl (cutS s none (some 1)) = (tl s).take 1 := by
  show ((tl s).drop 0).take (HT.sIx s.length s.length (some 1) - 0) = _
  have e : HT.sIx s.length s.length (some 1) = min 1 s.length := HT.sIx_nat s.length s.length 1
  rw [e, len_tl]
  generalize tl s = l
  cases l with
  | nil => rfl
  | cons a r => rw [show min 1 (a :: r).length = 1 from by simp only [List.length_cons]; omega]; rfl
def digB (c : Nat) : Bool := decide (48 ≤ c) && decide (c ≤ 57)
def digD (d : D) : Bool := match d with | .str s => (match tl s with | [c] => digB c | _ => false) | _ => false
theorem digs_tl : tl (Str.ofString "0123456789") = [48, 49, 50, 51, 52, 53, 54, 55, 56, 57] := by decide +kernel
theorem dig_in (c : Nat) : decide (c ∈ (Str.ofString "0123456789").cps.toList) = digB c := by
  rw [show (Str.ofString "0123456789").cps.toList = [48, 49, 50, 51, 52, 53, 54, 55, 56, 57] from digs_tl]
  unfold digB
  rw [← Bool.decide_and, decide_eq_decide]
  simp only [List.mem_cons, List.not_mem_nil, or_false]
  omega
theorem chars_dig (s : Str) : List.map (fun d => D.bl (digD d)) (chars s) = List.map D.bl ((tl s).map digB) := by
  unfold chars
  rw [List.map_map, List.map_map]
  rfl
theorem all_dig (s : Str) : ((tl s).map digB).all id = true ↔ NumText.AllDigits (tl s) := by
  rw [List.all_map, List.all_eq_true]
  unfold digB NumText.AllDigits
  constructor
  · intro h c hc
    have := h c hc
    simpa using this
  · intro h c hc
    have := h c hc
    simpa using this
theorem log_small {n : Int} {k : Nat} (h : n.natAbs < 10 ^ k) (hk : k ≤ 500) : n.natAbs.log2 < 1920 := by
  have h1 : n.natAbs < 2 ^ 1920 := Nat.lt_of_lt_of_le h (Nat.le_trans (Nat.pow_le_pow_right (by decide) hk) (by decide +kernel))
  by_cases z : n.natAbs = 0
  · rw [z]; decide
  · exact (Nat.log2_lt z).mpr h1
theorem val_lt : ∀ (n : Nat) (cs : List Nat), cs.length = n → NumText.AllDigits cs → NumText.digitsVal cs < 10 ^ cs.length := by
  intro n
  induction n with
  | zero => intro cs h _; rw [List.length_eq_zero_iff.mp h]; decide
  | succ n ih =>
    intro cs hl h
    rcases List.eq_nil_or_concat cs with rfl | ⟨l, a, rfl⟩
    · cases hl
    · rw [List.concat_eq_append] at *
      have hl2 : l.length = n := by rw [List.length_append, List.length_singleton] at hl; omega
      have h1 := ih l hl2 fun c hc => h c (List.mem_append_left _ hc)
      have h2 := h a (List.mem_append_right _ (List.mem_singleton.mpr rfl))
      rw [NumText.digitsVal_snoc, List.length_append, List.length_singleton, Nat.pow_succ]
      omega
theorem num_eq {s : Str} {m : Nat} (h : tl s = numL m) : s = (toString ((m : Nat) : Int) : Str) := ext_tl (h.trans (tl_num m).symm)
section
variable {P : Program} {w : World} {K : PySem.W.Frag} {mg : Str → Option Value} {base : Heap}
theorem sc_is_whole : FnScope ["thing"] ["thing"] (defScope sis_whole) := ⟨rfl, rfl, rfl, by decide +kernel, rfl, by decide +kernel, by decide +kernel⟩
-- slots: 0 thing
theorem ok_is_whole (T : Txt mg) (h0 : Here K mg "is_whole" ["thing"] sis_whole)  : Df P w K mg base 1 "is_whole" ["thing"] wWhole := by
  refine df_of h0 sc_is_whole (fun ds q h => by obtain ⟨d, rfl, _⟩ := h; rfl) fun f cdv A outer s H E hr => ⟨_, _,
  (dss_one (ds_ret (de_and (de_isi (K := K) .int (de_var 0) rfl T.isinstance rfl T.int (by with_unfolding_all rfl)) (de_one (de_not (de_isi (K := K) .bool (de_var 0) rfl T.isinstance rfl T.bool (by with_unfolding_all rfl))))))), fun ds q h => ?_⟩
  obtain ⟨d, rfl, hf, hq⟩ := h
  cases d <;> first | exact hf.elim | (walk_at "x"; exact hq)
theorem sc_number_of : FnScope ["word", "figures", "sign"] ["word"] (defScope snumber_of) := ⟨rfl, rfl, rfl, by decide +kernel, rfl, by decide +kernel, by decide +kernel⟩
-- slots: 0 word, 1 figures, 2 sign
theorem ok_number_of (T : Txt mg) (h0 : Here K mg "number_of" ["word"] snumber_of)  : Df P w K mg base 1 "number_of" ["word"] wNum := by
  obtain ⟨_, figures1, figures2⟩ := T.figures.ex
  obtain ⟨_, most1, most2⟩ := T.most.ex
  refine df_of h0 sc_number_of (fun ds q h => by obtain ⟨d, rfl, _⟩ := h; rfl) fun f cdv A outer s H E hr => ⟨_, _,
  (dss_cons (ds_set (i := 1) sc_number_of.nd rfl (by first | exact Or.inl rfl | exact Or.inr rfl) (de_ifE (dt_cmp op_eq so_eqS (DE.toB (de_sliceK (K := K) (db_var 0) do_none (do_some de_int))) (DE.toB de_str) (nomark _)) (de_sliceK (K := K) (db_var 0) (do_some de_int) do_none) (de_var 0)))
  (dss_cons (ds_if (DW.dt (dw_or (dt_cmp op_eq so_eqS (db_var 1) (DE.toB de_str) (nomark _)) (dw_or (dt_cmp op_gt so_gt (DE.toB (de_cb (call_lenK (K := K)) sc_len rfl T.len (by with_unfolding_all rfl) (dab_cons (db_var 1) dab_nil))) (DE.toB (de_glob (v := .int 4000) rfl most1 most2 (fun _ => R.int_) (by decide))) (nomark _)) (dw_or1 (dt_not (dt_val (de_cb (cr_allK (K := K) rfl) sc_all rfl T.all (by with_unfolding_all rfl) (dab_cons (DE.toB (DN.toE (dn_lc (own := [("sign", 2)]) rfl sc_number_of.nd (DI.toB (di_str (de_var 1))) (blkOk_by (N := ["word", "figures", "sign"]) (sc := defScope snumber_of) (by decide +kernel)) (fun _ _ _ _ _ => (dg_name (i := 2) sc_number_of.nd rfl (by first | exact Or.inl rfl | exact Or.inr rfl))) (fun _ _ _ _ _ => dts_nil) (fun _ _ _ _ _ => (de_cmp op_in_sign so_inS (db_var 2) (DE.toB (de_glob (v := .str "0123456789") rfl figures1 figures2 (fun _ => R.str_) (by decide))) (by with_unfolding_all rfl)))))) dab_nil)))))))) (dss_one (ds_ret de_non)) dss_nil)
  (dss_one (ds_ret (de_ifE (dt_cmp op_eq so_eqS (DE.toB (de_ty call_str_int sc_strOf rfl T.str (by with_unfolding_all rfl) (dab_cons (DE.toB (de_ty call_int_str sc_intOf rfl T.int (by with_unfolding_all rfl) (dab_cons (db_var 0) dab_nil))) dab_nil))) (db_var 0) (nomark _)) (de_ty call_int_str sc_intOf rfl T.int (by with_unfolding_all rfl) (dab_cons (db_var 0) dab_nil)) de_non))))), fun ds q h => ?_⟩
  obtain ⟨s, rfl, hl, hq⟩ := h
  have hsl : s.length ≤ sizeLine := Nat.le_trans hl (by decide)
  have hl2 : (cutS s (some 1) none).length ≤ 500 := Nat.le_trans (cutS_length _ _ _) hl
  have hsl2 : (cutS s (some 1) none).length ≤ sizeLine := Nat.le_trans hl2 (by decide)
  have none_ : (∀ m, tl s ≠ numL m) → q .non := fun h => hq none fun m => ⟨fun z => (by cases z), fun z => (h m z).elim⟩
  have comp : ∀ (F : Str) (L : Prop) (R : D → Prop) (d : D), d ∈ chars F → R (D.bl (digD d)) → ∃ c, d = .str ⟨#[c]⟩ ∧ R (.bl (digB c)) := fun F L R d hd hR => by
    obtain ⟨c, _, rfl⟩ := List.mem_map.mp hd
    exact ⟨c, rfl, hR⟩
  have clen : ∀ F : Str, F.length ≤ 500 → (chars F).length ≤ sizeLine := fun F h => by
    unfold chars
    rw [List.length_map, ← len_tl]
    exact Nat.le_trans h (by decide)
  walk_at "x"
  · have hd := tl_cut0 s
    rw [‹cutS s none (some 1) = _›] at hd
    refine none_ fun m e => ?_
    have hm := numL_digits m
    rw [← e] at hm
    cases hs : tl s with
    | nil => rw [hs] at hd; cases hd
    | cons a r =>
      rw [hs] at hd hm
      have : a = 45 := by have h45 : tl (Str.ofString "-") = [45] := by decide +kernel
                          rw [h45] at hd; simpa using hd.symm
      have := hm a List.mem_cons_self
      omega
  · omega
  · have hd := tl_cut0 s
    rw [‹cutS s none (some 1) = _›] at hd
    have ht : tl s = 45 :: tl (cutS s (some 1) none) := by
      rw [tl_cut1]
      cases hs : tl s with
      | nil => rw [hs] at hd; exact absurd hd (by decide +kernel)
      | cons a r =>
        rw [hs] at hd
        have h45 : tl (Str.ofString "-") = [45] := by decide +kernel
        rw [h45] at hd
        have : a = 45 := by simpa using hd.symm
        rw [this]; rfl
    have nodig : ∀ m, tl s ≠ numL m := fun m e => by
      have hm := numL_digits m
      rw [← e, ht] at hm
      have := hm 45 List.mem_cons_self
      omega
    refine g_lcm (fun d => .bl (digD d)) (clen _ hl2) (fun d L R hd hL hR => ?_) ?_
    · obtain ⟨c, rfl, hR⟩ := comp _ L R d hd hR
      walk_at "x"
      rw [dig_in]
      exact hR
    rw [chars_dig]
    dsimp only [wNil]
    refine g_all ?_
    cases hall : ((tl (cutS s (some 1) none)).map digB).all id with
    | false =>
      walk_at "x"
      exact none_ nodig
    | true =>
      have had := (all_dig _).mp hall
      have hne : tl (cutS s (some 1) none) ≠ [] := fun z => ‹cutS s (some 1) none ≠ _› (ext_tl (z.trans (by decide +kernel : ([] : List Nat) = tl (Str.ofString ""))))
      have e := intText_neg (x := s) ht had hne (by omega)
      have hlog : (-((NumText.digitsVal (tl (cutS s (some 1) none)) : Nat) : Int)).natAbs.log2 < 1920 := log_small (k := (tl (cutS s (some 1) none)).length) (by rw [Int.natAbs_neg, Int.natAbs_natCast]; exact val_lt _ _ rfl had) (by rw [← len_tl]; exact hl2)
      have hl640 : s.length ≤ 640 := by omega
      walk_at "x"
      rw [e]
      walk_at "x"
      · have heq := ‹_ = s›
        rw [e]
        walk_at "x"
        refine hq (some _) fun m => ⟨fun z => ?_, fun z => (nodig m z).elim⟩
        have hz : (-((NumText.digitsVal (tl (cutS s (some 1) none)) : Nat) : Int)) = (m : Int) := Option.some.inj z
        have h0 : (-((NumText.digitsVal (tl (cutS s (some 1) none)) : Nat) : Int)) = ((0 : Nat) : Int) := by omega
        rw [h0] at heq
        exact (nodig 0 ((congrArg tl heq.symm).trans (tl_num 0))).elim
      · exact none_ nodig
  · refine none_ fun m e => ?_
    have hs : tl s = [] := by rw [‹s = _›]; decide +kernel
    rw [hs] at e
    exact numL_ne m e.symm
  · omega
  · refine g_lcm (fun d => .bl (digD d)) (clen s hl) (fun d L R hd hL hR => ?_) ?_
    · obtain ⟨c, rfl, hR⟩ := comp s L R d hd hR
      walk_at "x"
      rw [dig_in]
      exact hR
    rw [chars_dig]
    dsimp only [wNil]
    refine g_all ?_
    cases hall : ((tl s).map digB).all id with
    | false =>
      walk_at "x"
      refine none_ fun m e => ?_
      have := (all_dig s).mpr (by rw [e]; exact numL_digits m)
      rw [hall] at this; cases this
    | true =>
      have had := (all_dig s).mp hall
      have hne : tl s ≠ [] := fun z => ‹s ≠ _› (ext_tl (z.trans (by decide +kernel : ([] : List Nat) = tl (Str.ofString ""))))
      have e := intText_digits (x := s) had hne (by omega)
      have hlog : (((NumText.digitsVal (tl s) : Nat) : Int)).natAbs.log2 < 1920 := log_small (k := (tl s).length) (by rw [Int.natAbs_natCast]; exact val_lt _ _ rfl had) (by rw [← len_tl]; exact hl)
      have hl640 : s.length ≤ 640 := by omega
      walk_at "x"
      rw [e]
      walk_at "x"
      · have heq := ‹_ = s›
        rw [e]
        walk_at "x"
        refine hq (some _) fun m => ⟨fun z => ?_, fun z => ?_⟩
        · have hz : NumText.digitsVal (tl s) = m := Int.ofNat.inj (Option.some.inj z)
          have ht : tl s = numL (NumText.digitsVal (tl s)) := by
            have := tl_num (NumText.digitsVal (tl s))
            rw [← this]
            exact congrArg tl heq.symm
          rw [ht, hz]
        · rw [show s.cps.toList = numL m from z, numL_val]
      · have hne2 := ‹_ ≠ s›
        refine none_ fun m z => hne2 ?_
        rw [show s.cps.toList = numL m from z, numL_val]
        exact (num_eq z).symm
end
end S02

namespace S02
open PySem L2 Y TL
theorem pu_ii' {m n : Int} : Pu 32 (D.int m) ∧ Pu 32 (D.int n) := ⟨by unfold Pu; trivial, by unfold Pu; trivial⟩
local macro_rules | `(tactic| walk_at $_:str) => `(tactic| (conv => whnf) <;> repeat' (first
  | (refine And.intro (fun (hc : (_ : Prop)) => ?_) (fun (hc : (_ : Prop)) => ?_) <;> first | exact (d_ni hc).elim | exact (d_nt hc).elim | exact (d_nl hc).elim | exact (d_tc hc).elim | exact (d_lc hc).elim | exact (hc rfl).elim | (conv => whnf))
  | (refine And.intro (by first | exact dr_t rfl | with_reducible first | exact lz1 | exact lz2 | exact lz3 | exact lz0 | exact pu_ii | exact lq2 | exact lq1 | exact lq3 | exact lq5 | assumption | exact rfl) ?_ <;> (conv => whnf))
  | fail))
abbrev EN : List Nat := [101, 110, 100, 32]
theorem tl_end : tl (Str.ofString "end ") = EN := by decide +kernel
theorem tl_nl : tl (Str.ofString "\n") = [10] := by decide +kernel
theorem tl_e : tl (Str.ofString "") = [] := by decide +kernel
theorem len_app (x y : Str) : (x ++ y).length = x.length + y.length := by rw [len_tl, len_tl, len_tl, tl_append, List.length_append]
theorem len_nl : (Str.ofString "\n").length = 1 := by rw [len_tl, tl_nl]; rfl
theorem len_end : (Str.ofString "end ").length = 4 := by rw [len_tl, tl_end]; rfl
theorem big : 1000 ≤ sizeLine := by decide
/-- the parts of a text between its line ends -/
theorem parts_l : ∀ l : List Nat, ∃ ps : List (List Nat), ps ≠ [] ∧ (∀ p ∈ ps, 10 ∉ p) ∧ l = joinL [10] ps ∧ ps.length ≤ l.length + 1
  | [] => ⟨[[]], by simp, fun p hp => by rw [List.mem_singleton.mp hp]; exact List.not_mem_nil, rfl, by simp⟩
  | c :: r => by
    obtain ⟨ps, h1, h2, h3, h4⟩ := parts_l r
    cases ps with
    | nil => exact (h1 rfl).elim
    | cons p ps =>
      by_cases hc : c = 10
      · refine ⟨[] :: p :: ps, by simp, fun x hx => ?_, by rw [hc, h3]; rfl, by simp only [List.length_cons] at h4 ⊢; omega⟩
        rcases List.mem_cons.mp hx with rfl | hx
        · exact List.not_mem_nil
        · exact h2 x hx
      · refine ⟨(c :: p) :: ps, by simp, fun x hx => ?_, ?_, by simp only [List.length_cons] at h4 ⊢; omega⟩
        · rcases List.mem_cons.mp hx with rfl | hx
          · intro z
            rcases List.mem_cons.mp z with z | z
            · exact hc z.symm
            · exact h2 p List.mem_cons_self z
          · exact h2 x (List.mem_cons_of_mem _ hx)
        · rw [h3]
          cases ps <;> rfl
def mkS (l : List Nat) : Str := ⟨l.toArray⟩
theorem tl_mkS (l : List Nat) : tl (mkS l) = l := rfl
theorem mkS_tl (s : Str) : mkS (tl s) = s := ext_tl rfl
theorem split_of {s : Str} {ps : List Str} (hne : ps ≠ []) (hf : ∀ p ∈ ps, 10 ∉ tl p) (e : tl s = joinL [10] (ps.map tl)) : Txt.split s (Str.ofString "\n") = ps := by
  have h := split_join (y := Str.ofString "\n") tl_nl (by decide +kernel) hne hf
  rw [join_eq] at h
  have : s = Str.join (Str.ofString "\n") ps := ext_tl (by rw [tl_join, tl_nl]; exact e)
  rw [this]; exact h
theorem parts_ex (s : Str) : ∃ ps : List Str, Txt.split s (Str.ofString "\n") = ps ∧ tl s = joinL [10] (ps.map tl) ∧ (∀ p ∈ ps, 10 ∉ tl p) ∧ ps.length ≤ s.length + 1 := by
  obtain ⟨ps, h1, h2, h3, h4⟩ := parts_l (tl s)
  have em : (ps.map mkS).map tl = ps := by rw [List.map_map]; exact (List.map_congr_left fun p _ => tl_mkS p).trans (List.map_id ps)
  have hf : ∀ p ∈ ps.map mkS, 10 ∉ tl p := fun p hp => by
    obtain ⟨x, hx, rfl⟩ := List.mem_map.mp hp
    exact h2 x hx
  exact ⟨ps.map mkS, split_of (by simpa using h1) hf (by rw [em]; exact h3), by rw [em]; exact h3, hf, by rw [List.length_map, len_tl]; exact h4⟩
def numS (m : Nat) : Str := toString ((m : Nat) : Int)
theorem tl_numS (m : Nat) : tl (numS m) = numL m := tl_num m
theorem num_free (m : Nat) : 10 ∉ numL m := numL_free (.inl (by decide))
theorem en_free (m : Nat) : 10 ∉ EN ++ numL m := fun z => (List.mem_append.mp z).elim (by decide) (num_free m)
theorem whole_split {s b : Str} {m : Nat} (hb : 10 ∉ tl b) (h : tl s = W3 (numL m) (tl b) (EN ++ numL m)) : Txt.split s (Str.ofString "\n") = [numS m, b, Str.ofString "end " ++ numS m, Str.ofString ""] := by
  refine split_of (by simp) (fun p hp => ?_) ?_
  · rcases List.mem_cons.mp hp with rfl | hp
    · rw [tl_numS]; exact num_free m
    · rcases List.mem_cons.mp hp with rfl | hp
      · exact hb
      · rcases List.mem_cons.mp hp with rfl | hp
        · rw [tl_append, tl_end, tl_numS]; exact en_free m
        · rw [List.mem_singleton.mp hp, tl_e]; exact List.not_mem_nil
  · rw [h]
    simp only [List.map_cons, List.map_nil, tl_append, tl_end, tl_numS, tl_e, joinL, W3]
    simp
def rD (r : Option (Nat × Str)) : D := match r with | none => .non | some (m, b) => .tup [.int m, .str b]
def IsOf (s : Str) (r : Option (Nat × Str)) : Prop := ∀ m b, r = some (m, b) ↔ (10 ∉ tl b ∧ tl s = W3 (numL m) (tl b) (EN ++ numL m))
def wText : WD := fun ds q => ∃ (m : Nat) (b : Str), ds = [.int m, .str b] ∧ m < 10 ^ 50 ∧ b.length ≤ 100 ∧ ∀ t, tl t = W3 (numL m) (tl b) (EN ++ numL m) → q (.str t)
def wOf : WD := fun ds q => ∃ d : D, ds = [d] ∧ flatT d ∧ (isT .str d = false → q .non) ∧ (∀ s, d = .str s → s.length ≤ 500 ∧ ∀ r, IsOf s r → q (rD r))
section
variable {P : Program} {w : World} {K : PySem.W.Frag} {mg : Str → Option Value} {base : Heap}
theorem sc_whole_text : FnScope ["number", "body"] ["number", "body"] (defScope swhole_text) := ⟨rfl, rfl, rfl, by decide +kernel, rfl, by decide +kernel, by decide +kernel⟩
-- slots: 0 number, 1 body
theorem ok_whole_text (T : Txt mg) (h0 : Here K mg "whole_text" ["number", "body"] swhole_text)  : Df P w K mg base 1 "whole_text" ["number", "body"] wText := by
  obtain ⟨_, end1, end2⟩ := T.end_.ex
  refine df_of h0 sc_whole_text (fun ds q h => by obtain ⟨m, b, rfl, _⟩ := h; rfl) fun f cdv A outer s H E hr => ⟨_, _,
  (dss_one (ds_ret (de_op (op_addUK (K := K)) so_add (DE.toB (de_op (op_addUK (K := K)) so_add (DE.toB (de_op (op_addUK (K := K)) so_add (DE.toB (de_op (op_addUK (K := K)) so_add (DE.toB (de_op (op_addUK (K := K)) so_add (DE.toB (de_op (op_addUK (K := K)) so_add (DE.toB (de_ty call_str_int sc_strOf rfl T.str (by with_unfolding_all rfl) (dab_cons (db_var 0) dab_nil))) (DE.toB de_str))) (db_var 1))) (DE.toB de_str))) (DE.toB (de_glob (v := .str "end ") rfl end1 end2 (fun _ => R.str_) (by decide))))) (DE.toB (de_ty call_str_int sc_strOf rfl T.str (by with_unfolding_all rfl) (dab_cons (db_var 0) dab_nil))))) (DE.toB de_str)))), fun ds q h => ?_⟩
  obtain ⟨m, b, rfl, hm, hb, hq⟩ := h
  have hlog : ((m : Nat) : Int).natAbs.log2 < 1920 := log_small (k := 50) (by rw [Int.natAbs_natCast]; exact hm) (by decide)
  have hn : (numS m).length ≤ 50 := by rw [len_tl, tl_numS]; exact numL_len (by decide) hm
  have hB := big
  have hn' : (Str.ofString (toString ((m : Nat) : Int))).length ≤ 50 := hn
  have ht : tl (Str.ofString (toString ((m : Nat) : Int))) = numL m := tl_numS m
  walk_at "x"
  iterate 6 (refine ⟨by simp only [len_app, len_nl, len_end]; omega, ?_⟩; walk_at "x")
  refine hq _ ?_
  rw [tl_append, tl_append, tl_append, tl_append, tl_append, tl_append, tl_nl, tl_end, ht]
  simp [W3]
theorem sc_whole_of : FnScope ["text", "lines", "number"] ["text"] (defScope swhole_of) := ⟨rfl, rfl, rfl, by decide +kernel, rfl, by decide +kernel, by decide +kernel⟩
-- slots: 0 text, 1 lines, 2 number
theorem ok_whole_of (T : Txt mg) (h0 : Here K mg "whole_of" ["text"] swhole_of) (F_number_of : Df P w K mg base 1 "number_of" ["word"] wNum) : Df P w K mg base 2 "whole_of" ["text"] wOf := by
  obtain ⟨_, end1, end2⟩ := T.end_.ex
  refine df_of h0 sc_whole_of (fun ds q h => by obtain ⟨d, rfl, _⟩ := h; rfl) fun f cdv A outer s H E hr => ⟨_, _,
  (dss_cons (ds_if (dt_not (dt_val (de_isi (K := K) .str (de_var 0) rfl T.isinstance rfl T.str (by with_unfolding_all rfl)))) (dss_one (ds_ret de_non)) dss_nil)
  (dss_cons (ds_set (i := 1) sc_whole_of.nd rfl (by first | exact Or.inl rfl | exact Or.inr rfl) (DN.toE (dn_split (de_var 0) de_str)))
  (dss_cons (ds_if (DW.dt (dw_or (dt_cmp (op_neDK (K := K) hr.units) so_neU (DE.toB (de_cb (call_lenK (K := K)) sc_len rfl T.len (by with_unfolding_all rfl) (dab_cons (db_var 1) dab_nil))) (DE.toB de_int) (nomark _)) (dw_or (dt_cmp op_ne so_neS (DE.toB (de_ixK (K := K) (db_var 1) (DE.toB de_int) (fun _ _ => rfl))) (DE.toB de_str) (nomark _)) (dw_or1 (dt_cmp op_ne so_neS (DE.toB (de_ixK (K := K) (db_var 1) (DE.toB de_int) (fun _ _ => rfl))) (DE.toB (de_op (op_addUK (K := K)) so_add (DE.toB (de_glob (v := .str "end ") rfl end1 end2 (fun _ => R.str_) (by decide))) (DE.toB (de_ixK (K := K) (db_var 1) (DE.toB de_int) (fun _ _ => rfl))))) (nomark _)))))) (dss_one (ds_ret de_non)) dss_nil)
  (dss_cons (ds_set (i := 2) sc_whole_of.nd rfl (by first | exact Or.inl rfl | exact Or.inr rfl) (de_clK (K := K) F_number_of (hr.mono (by omega)) rfl (da_cons (de_ixK (K := K) (db_var 1) (DE.toB de_int) (fun _ _ => rfl)) da_nil)))
  (dss_one (ds_ret (de_ifE (DW.dt (dw_or (dt_cmp op_isN so_isN (db_var 2) (DE.toB de_non) (nomark _)) (dw_or1 (dt_cmp op_lt so_lt (db_var 2) (DE.toB de_int) (nomark _))))) de_non (de_tup (da_cons (de_var 2) (da_cons (de_ixK (K := K) (db_var 1) (DE.toB de_int) (fun _ _ => rfl)) da_nil)))))))))), fun ds q h => ?_⟩
  obtain ⟨d, rfl, hf, h0, h1⟩ := h
  cases d with
  | str s =>
    obtain ⟨hl, hq⟩ := h1 s rfl
    obtain ⟨ps, es, ej, hfr, hpl⟩ := parts_ex s
    have hsz : (Txt.split s (Str.ofString "\n")).length ≤ sizeLine := by rw [es]; exact Nat.le_trans hpl (Nat.le_trans (by omega : _ ≤ 1000) big)
    have hsp : ((Str.ofString "\n").length == 0) = false ∧ s.length + 2 ≤ sizeLine ∧ (Txt.split s (Str.ofString "\n")).length ≤ sizeLine := ⟨by rw [len_nl]; rfl, Nat.le_trans (by omega : _ ≤ 1000) big, hsz⟩
    have none_ : (∀ m b, 10 ∉ tl b → ps = [numS m, b, Str.ofString "end " ++ numS m, Str.ofString ""] → False) → q .non := fun h => hq none fun m b => ⟨fun z => (by cases z), fun z => (h m b z.1 (by rw [← es]; exact whole_split z.1 z.2)).elim⟩
    have sp : ∀ (m : Nat) (b' : Str), 10 ∉ tl b' → tl s = W3 (numL m) (tl b') (EN ++ numL m) → ps = [numS m, b', Str.ofString "end " ++ numS m, Str.ofString ""] := fun m b' h1 h2 => by rw [← es]; exact whole_split h1 h2
    walk_at "x"
    · refine none_ fun m b _ z => ?_
      apply ‹D.int _ ≠ D.int _›
      rw [es, z]; rfl
    · rw [es] at *
      have h4 : ps.length = 4 := by
        have := D.int.inj ‹_ = D.int 4›
        rw [List.length_map] at this
        omega
      obtain ⟨a, b, c, d, rfl⟩ : ∃ a b c d, ps = [a, b, c, d] := by
        match ps, h4 with
        | [a, b, c, d], _ => exact ⟨a, b, c, d, rfl⟩
      have ej' : tl s = tl a ++ 10 :: (tl b ++ 10 :: (tl c ++ 10 :: tl d)) := by rw [ej]; simp [joinL]
      have hla : a.length ≤ s.length := by
        rw [len_tl, len_tl, ej', List.length_append]; omega
      walk_at "x"
      · refine none_ fun m b' _ z => ?_
        simp only [List.cons.injEq] at z
        exact ‹d ≠ _› z.2.2.2.1
      · have hd := ‹d = _›
        refine ⟨by rw [len_end]; exact Nat.le_trans (by omega : _ ≤ 1000) big, ?_⟩
        walk_at "x"
        · refine none_ fun m b' _ z => ?_
          simp only [List.cons.injEq] at z
          exact ‹c ≠ _› (by rw [z.2.2.1, z.1])
        · have hc := ‹c = _›
          refine ⟨a, rfl, by omega, fun r hr => ?_⟩
          have back : ∀ m b', [a, b, c, d] = [numS m, b', Str.ofString "end " ++ numS m, Str.ofString ""] → r = some (m : Int) ∧ b = b' := fun m b' z => by
            simp only [List.cons.injEq] at z
            exact ⟨(hr m).mpr (by rw [z.1, tl_numS]), z.2.1⟩
          cases r with
          | none =>
            walk_at "x"
            refine none_ fun m b' _ z => ?_
            cases (back m b' z).1
          | some n =>
            walk_at "x"
            · refine none_ fun m b' _ z => ?_
              have := Option.some.inj (back m b' z).1
              omega
            · obtain ⟨k, rfl⟩ : ∃ k : Nat, n = (k : Int) := ⟨n.toNat, by omega⟩
              have ta := (hr k).mp rfl
              refine hq (some (k, b)) fun m b' => ⟨fun z => ?_, fun z => ?_⟩
              · cases z
                refine ⟨hfr b (by simp), ?_⟩
                rw [ej', hc, hd, tl_append, tl_end, tl_e, ta]
              · have e2 := sp m b' z.1 z.2
                have bk := back m b' e2
                have e3 : k = m := Int.ofNat.inj (Option.some.inj bk.1)
                rw [e3, bk.2]
  | dct _ => exact hf.elim
  | ins _ _ => exact hf.elim
  | _ => walk_at "x"; exact h0 rfl
end
end S02

namespace S02
open PySem L2 Y TL
theorem pu_ii2 {m n : Int} : Pu 32 (D.int m) ∧ Pu 32 (D.int n) := ⟨by unfold Pu; trivial, by unfold Pu; trivial⟩
local macro_rules | `(tactic| walk_at $_:str) => `(tactic| (conv => whnf) <;> repeat' (first
  | (refine And.intro (fun (hc : (_ : Prop)) => ?_) (fun (hc : (_ : Prop)) => ?_) <;> first | exact (d_ni hc).elim | exact (d_nt hc).elim | exact (d_nl hc).elim | exact (d_tc hc).elim | exact (d_lc hc).elim | exact (hc rfl).elim | (conv => whnf))
  | (refine And.intro (by first | exact dr_t rfl | with_reducible first | exact lz1 | exact lz2 | exact lz3 | exact lz0 | exact pu_ii | exact lq2 | exact lq1 | exact lq3 | exact lq5 | assumption | exact rfl) ?_ <;> (conv => whnf))
  | fail))
theorem tl_cutTo (s : Str) (c : Nat) (h : c ≤ s.length) : tl (cutS s none (some (c : Int))) = (tl s).take c := by
  show ((tl s).drop 0).take (HT.sIx s.length s.length (some (c : Int)) - 0) = _
  rw [HT.sIx_nat, Nat.min_eq_left h]; rfl
theorem tl_cutFrom (s : Str) (c : Nat) : tl (cutS s (some (c : Int)) none) = (tl s).drop c := by
  show ((tl s).drop (HT.sIx s.length 0 (some (c : Int)))).take (s.length - HT.sIx s.length 0 (some (c : Int))) = _
  rw [HT.sIx_nat]
  rcases Nat.le_total c s.length with g | g
  · rw [Nat.min_eq_left g, List.take_of_length_le (by rw [List.length_drop, ← len_tl]; exact Nat.le_refl _)]
  · rw [Nat.min_eq_right g, List.drop_of_length_le (by rw [len_tl]; exact Nat.le_refl _), List.drop_of_length_le (by rw [← len_tl]; exact g)]
    simp
def wTorn : WD := fun ds q => ∃ (o n : Str) (c : Nat) (b : Bool), ds = [.str o, .str n, .int c, .bl b] ∧ c ≤ n.length ∧ o.length ≤ 300 ∧ n.length ≤ 300 ∧ ∀ t, tl t = (tl n).take c ++ (if b = true ∧ c < n.length then (tl o).drop c else []) → q (.str t)
def notNon (d : D) : Bool := match d with | .non => false | _ => true
def kn (r1 r2 : Option (Nat × Str)) : List D := [rD r1, rD r2].filter notNon
def wNewest : WD := fun ds q => ∃ (s1 s2 : Str) (r1 r2 : Option (Nat × Str)), ds = [.tup [.str s1, .str s2]] ∧ s1.length ≤ 500 ∧ s2.length ≤ 500 ∧ IsOf s1 r1 ∧ IsOf s2 r2 ∧ Pu 30 (rD r1) ∧ Pu 30 (rD r2) ∧
  (kn r1 r2 = [] → q .non) ∧ ∀ d ds, kn r1 r2 = d :: ds → ∀ z ∈ d :: ds, z.py = PySem.W.maxD d.py (ds.map D.py) → q z
theorem IsOf.uniq {s : Str} {r r' : Option (Nat × Str)} (h : IsOf s r) (h' : IsOf s r') : r = r' := by
  cases r with
  | some p => exact ((h' p.1 p.2).mpr ((h p.1 p.2).mp rfl)).symm
  | none =>
    cases r' with
    | none => rfl
    | some p => exact (h p.1 p.2).mpr ((h' p.1 p.2).mp rfl)
theorem rD_pu {r : Option (Nat × Str)} (h : Pu 30 (rD r)) : Pu 31 (rD r) := by
  cases r with
  | none => show Pu 31 .non; unfold Pu; trivial
  | some p =>
    obtain ⟨m, b⟩ := p
    have h2 : PuL 29 [D.int m, D.str b] := by unfold rD Pu at h; exact h
    have hs : PyData.canLay0 (.str b) = true := by
      unfold PuL at h2
      have := h2.2
      unfold PuL Pu at this
      exact this.1
    show Pu 31 (.tup [.int m, .str b])
    unfold Pu PuL Pu PuL Pu
    exact ⟨trivial, hs, by unfold PuL; trivial⟩
section
variable {P : Program} {w : World} {K : PySem.W.Frag} {mg : Str → Option Value} {base : Heap}
theorem sc_torn : FnScope ["old", "new", "cut", "is_over"] ["old", "new", "cut", "is_over"] (defScope storn) := ⟨rfl, rfl, rfl, by decide +kernel, rfl, by decide +kernel, by decide +kernel⟩
-- slots: 0 old, 1 new, 2 cut, 3 is_over
theorem ok_torn (T : Txt mg) (h0 : Here K mg "torn" ["old", "new", "cut", "is_over"] storn) (F_is_whole : Df P w K mg base 1 "is_whole" ["thing"] wWhole) : Df P w K mg base 2 "torn" ["old", "new", "cut", "is_over"] wTorn := by
  refine df_of h0 sc_torn (fun ds q h => by obtain ⟨o, n, c, b, rfl, _⟩ := h; rfl) fun f cdv A outer s H E hr => ⟨_, _,
  (dss_cons (ds_if (DW.dt (dw_or (dt_not (dt_val (de_clK (K := K) F_is_whole (hr.mono (by omega)) rfl (da_cons (de_var 2) da_nil)))) (dw_or1 (dt_not (dt_chain op_le so_le op_le so_le (DE.toB de_int) (db_var 2) (DE.toB (de_cb (call_lenK (K := K)) sc_len rfl T.len (by with_unfolding_all rfl) (dab_cons (db_var 1) dab_nil)))))))) (dss_one ds_never) dss_nil)
  (dss_one (ds_ret (de_ifE (DW.dt (dw_and (dt_val (de_var 3)) (dw_and1 (dt_cmp op_lt so_lt (db_var 2) (DE.toB (de_cb (call_lenK (K := K)) sc_len rfl T.len (by with_unfolding_all rfl) (dab_cons (db_var 1) dab_nil))) (nomark _))))) (de_op (op_addUK (K := K)) so_add (DE.toB (de_sliceK (K := K) (db_var 1) do_none (do_some (de_var 2)))) (DE.toB (de_sliceK (K := K) (db_var 0) (do_some (de_var 2)) do_none))) (de_sliceK (K := K) (db_var 1) do_none (do_some (de_var 2))))))), fun ds q h => ?_⟩
  obtain ⟨o, n, c, b, rfl, hc, ho, hn, hq⟩ := h
  have hsn : n.length ≤ sizeLine := Nat.le_trans hn (by decide)
  have hso : o.length ≤ sizeLine := Nat.le_trans ho (by decide)
  walk_at "x"
  refine ⟨_, rfl, trivial, ?_⟩
  walk_at "x"
  · cases b
    · walk_at "x"
      exact hq _ (by rw [tl_cutTo n c hc]; simp)
    · walk_at "x"
      · refine ⟨Nat.le_trans (Nat.add_le_add (cutS_length _ _ _) (cutS_length _ _ _)) (Nat.le_trans (by omega : _ ≤ 1000) big), ?_⟩
        refine hq _ ?_
        rw [tl_append, tl_cutTo n c hc, tl_cutFrom, if_pos ⟨rfl, by omega⟩]
      · refine hq _ ?_
        rw [tl_cutTo n c hc, if_neg (by omega), List.append_nil]
  · omega
  · omega
theorem sc_newest : FnScope ["places", "found", "known", "text", "told"] ["places"] (defScope snewest) := ⟨rfl, rfl, rfl, by decide +kernel, rfl, by decide +kernel, by decide +kernel⟩
-- slots: 0 places, 1 found, 2 known, 3 text, 4 told
theorem ok_newest (T : Txt mg) (h0 : Here K mg "newest" ["places"] snewest) (F_whole_of : Df P w K mg base 2 "whole_of" ["text"] wOf) : Df P w K mg base 3 "newest" ["places"] wNewest := by
  refine df_of h0 sc_newest (fun ds q h => by obtain ⟨o, n, c, b, rfl, _⟩ := h; rfl) fun f cdv A outer s H E hr => ⟨_, _,
  (dss_cons (ds_lc (i := 1) (own := [("text", 3)]) rfl sc_newest.nd rfl rfl (by rfl) (dib_seq (db_var 0)) (blkOk_by (N := ["places", "found", "known", "text", "told"]) (sc := defScope snewest) (by decide +kernel)) (fun _ _ _ _ _ => (dg_name (i := 3) sc_newest.nd rfl (by first | exact Or.inl rfl | exact Or.inr rfl))) (fun _ _ _ _ _ => dts_nil) (fun _ _ _ _ _ => (de_clK (K := K) F_whole_of (hr.mono (by omega)) rfl (da_cons (de_var 3) da_nil))))
  (dss_cons (ds_lc (i := 2) (own := [("told", 4)]) rfl sc_newest.nd rfl rfl (by rfl) (dib_seq (db_var 1)) (blkOk_by (N := ["places", "found", "known", "text", "told"]) (sc := defScope snewest) (by decide +kernel)) (fun _ _ _ _ _ => (dg_name (i := 4) sc_newest.nd rfl (by first | exact Or.inl rfl | exact Or.inr rfl))) (fun _ _ _ _ _ => (dts_one (dt_cmp op_notN so_notN (db_var 4) (DE.toB de_non) (nomark _)))) (fun _ _ _ _ _ => (de_var 4)))
  (dss_one (ds_ret (de_ifE (dt_cmp (op_neDK (K := K) hr.units) so_neU (db_var 2) (DE.toB (DN.toE (dn_lst da_nil))) (nomark _)) (de_maxD rfl hr.units rfl T.max (de_var 2)) de_non))))), fun ds q h => ?_⟩
  obtain ⟨s1, s2, r1, r2, rfl, l1, l2, i1, i2, p1, p2, h0, h1⟩ := h
  walk_at "x"
  refine kLc_i ⟨fun k acc => acc = [rD r1, rD r2].take k, rfl, ?_, ?_⟩
  · rintro k d acc hd rfl
    have z500 : 500 ≤ sizeLine := by decide
    match k with
    | 0 =>
      cases hd
      walk_at "x"
      refine ⟨_, rfl, trivial, fun z => (by cases z), fun s e => ?_⟩
      cases e
      refine ⟨l1, fun r hr => ?_⟩
      rw [hr.uniq i1]
      exact ⟨by show 0 < sizeLine; decide, rfl⟩
    | 1 =>
      cases hd
      walk_at "x"
      refine ⟨_, rfl, trivial, fun z => (by cases z), fun s e => ?_⟩
      cases e
      refine ⟨l2, fun r hr => ?_⟩
      rw [hr.uniq i2]
      exact ⟨by show 1 < sizeLine; decide, rfl⟩
    | k + 2 => cases hd
  · rintro acc hacc
    have hacc' : acc = [rD r1, rD r2] := hacc
    subst hacc'
    walk_at "x"
    have q1 := rD_pu p1
    have q2 := rD_pu p2
    have pul : PuL 31 (kn r1 r2) := by
      unfold kn
      cases r1 <;> cases r2 <;> simp only [List.filter_cons, List.filter_nil, rD, notNon, if_true, Bool.false_eq_true, if_false] <;> unfold PuL <;> first | trivial | exact ⟨q1, by unfold PuL; exact ⟨q2, by unfold PuL; trivial⟩⟩ | exact ⟨q1, by unfold PuL; trivial⟩ | exact ⟨q2, by unfold PuL; trivial⟩
    have pk : Pu 32 (D.lst (kn r1 r2)) ∧ Pu 32 (D.lst []) := ⟨by unfold Pu; exact pul, by unfold Pu PuL; trivial⟩
    refine g_lcf notNon (fun d => d) (by show 2 ≤ sizeLine; decide) (fun d L n R hd hL g1 g0 => ?_) ?_
    · have : d = rD r1 ∨ d = rD r2 := by simpa using hd
      rcases this with rfl | rfl
      · cases r1 with
        | none => walk_at "x"; exact g0 rfl
        | some p => walk_at "x"; exact g1 rfl
      · cases r2 with
        | none => walk_at "x"; exact g0 rfl
        | some p => walk_at "x"; exact g1 rfl
    · rw [List.map_id', show List.filter notNon [rD r1, rD r2] = kn r1 r2 from rfl]
      walk_at "x"
      · cases hk : kn r1 r2 with
        | nil => exact absurd (by rw [hk]) ‹D.lst (kn r1 r2) ≠ D.lst []›
        | cons d ds =>
          rw [hk] at pul
          walk_at "x"
          refine ⟨⟨⟨fun x hx y hy => ?_, fun x hx => ?_⟩, pul⟩, h1 d ds hk⟩
          · have tp : ∀ x ∈ (d :: ds).map D.py, ∃ (m : Nat) (b : Str), x = .tuple [.int m, .str b] := fun x hx => by
              obtain ⟨z, hz, rfl⟩ := List.mem_map.mp hx
              rw [← hk] at hz
              obtain ⟨hz1, hz2⟩ := List.mem_filter.mp hz
              have : z = rD r1 ∨ z = rD r2 := by simpa using hz1
              rcases this with rfl | rfl
              · cases r1 with
                | none => cases hz2
                | some p => exact ⟨p.1, p.2, rfl⟩
              · cases r2 with
                | none => cases hz2
                | some p => exact ⟨p.1, p.2, rfl⟩
            obtain ⟨m, b, rfl⟩ := tp x hx
            obtain ⟨m', b', rfl⟩ := tp y hy
            simp [PySem.W.alike, PySem.W.alikeAll]
          · obtain ⟨z, hz, rfl⟩ := List.mem_map.mp hx
            rw [← hk] at hz
            obtain ⟨hz1, hz2⟩ := List.mem_filter.mp hz
            have : z = rD r1 ∨ z = rD r2 := by simpa using hz1
            rcases this with rfl | rfl
            · cases r1 with
              | none => cases hz2
              | some p => intro e; cases e
            · cases r2 with
              | none => cases hz2
              | some p => intro e; cases e
      · have := D.lst.inj ‹D.lst (kn r1 r2) = D.lst []›
        exact h0 this
end
end S02

namespace S02
open PySem L2 Y TL
theorem pu_ii3 {m n : Int} : Pu 32 (D.int m) ∧ Pu 32 (D.int n) := ⟨by unfold Pu; trivial, by unfold Pu; trivial⟩
local macro_rules | `(tactic| walk_at $_:str) => `(tactic| (conv => whnf) <;> repeat' (first
  | (refine And.intro (fun (hc : (_ : Prop)) => ?_) (fun (hc : (_ : Prop)) => ?_) <;> first | exact (d_ni hc).elim | exact (d_nt hc).elim | exact (d_nl hc).elim | exact (d_tc hc).elim | exact (d_lc hc).elim | exact (hc rfl).elim | (conv => whnf))
  | (refine And.intro (by first | exact dr_t rfl | with_reducible first | exact lz1 | exact lz2 | exact lz3 | exact lz0 | exact pu_ii | exact lq2 | exact lq1 | exact lq3 | exact lq5 | assumption | exact rfl) ?_ <;> (conv => whnf))
  | fail))
def wPick : WD := fun ds q => ∃ xs : List D, ds = [.lst xs] ∧ 0 < xs.length ∧ ∀ x ∈ xs, q x
theorem at_of {xs : List D} {v : Int} (h0 : 0 ≤ v) (h1 : v < xs.length) : ∃ x, x ∈ xs ∧ atI xs v = some x := by
  obtain ⟨k, rfl⟩ : ∃ k : Nat, v = (k : Int) := ⟨v.toNat, by omega⟩
  have hk : k < xs.length := by omega
  refine ⟨xs[k], List.getElem_mem hk, ?_⟩
  exact atI_nat (List.getElem?_eq_getElem hk)
section
variable {P : Program} {w : World} {K : PySem.W.Frag} {mg : Str → Option Value} {base : Heap}
theorem sc_law_pick : FnScope ["_law_draw", "_law_items"] ["_law_draw", "_law_items"] (defScope sL_pick) := ⟨rfl, rfl, rfl, by decide +kernel, rfl, by decide +kernel, by decide +kernel⟩
theorem ok_pick (T : Txt mg) (h0 : Here K mg "_law_pick" ["_law_draw", "_law_items"] sL_pick) (F_take : Dr P w K mg base 2 "_law_take" ["_law_draw", "_law_many"] wTake) : Dr P w K mg base 3 "_law_pick" ["_law_draw", "_law_items"] wPick := by
  refine dr_of h0 sc_law_pick (fun ds q h => by obtain ⟨x, rfl, _⟩ := h; rfl) fun f cdv A outer s H E hr => ⟨_, _,
  (dss_one (ds_ret (de_ixK (K := K) (db_var 1) (DE.toB (de_clRK (K := K) 0 F_take (hr.mono (by omega)) rfl (pe_var rfl (by first | exact Or.inl rfl | exact Or.inr (Or.inl rfl) | exact Or.inr (Or.inr rfl)) (by decide) (by decide)) (da_cons (de_cb (call_lenK (K := K)) sc_len rfl T.len (by with_unfolding_all rfl) (dab_cons (db_var 1) dab_nil)) da_nil))) (fun _ _ => rfl)))), fun ds q h => ?_⟩
  obtain ⟨xs, rfl, hl, hq⟩ := h
  walk_at "x"
  refine ⟨_, rfl, by omega, fun v v0 v1 => ?_⟩
  obtain ⟨x, hx, e⟩ := at_of v0 v1
  walk_at "x"
  rw [e]
  exact hq x hx
end
end S02

namespace S02
open PySem L2 Y TL
/-! the plain law: the newest of two -/
theorem lt_of {m n : Nat} {b c : Str} (h : m ≠ n) : PySem.W.dataLt (rD (some (m, b))).py (rD (some (n, c))).py = decide (m < n) := by
  show PySem.W.dataLt (.tuple [.int m, .str b]) (.tuple [.int n, .str c]) = _
  rw [PySem.W.dataLt_pair (by rfl) (by rfl), if_neg (by simp only [PyData.eqv, beq_iff_eq]; omega), PySem.W.dataLt_int]
  by_cases g : m < n
  · rw [decide_eq_true g, decide_eq_true (by omega)]
  · rw [decide_eq_false g, decide_eq_false (by omega)]
theorem le_of {m n : Nat} {b c : Str} (h : m ≠ n) : dLe (rD (some (m, b))) (rD (some (n, c))) = decide (m < n) := by
  unfold dLe
  rw [PySem.W.dataLe_eq]
  show (!PySem.W.dataLt (rD (some (n, c))).py (rD (some (m, b))).py) = _
  rw [lt_of (Ne.symm h)]
  by_cases g : m < n
  · rw [decide_eq_true g, decide_eq_false (by omega)]; rfl
  · rw [decide_eq_false g, decide_eq_true (by omega)]; rfl
theorem sort_two {a b : D} : List.mergeSort [a, b] dLe = if dLe a b then [a, b] else [b, a] := by
  simp [List.mergeSort, List.MergeSort.Internal.splitInTwo, List.merge]
theorem kn_last {r1 ro : Option (Nat × Str)} (hne : ∀ p q, r1 = some p → ro = some q → p.1 ≠ q.1) {d : D} {ds : List D} (hk : kn r1 ro = d :: ds) {z : D} (hz : z ∈ d :: ds) (he : z.py = PySem.W.maxD d.py (ds.map D.py)) :
    ∃ l, (d :: ds).mergeSort dLe = l ++ [z] := by
  cases r1 with
  | none =>
    cases ro with
    | none => cases hk
    | some q =>
      cases hk
      rw [List.mem_singleton.mp hz]
      exact ⟨[], by simp [List.mergeSort]⟩
  | some p =>
    cases ro with
    | none =>
      have hk' : [rD (some p)] = d :: ds := hk
      obtain ⟨rfl, rfl⟩ := List.cons.inj hk'
      rw [List.mem_singleton.mp hz]
      exact ⟨[], by simp [List.mergeSort]⟩
    | some q =>
      have hk' : [rD (some p), rD (some q)] = d :: ds := hk
      obtain ⟨rfl, rfl⟩ := List.cons.inj hk'
      have h := hne p q rfl rfl
      obtain ⟨m, b⟩ := p
      obtain ⟨n, c⟩ := q
      have h' : m ≠ n := h
      rw [sort_two, le_of h']
      have e2 : z.py = if PySem.W.dataLt (rD (some (m, b))).py (rD (some (n, c))).py then (rD (some (n, c))).py else (rD (some (m, b))).py := he
      rw [lt_of h'] at e2
      have hz' : z = rD (some (m, b)) ∨ z = rD (some (n, c)) := by simpa using hz
      have inj : ∀ (m n : Nat) (b c : Str), (rD (some (m, b))).py = (rD (some (n, c))).py → m = n := fun m n b c e => by
        have : PyData.tuple [.int (m : Int), .str b] = PyData.tuple [.int (n : Int), .str c] := e
        exact Int.ofNat.inj (PyData.int.inj (List.cons.inj (PyData.tuple.inj this)).1)
      by_cases g : m < n
      · rw [decide_eq_true g] at e2 ⊢
        rcases hz' with rfl | rfl
        · exact absurd (inj _ _ _ _ e2) h'
        · exact ⟨[rD (some (m, b))], rfl⟩
      · rw [decide_eq_false g] at e2 ⊢
        rcases hz' with rfl | rfl
        · exact ⟨[rD (some (n, c))], rfl⟩
        · exact absurd (inj _ _ _ _ e2) (Ne.symm h')
theorem rd_pu30 {m : Nat} {b : Str} (h : PyData.strOk b = true) : Pu 30 (rD (some (m, b))) := by
  show Pu 30 (.tup [.int m, .str b])
  unfold Pu PuL Pu PuL Pu
  exact ⟨trivial, h, by unfold PuL; trivial⟩
theorem rd_pu32 {m : Nat} {b : Str} (h : PyData.strOk b = true) : Pu 32 (rD (some (m, b))) := by
  show Pu 32 (.tup [.int m, .str b])
  unfold Pu PuL Pu PuL Pu
  exact ⟨trivial, h, by unfold PuL; trivial⟩
theorem pNon : Pu 32 D.non := by unfold Pu; trivial
theorem kn_pul {r1 ro : Option (Nat × Str)} (p1 : Pu 30 (rD r1)) (p2 : Pu 30 (rD ro)) : PuL 31 (kn r1 ro) := by
  have q1 := rD_pu p1
  have q2 := rD_pu p2
  unfold kn
  cases r1 <;> cases ro <;> simp only [List.filter_cons, List.filter_nil, rD, notNon, if_true, Bool.false_eq_true, if_false] <;> unfold PuL <;> first | trivial | exact ⟨q1, by unfold PuL; exact ⟨q2, by unfold PuL; trivial⟩⟩ | exact ⟨q1, by unfold PuL; trivial⟩ | exact ⟨q2, by unfold PuL; trivial⟩
theorem pul_mem : ∀ {l : List D}, PuL 31 l → ∀ z ∈ l, Pu 31 z
  | [], _, z, hz => by cases hz
  | x :: l, h, z, hz => by
    unfold PuL at h
    rcases List.mem_cons.mp hz with rfl | hz
    · exact h.1
    · exact pul_mem h.2 z hz
theorem kn_sort {r1 ro : Option (Nat × Str)} {l : List D} (hk : kn r1 ro = l) : PySem.W.AllAlike (l.map D.py) ∧ PySem.W.Sortable (l.map D.py) := by
  subst hk
  have tp : ∀ x ∈ (kn r1 ro).map D.py, ∃ (m : Nat) (b : Str), x = .tuple [.int m, .str b] := fun x hx => by
    obtain ⟨z, hz, rfl⟩ := List.mem_map.mp hx
    obtain ⟨hz1, hz2⟩ := List.mem_filter.mp hz
    have : z = rD r1 ∨ z = rD ro := by simpa using hz1
    rcases this with rfl | rfl
    · cases r1 with
      | none => cases hz2
      | some p => exact ⟨p.1, p.2, rfl⟩
    · cases ro with
      | none => cases hz2
      | some p => exact ⟨p.1, p.2, rfl⟩
  refine ⟨fun x hx y hy => ?_, ?_⟩
  · obtain ⟨m, b, rfl⟩ := tp x hx
    obtain ⟨m', b', rfl⟩ := tp y hy
    simp [PySem.W.alike, PySem.W.alikeAll]
  · refine .inl fun x hx => ?_
    obtain ⟨m, b, rfl⟩ := tp x hx
    exact ⟨_, _, rfl⟩
theorem rD_pu32 {r : Option (Nat × Str)} (h : Pu 30 (rD r)) : Pu 32 (rD r) := by
  cases r with
  | none => exact pNon
  | some p =>
    obtain ⟨m, b⟩ := p
    refine rd_pu32 ?_
    have h' : Pu 30 (.tup [.int m, .str b]) := h
    unfold Pu PuL at h'
    have h2 := h'.2
    unfold PuL at h2
    have := h2.1
    unfold Pu at this
    exact this
theorem kn_pu32 {r1 ro : Option (Nat × Str)} (p1 : Pu 30 (rD r1)) (p2 : Pu 30 (rD ro)) {z : D} (hz : z ∈ kn r1 ro) : Pu 32 z := by
  obtain ⟨hz1, hz2⟩ := List.mem_filter.mp hz
  have : z = rD r1 ∨ z = rD ro := by simpa using hz1
  rcases this with rfl | rfl
  · exact rD_pu32 p1
  · exact rD_pu32 p2
theorem at_last2 {l : List D} {z : D} : atI (l ++ [z]) (-1) = some z := by
  unfold atI ixN
  rw [if_neg (by decide), List.length_append, List.length_singleton, if_pos (by omega)]
  show (l ++ [z])[(((l.length + 1 : Nat) : Int) + -1).toNat]? = _
  rw [show (((l.length + 1 : Nat) : Int) + -1).toNat = l.length from by omega, List.getElem?_append_right (Nat.le_refl _), Nat.sub_self]; rfl
theorem kn_tup {r1 ro : Option (Nat × Str)} {z : D} (hz : z ∈ kn r1 ro) : ∃ (n : Nat) (b : Str), z = .tup [.int n, .str b] := by
  obtain ⟨hz1, hz2⟩ := List.mem_filter.mp hz
  have : z = rD r1 ∨ z = rD ro := by simpa using hz1
  rcases this with rfl | rfl
  · cases r1 with
    | none => cases hz2
    | some p => exact ⟨p.1, p.2, rfl⟩
  · cases ro with
    | none => cases hz2
    | some p => exact ⟨p.1, p.2, rfl⟩
end S02

namespace S02
open PySem L2 Y TL
/-! the plain law: texts that are not whole -/
def Not (s : Str) : Prop := ∀ r, IsOf s r → r = none
theorem not_of {s : Str} (h : ∀ m (b : List Nat), 10 ∉ b → tl s = W3 (numL m) b (EN ++ numL m) → False) : Not s := fun r hr => by
  cases r with
  | none => rfl
  | some p =>
    obtain ⟨h1, h2⟩ := (hr p.1 p.2).mp rfl
    exact (h _ _ h1 h2).elim
theorem not_cnt {s : Str} {k : Nat} (hk : (tl s).count 10 = k) (h3 : k ≠ 3) : Not s := not_of fun m b hb e => by
  rw [e, cnt3 (num_free m) hb (en_free m)] at hk
  exact h3 hk.symm
theorem not_e : Not (Str.ofString "") := not_cnt (k := 0) (by decide +kernel) (by decide)
theorem not_1 : Not (Str.ofString "3\nx\nend 4\n") := not_of fun m b hb e => by
  have t : tl (Str.ofString "3\nx\nend 4\n") = [51] ++ 10 :: ([120] ++ 10 :: ([101, 110, 100, 32, 52] ++ [10])) := by decide +kernel
  rw [t] at e
  obtain ⟨h1, h2⟩ := free_uniq (by decide) (num_free m) e
  obtain ⟨h3, h4⟩ := free_uniq (by decide) hb h2
  rw [← h1] at h4
  revert h4
  decide
theorem not_2 : Not (Str.ofString "3\nx\nend 3") := not_cnt (k := 2) (by decide +kernel) (by decide)
theorem not_3 : Not (Str.ofString "-1\nx\nend -1\n") := not_of fun m b hb e => by
  have t : tl (Str.ofString "-1\nx\nend -1\n") = [45, 49] ++ 10 :: ([120] ++ 10 :: ([101, 110, 100, 32, 45, 49] ++ [10])) := by decide +kernel
  rw [t] at e
  obtain ⟨h1, h2⟩ := free_uniq (by decide) (num_free m) e
  have : 45 ∉ numL m := numL_free (.inl (by decide))
  rw [← h1] at this
  exact this (by decide)
theorem not_4 : Not (Str.ofString "03\nx\nend 03\n") := not_of fun m b hb e => by
  have t : tl (Str.ofString "03\nx\nend 03\n") = [48, 51] ++ 10 :: ([120] ++ 10 :: ([101, 110, 100, 32, 48, 51] ++ [10])) := by decide +kernel
  rw [t] at e
  obtain ⟨h1, h2⟩ := free_uniq (by decide) (num_free m) e
  have hv := numL_val m
  rw [← h1] at hv
  have : m = 3 := hv.symm.trans (by decide)
  subst this
  revert h1
  decide
theorem not_5 : Not (Str.ofString "3\nx\ny\nend 3\n") := not_cnt (k := 4) (by decide +kernel) (by decide)
end S02

namespace S02
open PySem L2 Y TL
theorem pu_ii4 {m n : Int} : Pu 32 (D.int m) ∧ Pu 32 (D.int n) := ⟨by unfold Pu; trivial, by unfold Pu; trivial⟩
local macro_rules | `(tactic| walk_at $_:str) => `(tactic| (conv => whnf) <;> repeat' (first
  | (refine And.intro (fun (hc : (_ : Prop)) => ?_) (fun (hc : (_ : Prop)) => ?_) <;> first | exact (d_ni hc).elim | exact (d_nt hc).elim | exact (d_nl hc).elim | exact (d_tc hc).elim | exact (d_lc hc).elim | exact (hc rfl).elim | (conv => whnf))
  | (refine And.intro (by first | exact dr_t rfl | with_reducible first | exact lz1 | exact lz2 | exact lz3 | exact lz0 | exact pu_ii | exact lq2 | exact lq1 | exact lq3 | exact lq5 | assumption | exact rfl) ?_ <;> (conv => whnf))
  | fail))
abbrev NL : List Str := ["_law_script", "_law_draw", "_law_bodies", "_law_number_here", "_law_old", "_law_late", "_law_new", "_law_body", "_law_cut", "_law_is_over", "_law_found", "_law_due", "_law_other", "_law_known", "fault", "_law_thing", "_law_told"]
theorem sc_law : FnScope NL ["_law_script"] (defScope slaw) := ⟨rfl, rfl, rfl, by decide +kernel, rfl, by decide +kernel, by decide +kernel⟩
theorem ints_get {lo : Int} {n i : Nat} {d : D} (h : (Y.intsFrom lo n)[i]? = some d) : i < n ∧ d = .int (lo + i) := by
  unfold Y.intsFrom at h
  rw [List.getElem?_map] at h
  by_cases hi : i < n
  · rw [List.getElem?_range hi] at h
    cases h; exact ⟨hi, rfl⟩
  · rw [List.getElem?_eq_none (by rw [List.length_range]; omega)] at h; cases h
def okB (d : D) : Prop := ∃ b : Str, d = .str b ∧ 10 ∉ tl b ∧ b.length ≤ 20 ∧ PyData.strOk b = true
def Old (m : Nat) (o : Str) : Prop := o = Str.ofString "" ∨ ∃ b : Str, 10 ∉ tl b ∧ b.length ≤ 20 ∧ PyData.strOk b = true ∧ tl o = W3 (numL m) (tl b) (EN ++ numL m)
section
variable {P : Program} {w : World} {K : PySem.W.Frag} {mg : Str → Option Value} {base : Heap}
theorem law_front (T : Txt mg) (F_whole_text : Df P w K mg base 1 "whole_text" ["number", "body"] wText) (F_whole_of : Df P w K mg base 2 "whole_of" ["text"] wOf) (F_torn : Df P w K mg base 2 "torn" ["old", "new", "cut", "is_over"] wTorn) (F_newest : Df P w K mg base 3 "newest" ["places"] wNewest) (F_take : Dr P w K mg base 2 "_law_take" ["_law_draw", "_law_many"] wTake) (F_pick : Dr P w K mg base 3 "_law_pick" ["_law_draw", "_law_items"] wPick) {f : Addr} {cdv : Value} {A : Around} {outer : List Env} {s : Shared} {H : Hp} {E : XK} (hr : Room 3 (A.deeper (PyProof.Rows.envOfC "law" (defScope slaw) s.heap.objs.size f cdv))) :
  ∃ t wS, DSs (cxOf CX0 P w K mg base NL "law" (defScope slaw) f cdv A outer s H E).nox (((defBody slaw).drop 1).take 8) t wS ∧ ∀ E' : DEnds, (∀ (o nw : Str) (late : Nat) (x2 x3 x7 x8 x9 x10 x11 x12 x13 x14 x15 x16 : Sl), o.length ≤ 300 → nw.length ≤ 300 → E'.nx [.no, .dr, x2, x3, .d (.str o), .d (.int late), .d (.str nw), x7, x8, x9, x10, x11, x12, x13, x14, x15, x16]) → wS (.no :: .dr :: List.replicate 15 .no) E' := by
  refine ⟨_, _,
  (dss_cons (ds_set (i := 2) sc_law.nd rfl (by first | exact Or.inl rfl | exact Or.inr rfl) (DN.toE (dn_lst (da_cons de_str (da_cons de_str (da_cons de_str (da_cons de_str (da_cons de_str (da_cons de_str (da_cons de_str da_nil))))))))))
  (dss_cons (ds_set (i := 3) sc_law.nd rfl (by first | exact Or.inl rfl | exact Or.inr rfl) (de_clRK (K := K) 1 F_pick (hr.mono (by omega)) rfl (pe_var rfl (by first | exact Or.inl rfl | exact Or.inr (Or.inl rfl) | exact Or.inr (Or.inr rfl)) (by decide) (by decide)) (da_cons (DN.toE (dn_lst (da_cons de_int (da_cons de_int (da_cons de_int (da_cons de_int (da_cons de_int (da_cons de_int (da_cons de_int (da_cons de_int (da_cons de_int (da_cons de_int da_nil)))))))))))) da_nil)))
  (dss_cons (ds_set (i := 4) sc_law.nd rfl (by first | exact Or.inl rfl | exact Or.inr rfl) (de_ifE (dt_cmp op_gt so_gt (DE.toB (de_clRK (K := K) 1 F_take (hr.mono (by omega)) rfl (pe_var rfl (by first | exact Or.inl rfl | exact Or.inr (Or.inl rfl) | exact Or.inr (Or.inr rfl)) (by decide) (by decide)) (da_cons de_int da_nil))) (DE.toB de_int) (nomark _)) (de_clK (K := K) F_whole_text (hr.mono (by omega)) rfl (da_cons (de_var 3) (da_cons (de_clRK (K := K) 1 F_pick (hr.mono (by omega)) rfl (pe_var rfl (by first | exact Or.inl rfl | exact Or.inr (Or.inl rfl) | exact Or.inr (Or.inr rfl)) (by decide) (by decide)) (da_cons (de_var 2) da_nil)) da_nil))) de_str))
  (dss_cons (ds_set (i := 5) sc_law.nd rfl (by first | exact Or.inl rfl | exact Or.inr rfl) (de_op (op_addUK (K := K)) so_add (db_var 3) (DE.toB (de_op op_mul so_mul (DE.toB de_int) (DE.toB (de_op (op_addUK (K := K)) so_add (DE.toB de_int) (DE.toB (de_clRK (K := K) 1 F_take (hr.mono (by omega)) rfl (pe_var rfl (by first | exact Or.inl rfl | exact Or.inr (Or.inl rfl) | exact Or.inr (Or.inr rfl)) (by decide) (by decide)) (da_cons de_int da_nil)))))))))
  (dss_cons (ds_set (i := 6) sc_law.nd rfl (by first | exact Or.inl rfl | exact Or.inr rfl) (de_clK (K := K) F_whole_text (hr.mono (by omega)) rfl (da_cons (de_var 5) (da_cons (de_clRK (K := K) 1 F_pick (hr.mono (by omega)) rfl (pe_var rfl (by first | exact Or.inl rfl | exact Or.inr (Or.inl rfl) | exact Or.inr (Or.inr rfl)) (by decide) (by decide)) (da_cons (de_var 2) da_nil)) da_nil))))
  (dss_cons (ds_set (i := 7) sc_law.nd rfl (by first | exact Or.inl rfl | exact Or.inr rfl) (de_ixK (K := K) (DE.toB (DN.toE (dn_split (de_var 6) de_str))) (DE.toB de_int) (fun _ _ => rfl)))
  (dss_cons (ds_if (DW.dt (dw_or (dt_cmp (op_neDK (K := K) hr.units) so_neU (DE.toB (de_clK (K := K) F_whole_of (hr.mono (by omega)) rfl (da_cons (de_var 6) da_nil))) (DE.toB (de_tup (da_cons (de_var 5) (da_cons (de_var 7) da_nil)))) (nomark _)) (dw_or1 (dt_cmp op_ne so_neS (db_var 6) (DE.toB (de_op (op_addUK (K := K)) so_add (DE.toB (de_op (op_addUK (K := K)) so_add (DE.toB (de_op (op_addUK (K := K)) so_add (DE.toB (de_op (op_addUK (K := K)) so_add (DE.toB (de_op (op_addUK (K := K)) so_add (DE.toB (de_ty call_str_int sc_strOf rfl T.str (by with_unfolding_all rfl) (dab_cons (db_var 5) dab_nil))) (DE.toB de_str))) (db_var 7))) (DE.toB de_str))) (DE.toB (de_ty call_str_int sc_strOf rfl T.str (by with_unfolding_all rfl) (dab_cons (db_var 5) dab_nil))))) (DE.toB de_str))) (nomark _))))) (dss_one (ds_ret de_bl)) dss_nil)
  (dss_one (ds_for PassesOwn.never rfl (di_range1 rfl T.range (da_cons (de_op (op_addUK (K := K)) so_add (DE.toB (de_cb (call_lenK (K := K)) sc_len rfl T.len (by with_unfolding_all rfl) (dab_cons (db_var 6) dab_nil))) (DE.toB de_int)) da_nil)) (dg_name (i := 8) sc_law.nd rfl (by first | exact Or.inl rfl | exact Or.inr rfl)) (dss_one (ds_for PassesOwn.never rfl (di_seq (de_tup (da_cons de_bl (da_cons de_bl da_nil)))) (dg_name (i := 9) sc_law.nd rfl (by first | exact Or.inl rfl | exact Or.inr rfl)) (dss_cons (ds_set (i := 10) sc_law.nd rfl (by first | exact Or.inl rfl | exact Or.inr rfl) (de_clK (K := K) F_torn (hr.mono (by omega)) rfl (da_cons (de_var 4) (da_cons (de_var 6) (da_cons (de_var 8) (da_cons (de_var 9) da_nil))))))
  (dss_cons (ds_set (i := 11) sc_law.nd rfl (by first | exact Or.inl rfl | exact Or.inr rfl) (de_op (op_addUK (K := K)) so_add (DE.toB (de_sliceK (K := K) (db_var 6) do_none (do_some (de_var 8)))) (DE.toB (de_ifE (DW.dt (dw_and (dt_val (de_var 9)) (dw_and1 (dt_cmp op_lt so_lt (db_var 8) (DE.toB (de_cb (call_lenK (K := K)) sc_len rfl T.len (by with_unfolding_all rfl) (dab_cons (db_var 6) dab_nil))) (nomark _))))) (de_sliceK (K := K) (db_var 4) (do_some (de_var 8)) do_none) de_str))))
  (dss_cons (ds_if (DW.dt (dw_or (dt_cmp op_ne so_neS (db_var 10) (db_var 11) (nomark _)) (dw_or1 (dt_cmp (op_neDK (K := K) hr.units) so_neU (DE.toB (de_cmp op_notN so_notN (DE.toB (de_clK (K := K) F_whole_of (hr.mono (by omega)) rfl (da_cons (de_var 10) da_nil))) (DE.toB de_non) (nomark _))) (DE.toB (de_or (de_cmp op_eq so_eqS (db_var 10) (db_var 6) (nomark _)) (de_one (de_and (de_cmp op_eq so_eqS (db_var 10) (db_var 4) (nomark _)) (de_one (de_cmp op_ne so_neS (db_var 4) (DE.toB de_str) (nomark _))))))) (nomark _))))) (dss_one (ds_ret de_bl)) dss_nil)
  (dss_cons (ds_set (i := 12) sc_law.nd rfl (by first | exact Or.inl rfl | exact Or.inr rfl) (de_ifE (dt_cmp (op_eqDK (K := K) hr.units) so_eqU (DE.toB (de_clRK (K := K) 1 F_take (hr.mono (by omega)) rfl (pe_var rfl (by first | exact Or.inl rfl | exact Or.inr (Or.inl rfl) | exact Or.inr (Or.inr rfl)) (by decide) (by decide)) (da_cons de_int da_nil))) (DE.toB de_int) (nomark _)) (de_clK (K := K) F_whole_text (hr.mono (by omega)) rfl (da_cons (de_op op_sub so_sub (db_var 5) (DE.toB de_int)) (da_cons de_str da_nil))) de_str))
  (dss_cons (ds_lc (i := 13) (own := [("_law_told", 16)]) rfl sc_law.nd rfl rfl (by rfl) (DI.toB (di_seq (de_tup (da_cons (de_clK (K := K) F_whole_of (hr.mono (by omega)) rfl (da_cons (de_var 10) da_nil)) (da_cons (de_clK (K := K) F_whole_of (hr.mono (by omega)) rfl (da_cons (de_var 12) da_nil)) da_nil))))) (blkOk_by (N := ["_law_script", "_law_draw", "_law_bodies", "_law_number_here", "_law_old", "_law_late", "_law_new", "_law_body", "_law_cut", "_law_is_over", "_law_found", "_law_due", "_law_other", "_law_known", "fault", "_law_thing", "_law_told"]) (sc := defScope slaw) (by decide +kernel)) (fun _ _ _ _ _ => (dg_name (i := 16) sc_law.nd rfl (by first | exact Or.inl rfl | exact Or.inr rfl))) (fun _ _ _ _ _ => (dts_one (dt_cmp op_notN so_notN (db_var 16) (DE.toB de_non) (nomark _)))) (fun _ _ _ _ _ => (de_var 16)))
  (dss_one (ds_if (dt_cmp (op_neDK (K := K) hr.units) so_neU (DE.toB (de_clK (K := K) F_newest (hr.mono (by omega)) rfl (da_cons (de_tup (da_cons (de_var 10) (da_cons (de_var 12) da_nil))) da_nil))) (DE.toB (de_ifE (dt_cmp (op_neDK (K := K) hr.units) so_neU (db_var 13) (DE.toB (DN.toE (dn_lst da_nil))) (nomark _)) (de_ixK (K := K) (DE.toB (DN.toE (dn_sortD hr.units rfl T.sorted (de_var 13)))) (DE.toB (de_neg de_int)) (fun _ _ => rfl)) de_non)) (nomark _)) (dss_one (ds_ret de_bl)) dss_nil)))))))))))))))))), fun E' hE => ?_⟩
  have okb : ∀ x ∈ [D.str (Str.ofString ""), D.str (Str.ofString "(1 2)"), D.str (Str.ofString "7"), D.str (Str.ofString "()"), D.str (Str.ofString "(0 0 (a 1 2))"), D.str (Str.ofString "end 3"), D.str (Str.ofString "-")], okB x := by
    intro x hx
    simp only [List.mem_cons, List.not_mem_nil, or_false] at hx
    rcases hx with rfl | rfl | rfl | rfl | rfl | rfl | rfl <;> exact ⟨_, rfl, by decide +kernel, by decide +kernel, by decide +kernel⟩
  have lnb : [D.str (Str.ofString ""), D.str (Str.ofString "(1 2)"), D.str (Str.ofString "7"), D.str (Str.ofString "()"), D.str (Str.ofString "(0 0 (a 1 2))"), D.str (Str.ofString "end 3"), D.str (Str.ofString "-")].length = 7 := rfl
  walk_at "x"
  refine ⟨by show 7 ≤ sizeLine; decide, ?_⟩
  generalize [D.str (Str.ofString ""), D.str (Str.ofString "(1 2)"), D.str (Str.ofString "7"), D.str (Str.ofString "()"), D.str (Str.ofString "(0 0 (a 1 2))"), D.str (Str.ofString "end 3"), D.str (Str.ofString "-")] = bod at okb lnb ⊢
  walk_at "x"
  refine ⟨by show 10 ≤ sizeLine; decide, ?_⟩
  walk_at "x"
  refine ⟨_, rfl, by decide, fun x hx => ?_⟩
  obtain ⟨m, rfl, hm⟩ : ∃ m : Nat, x = .int (m : Int) ∧ m ≤ 1009 := by
    simp only [List.mem_cons, List.not_mem_nil, or_false] at hx
    rcases hx with rfl | rfl | rfl | rfl | rfl | rfl | rfl | rfl | rfl | rfl
    · exact ⟨0, rfl, by decide⟩
    · exact ⟨1, rfl, by decide⟩
    · exact ⟨7, rfl, by decide⟩
    · exact ⟨8, rfl, by decide⟩
    · exact ⟨9, rfl, by decide⟩
    · exact ⟨10, rfl, by decide⟩
    · exact ⟨98, rfl, by decide⟩
    · exact ⟨99, rfl, by decide⟩
    · exact ⟨101, rfl, by decide⟩
    · exact ⟨1009, rfl, by decide⟩
  walk_at "x"
  refine ⟨_, rfl, by decide, fun v v0 v1 => ?_⟩
  refine (fun (rest : ∀ o : Str, Old m o → (?G : Str → Prop) o) => ?body) ?rest
  case body =>
    walk_at "x"
    · refine ⟨bod, rfl, by omega, fun b0 hb0 => ?_⟩
      obtain ⟨b, rfl, hb1, hb2, hb3⟩ := okb b0 hb0
      walk_at "x"
      refine ⟨m, b, rfl, Nat.lt_of_le_of_lt hm (by decide), by omega, fun t ht => ?_⟩
      walk_at "x"
      exact rest t (.inr ⟨b, hb1, hb2, hb3, ht⟩)
    · exact rest _ (.inl rfl)
  case rest =>
    intro o ho
    refine ⟨_, rfl, by decide, fun v v0 v1 => ?_⟩
    walk_at "x"
    refine ⟨.inl (by decide), ?_⟩
    walk_at "x"
    obtain ⟨late, hlate, hlt, hle⟩ : ∃ late : Nat, (m : Int) + 2 * (1 + v) = (late : Int) ∧ m < late ∧ late ≤ 1200 := ⟨(m + 2 * (1 + v)).toNat, by omega, by omega, by omega⟩
    rw [hlate]
    refine ⟨bod, rfl, by omega, fun b0 hb0 => ?_⟩
    obtain ⟨b, rfl, hb1, hb2, hb3⟩ := okb b0 hb0
    walk_at "x"
    have hlt50 : late < 10 ^ 50 := Nat.lt_of_le_of_lt hle (by decide)
    refine ⟨late, b, rfl, hlt50, by omega, fun nw hnw => ?_⟩
    have hnl : (numL late).length ≤ 4 := numL_len (by decide) (Nat.lt_of_le_of_lt hle (by decide))
    have hnwl : nw.length ≤ 40 := by
      rw [len_tl, hnw]
      rw [len_tl] at hb2
      simp only [W3, EN, List.length_append, List.length_cons, List.length_nil]
      omega
    have hsp := whole_split hb1 hnw
    have hspc : ((Str.ofString "\n").length == 0) = false ∧ nw.length + 2 ≤ sizeLine ∧ (Txt.split nw (Str.ofString "\n")).length ≤ sizeLine := ⟨by rw [len_nl]; rfl, Nat.le_trans (by omega : _ ≤ 1000) big, by rw [hsp]; show 4 ≤ sizeLine; decide⟩
    walk_at "x"
    rw [hsp]
    walk_at "x"
    refine ⟨_, rfl, trivial, fun z => (by cases z), fun s0 e0 => ?_⟩
    cases e0
    refine ⟨by omega, fun r hr => ?_⟩
    have er := (hr late b).mpr ⟨hb1, hnw⟩
    subst er
    have pt : Pu 32 (rD (some (late, b))) := by
      show Pu 32 (.tup [.int late, .str b])
      unfold Pu PuL Pu PuL Pu
      exact ⟨trivial, hb3, by unfold PuL; trivial⟩
    have hlog : ((late : Nat) : Int).natAbs.log2 < 1920 := log_small (k := 50) (by rw [Int.natAbs_natCast]; exact hlt50) (by decide)
    have hns : (Str.ofString (toString ((late : Nat) : Int))).length ≤ 4 := by rw [len_tl, show tl (Str.ofString (toString ((late : Nat) : Int))) = numL late from tl_numS late]; exact hnl
    have tns : tl (Str.ofString (toString ((late : Nat) : Int))) = numL late := tl_numS late
    have tnn : tl (Str.ofString "\nend ") = 10 :: EN := by decide +kernel
    have lnn : (Str.ofString "\nend ").length = 5 := by rw [len_tl, tnn]; rfl
    have hB := big
    walk_at "x"
    refine ⟨⟨pt, pt⟩, fun hc => (hc rfl).elim, fun _ => ?_⟩
    walk_at "x"
    iterate 5 (refine ⟨by simp only [len_app, len_nl, len_end, lnn]; omega, ?_⟩; walk_at "x")
    · exfalso
      apply ‹nw ≠ _›
      refine ext_tl ?_
      rw [hnw, tl_append, tl_append, tl_append, tl_append, tl_append, tl_nl, tnn, tns]
      simp [W3]
    · refine ⟨by omega, ?_⟩
      walk_at "x"
      refine ⟨⟨by omega, by omega⟩, ?_⟩
      refine g_for (fun i env => ∃ x2 x3 x7 x8 x9 x10 x11 x12 x13 x14 x15 x16 : Sl, env = [.no, .dr, x2, x3, .d (.str o), .d (.int late), .d (.str nw), x7, x8, x9, x10, x11, x12, x13, x14, x15, x16]) ⟨_, _, _, _, _, _, _, _, _, _, _, _, rfl⟩ ?_ ?_
      · rintro i d env' hd ⟨x2, x3, x7, x8, x9, x10, x11, x12, x13, x14, x15, x16, rfl⟩
        obtain ⟨hi, rfl⟩ := ints_get hd
        have hi' : i ≤ nw.length := by omega
        rw [Int.zero_add]
        have hol : o.length ≤ 300 := by
          rcases ho with rfl | ⟨b1, _, hb2', _, ht1⟩
          · rw [len_tl, tl_e]; exact Nat.zero_le _
          · have hnm : (numL m).length ≤ 4 := numL_len (by decide) (Nat.lt_of_le_of_lt hm (by decide))
            rw [len_tl, ht1]
            rw [len_tl] at hb2'
            simp only [W3, EN, List.length_append, List.length_cons, List.length_nil]
            omega
        walk_at "x"
        refine g_for (fun j env => ∃ x2 x3 x7 x9 x10 x11 x12 x13 x14 x15 x16 : Sl, env = [.no, .dr, x2, x3, .d (.str o), .d (.int late), .d (.str nw), x7, .d (.int i), x9, x10, x11, x12, x13, x14, x15, x16]) ⟨_, _, _, _, _, _, _, _, _, _, _, rfl⟩ ?_ ?_
        · rintro j d env' hd ⟨x2, x3, x7, x9, x10, x11, x12, x13, x14, x15, x16, rfl⟩
          obtain ⟨bb, rfl⟩ : ∃ bb, d = D.bl bb := by
            match j with
            | 0 => cases hd; exact ⟨_, rfl⟩
            | 1 => cases hd; exact ⟨_, rfl⟩
            | j + 2 => cases hd
          have hsn : nw.length ≤ sizeLine := Nat.le_trans (by omega : _ ≤ 1000) big
          have hso : o.length ≤ sizeLine := Nat.le_trans (by omega : _ ≤ 1000) big
          walk_at "x"
          refine ⟨o, nw, i, bb, rfl, hi', hol, by omega, fun t ht => ?_⟩
          have tcut : tl (cutS nw none (some (i : Int))) = (tl nw).take i := tl_cutTo nw i hi'
          refine (fun (rest2 : ∀ (s9 : Sl) (due : Str), due = t → (?G2 : Sl → Str → Prop) s9 due) => ?body2) ?rest2
          case body2 =>
            cases bb with
            | true =>
              walk_at "x"
              · refine ⟨Nat.le_trans (Nat.add_le_add (cutS_length _ _ _) (cutS_length _ _ _)) (Nat.le_trans (by omega : _ ≤ 1000) big), ?_⟩
                have e : cutS nw none (some (i : Int)) ++ cutS o (some (i : Int)) none = t := ext_tl (by rw [tl_append, tcut, tl_cutFrom, ht, if_pos ⟨rfl, by omega⟩])
                generalize cutS nw none (some (i : Int)) ++ cutS o (some (i : Int)) none = due at e ⊢
                generalize Sl.d (D.bl true) = s9
                exact rest2 s9 due e
              · refine ⟨Nat.le_trans (Nat.add_le_add (cutS_length _ _ _) (Nat.le_refl _)) (by rw [show (Str.ofString "").length = 0 from by rw [len_tl, tl_e]; rfl]; exact hsn), ?_⟩
                exact rest2 (Sl.d (D.bl true)) (cutS nw none (some (i : Int)) ++ Str.ofString "") (ext_tl (by rw [tl_append, tcut, tl_e, ht, if_neg (by omega)]))
            | false =>
              walk_at "x"
              refine ⟨Nat.le_trans (Nat.add_le_add (cutS_length _ _ _) (Nat.le_refl _)) (by rw [show (Str.ofString "").length = 0 from by rw [len_tl, tl_e]; rfl]; exact hsn), ?_⟩
              exact rest2 (Sl.d (D.bl false)) (cutS nw none (some (i : Int)) ++ Str.ofString "") (ext_tl (by rw [tl_append, tcut, tl_e, ht, if_neg (by simp)]))
          case rest2 =>
            rintro s9 due rfl
            walk_at "x"
            have hdl : due.length ≤ 500 := by
              rw [len_tl, ht, List.length_append]
              have h1 : ((tl nw).take i).length ≤ 40 := Nat.le_trans (List.length_take_le ..) (by omega)
              split
              · rw [List.length_drop, ← len_tl]; omega
              · simp only [List.length_nil]; omega
            refine ⟨_, rfl, trivial, fun z => (by cases z), fun s0 e0 => ?_⟩
            cases e0
            refine ⟨hdl, fun r hr2 => ?_⟩
            have hE3 : 10 ∉ EN := by decide
            have hk : (∃ p, r = some p) ↔ (due = nw ∨ (due = o ∧ o ≠ Str.ofString "")) := by
              constructor
              · rintro ⟨⟨m', b'⟩, rfl⟩
                obtain ⟨hf, he⟩ := (hr2 m' b').mp rfl
                have pre : tl due = (tl nw).take i → due = nw ∨ (due = o ∧ o ≠ Str.ofString "") := fun h => by
                  rcases Nat.lt_or_ge i (tl nw).length with g | g
                  · exfalso
                    rw [hnw] at g h
                    exact prefix_no (num_free late) hb1 (en_free late) (num_free m') hf (en_free m') g (h.symm.trans he)
                  · rw [List.take_of_length_le g] at h
                    exact .inl (ext_tl h)
                rcases ho with rfl | ⟨b1, hb1', _, _, ht1⟩
                · refine pre (ht.trans ?_)
                  rw [tl_e]; split <;> simp
                · by_cases hc : bb = true ∧ i < nw.length
                  · rw [if_pos hc, hnw, ht1, he] at ht
                    have ne : numL late ≠ numL m := fun z => by have := numL_inj z; omega
                    rcases overlay (num_free late) hb1 (num_free m) hb1' hE3 (num_free m') hf (en_free m') ne rfl ht.symm with h | h
                    · exact .inl (ext_tl (he.trans (h.trans hnw.symm)))
                    · refine .inr ⟨ext_tl (he.trans (h.trans ht1.symm)), fun z => ?_⟩
                      rw [z, tl_e] at ht1
                      have := congrArg List.length ht1
                      simp [W3] at this
                  · exact pre (ht.trans (by rw [if_neg hc, List.append_nil]))
              · rintro (rfl | ⟨rfl, hne⟩)
                · exact ⟨_, (hr2 late b).mpr ⟨hb1, hnw⟩⟩
                · rcases ho with rfl | ⟨b1, hb1', _, _, ht1⟩
                  · exact (hne rfl).elim
                  · exact ⟨_, (hr2 m b1).mpr ⟨hb1', ht1⟩⟩
            refine (fun (rest3 : (?G3 : Prop)) => ?body3) ?rest3
            case body3 =>
              cases r with
              | none =>
                have h1 : due ≠ nw := fun z => by obtain ⟨_, e⟩ := hk.mpr (.inl z); cases e
                have h2 : due = o → o = Str.ofString "" := fun z => by
                  by_cases h : o = Str.ofString ""
                  · exact h
                  · obtain ⟨_, e⟩ := hk.mpr (.inr ⟨z, h⟩); cases e
                walk_at "x"
                all_goals first
                  | (clear rest3; exfalso; exact h1 ‹_›)
                  | (clear rest3; exfalso; exact ‹o ≠ _› (h2 ‹_›))
                  | exact rest3
              | some p =>
                have h1 : due ≠ nw → due = o ∧ o ≠ Str.ofString "" := fun z => by
                  rcases hk.mp ⟨p, rfl⟩ with h | h
                  · exact (z h).elim
                  · exact h
                walk_at "x"
                all_goals first
                  | (clear rest3; exfalso; exact ‹due ≠ o› (h1 ‹_›).1)
                  | (clear rest3; exfalso; exact (h1 ‹_›).2 ‹_›)
                  | exact rest3
            case rest3 =>
              refine ⟨_, rfl, by decide, fun v3 v30 v31 => ?_⟩
              refine (fun (rest4 : ∀ ot : Str, ot.length ≤ 40 → (∀ r, IsOf ot r → r = none ∨ r = some (late - 1, Str.ofString "x")) → (?G4 : Str → Prop) ot) => ?body4) ?rest4
              case body4 =>
                walk_at "x"
                · refine ⟨late - 1, Str.ofString "x", by rw [show ((late - 1 : Nat) : Int) = (late : Int) - 1 from by omega], by omega, by decide +kernel, fun t2 ht2 => ?_⟩
                  refine rest4 t2 ?_ fun r h => ?_
                  · have hn2 : (numL (late - 1)).length ≤ 4 := numL_len (by decide) (Nat.lt_of_le_of_lt (by omega : late - 1 ≤ 1200) (by decide))
                    have tx : tl (Str.ofString "x") = [120] := by decide +kernel
                    rw [len_tl, ht2, tx]
                    simp only [W3, EN, List.length_append, List.length_cons, List.length_nil]
                    omega
                  · exact .inr ((h (late - 1) (Str.ofString "x")).mpr ⟨by decide +kernel, ht2⟩)
                · refine rest4 (Str.ofString "rubbish") (by decide +kernel) fun r h => ?_
                  cases r with
                  | none => exact .inl rfl
                  | some p =>
                    obtain ⟨_, e⟩ := (h p.1 p.2).mp rfl
                    have c : (tl (Str.ofString "rubbish")).count 10 = 0 := by decide +kernel
                    rw [e, W3, List.count_append, List.count_cons_self] at c
                    omega
              case rest4 =>
                intro ot hol2 hoo
                walk_at "x"
                refine ⟨_, rfl, trivial, fun z => (by cases z), fun s0 e0 => ?_⟩
                cases e0
                refine ⟨hdl, fun r1 hr1 => ?_⟩
                obtain rfl := hr1.uniq hr2
                walk_at "x"
                refine ⟨_, rfl, trivial, fun z => (by cases z), fun s0 e0 => ?_⟩
                cases e0
                refine ⟨by omega, fun ro hro => ?_⟩
                walk_at "x"
                have hf1 : r1 = none ∨ ∃ n b', r1 = some (n, b') ∧ PyData.strOk b' = true ∧ n ≠ late - 1 := by
                  cases r1 with
                  | none => exact .inl rfl
                  | some p =>
                    refine .inr ?_
                    rcases hk.mp ⟨p, rfl⟩ with rfl | ⟨rfl, hne⟩
                    · have := (hr2 late b).mpr ⟨hb1, hnw⟩
                      exact ⟨late, b, this, hb3, by omega⟩
                    · rcases ho with rfl | ⟨b1, hb1', _, hb3', ht1⟩
                      · exact (hne rfl).elim
                      · have := (hr2 m b1).mpr ⟨hb1', ht1⟩
                        exact ⟨m, b1, this, hb3', by omega⟩
                have hro' := hoo ro hro
                have pr1 : Pu 30 (rD r1) := by
                  rcases hf1 with rfl | ⟨n, b', rfl, h, _⟩
                  · show Pu 30 .non; unfold Pu; trivial
                  · exact rd_pu30 h
                have pro : Pu 30 (rD ro) := by
                  rcases hro' with rfl | rfl
                  · show Pu 30 .non; unfold Pu; trivial
                  · exact rd_pu30 (by decide +kernel)
                have hdi : ∀ p q, r1 = some p → ro = some q → p.1 ≠ q.1 := fun p q e1 e2 => by
                  rcases hf1 with h | ⟨n, b', h, _, hn⟩
                  · rw [e1] at h; cases h
                  · rcases hro' with h' | h'
                    · rw [e2] at h'; cases h'
                    · rw [e1] at h; rw [e2] at h'
                      cases h; cases h'
                      exact hn
                refine g_lcf notNon (fun d => d) (by show 2 ≤ sizeLine; decide) (fun d L n R hd hL g1 g0 => ?_) ?_
                · have : d = rD r1 ∨ d = rD ro := by simpa using hd
                  rcases this with rfl | rfl
                  · cases r1 with
                    | none => walk_at "x"; exact g0 rfl
                    | some p => walk_at "x"; exact g1 rfl
                  · cases ro with
                    | none => walk_at "x"; exact g0 rfl
                    | some p => walk_at "x"; exact g1 rfl
                rw [List.map_id', show List.filter notNon [rD r1, rD ro] = kn r1 ro from rfl]
                walk_at "x"
                have p0 : Pu 32 (D.lst []) := by unfold Pu PuL; trivial
                refine ⟨due, ot, r1, ro, rfl, hdl, by omega, hr2, hro, pr1, pro, fun hkn => ?_, fun d ds hkn z hz he => ?_⟩
                · rw [hkn]
                  walk_at "x"
                  refine ⟨⟨p0, p0⟩, fun z => (z rfl).elim, fun _ => ?_⟩
                  walk_at "x"
                  refine ⟨⟨pNon, pNon⟩, fun z => (z rfl).elim, fun _ => ?_⟩
                  walk_at "x"
                  exact ⟨_, _, _, _, _, _, _, _, _, _, _, rfl⟩
                · have hzl := kn_last hdi hkn hz he
                  have pul := kn_pul pr1 pro
                  rw [hkn] at pul ⊢
                  walk_at "x"
                  refine ⟨⟨by unfold Pu; exact pul, p0⟩, fun _ => ?_, fun z => by cases z⟩
                  walk_at "x"
                  refine ⟨⟨(kn_sort hkn).1, (kn_sort hkn).2, fun x hx => pul_mem pul x hx⟩, ?_⟩
                  obtain ⟨l, hl⟩ := hzl
                  rw [hl]
                  walk_at "x"
                  have pz : Pu 32 z := kn_pu32 pr1 pro (hkn ▸ hz)
                  obtain ⟨n9, b9, e9⟩ := kn_tup (hkn ▸ hz : z ∈ kn r1 ro)
                  rw [e9] at pz ⊢
                  rw [at_last2]
                  walk_at "x"
                  refine ⟨⟨pz, pz⟩, fun z => (z rfl).elim, fun _ => ?_⟩
                  walk_at "x"
                  exact ⟨_, _, _, _, _, _, _, _, _, _, _, rfl⟩
        · rintro env' ⟨x2, x3, x7, x9, x10, x11, x12, x13, x14, x15, x16, rfl⟩
          walk_at "x"
          exact ⟨_, _, _, _, _, _, _, _, _, _, _, _, rfl⟩
      · rintro env' ⟨x2, x3, x7, x8, x9, x10, x11, x12, x13, x14, x15, x16, rfl⟩
        refine hE o nw late _ _ _ _ _ _ _ _ _ _ _ _ ?_ (by omega)
        rcases ho with rfl | ⟨b1, _, hb2', _, ht1⟩
        · rw [len_tl, tl_e]; exact Nat.zero_le _
        · have hnm : (numL m).length ≤ 4 := numL_len (by decide) (Nat.lt_of_le_of_lt hm (by decide))
          rw [len_tl, ht1]
          rw [len_tl] at hb2'
          simp only [W3, EN, List.length_append, List.length_cons, List.length_nil]
          omega

end
end S02

namespace S02
open PySem L2 Y TL
theorem pu_ii5 {m n : Int} : Pu 32 (D.int m) ∧ Pu 32 (D.int n) := ⟨by unfold Pu; trivial, by unfold Pu; trivial⟩
local macro_rules | `(tactic| walk_at $_:str) => `(tactic| (conv => whnf) <;> repeat' (first
  | (refine And.intro (fun (hc : (_ : Prop)) => ?_) (fun (hc : (_ : Prop)) => ?_) <;> first | exact (d_ni hc).elim | exact (d_nt hc).elim | exact (d_nl hc).elim | exact (d_tc hc).elim | exact (d_lc hc).elim | exact (hc rfl).elim | (conv => whnf))
  | (refine And.intro (by first | exact dr_t rfl | with_reducible first | exact lz1 | exact lz2 | exact lz3 | exact lz0 | exact pu_ii | exact lq2 | exact lq1 | exact lq3 | exact lq5 | assumption | exact rfl) ?_ <;> (conv => whnf))
  | fail))
def wWith : WD := fun ds q => ∃ (n : Nat) (a b c : Str), ds = [.tup [.str a, .str b], .int n, .str c] ∧ q (.tup (if n % 2 = 0 then [.str c, .str b] else [.str a, .str c]))
def pickW (n : Nat) (c : Str) : D → D := fun d => match d with | .tup [.int i, x] => if i = ((n % 2 : Nat) : Int) then .str c else x | _ => d
theorem pickW_all (n : Nat) (a b c : Str) : List.map (pickW n c) [.tup [.int 0, .str a], .tup [.int 1, .str b]] = if n % 2 = 0 then [.str c, .str b] else [.str a, .str c] := by
  rcases Nat.mod_two_eq_zero_or_one n with h | h
  · rw [if_pos h]
    simp [pickW, h]
  · rw [if_neg (by omega)]
    simp [pickW, h]
section
variable {P : Program} {w : World} {K : PySem.W.Frag} {mg : Str → Option Value} {base : Heap}
theorem sc_with_text : FnScope ["places", "number", "text", "at", "old"] ["places", "number", "text"] (defScope swith_text) := ⟨rfl, rfl, rfl, by decide +kernel, rfl, by decide +kernel, by decide +kernel⟩
-- slots: 0 places, 1 number, 2 text, 3 at, 4 old
theorem ok_with_text (T : Txt mg) (h0 : Here K mg "with_text" ["places", "number", "text"] swith_text)  : Df P w K mg base 1 "with_text" ["places", "number", "text"] wWith := by
  obtain ⟨_, places1, places2⟩ := T.places.ex
  refine df_of h0 sc_with_text (fun ds q h => (by obtain ⟨n, a, b, c, rfl, _⟩ := h; rfl)) fun f cdv A outer s H E hr => ⟨_, _,
  (dss_one (ds_ret (de_ty (call_tupleK (K := K)) sc_tuple rfl T.tuple (by with_unfolding_all rfl) (dab_cons (DE.toB (DN.toE (dn_lc (own := [("at", 3), ("old", 4)]) rfl sc_with_text.nd (DI.toB (di_enum rfl T.enumerate (da_cons (de_var 0) da_nil))) (blkOk_by (N := ["places", "number", "text", "at", "old"]) (sc := defScope swith_text) (by decide +kernel)) (fun _ _ _ _ _ => (dg_tupK (K := K) (n := 2) rfl (dgs_cons (dg_name (i := 3) sc_with_text.nd rfl (by first | exact Or.inl rfl | exact Or.inr rfl)) (dgs_cons (dg_name (i := 4) sc_with_text.nd rfl (by first | exact Or.inl rfl | exact Or.inr rfl)) dgs_nil)))) (fun _ _ _ _ _ => dts_nil) (fun _ _ _ _ _ => (de_ifE (dt_cmp (op_eqDK (K := K) hr.units) so_eqU (db_var 3) (DE.toB (de_op op_mod so_mod (db_var 1) (DE.toB (de_glob (v := .int 2) rfl places1 places2 (fun _ => R.int_) (by decide))))) (nomark _)) (de_var 2) (de_var 4)))))) dab_nil)))), fun ds q h => ?_⟩

  obtain ⟨n, a, b, c, rfl, hq⟩ := h
  walk_at "x"
  rw [show enumD [D.str a, D.str b] = [.tup [.int 0, .str a], .tup [.int 1, .str b]] from rfl]
  refine g_lcm (pickW n c) lz2 (fun d L R hd hL hR => ?_) ?_
  · have hn2 : (n : Int) % 2 = ((n % 2 : Nat) : Int) := by omega
    have pI : ∀ i : Int, Pu 32 (D.int i) := fun i => by unfold Pu; trivial
    rcases List.mem_cons.mp hd with rfl | hd
    · walk_at "x"
      refine ⟨by decide, ?_⟩
      rw [hn2]
      walk_at "x"
      all_goals have hR' : R (if (0 : Int) = ((n % 2 : Nat) : Int) then .str c else .str a) := hR
      all_goals first
        | (rw [if_pos (D.int.inj ‹D.int 0 = _›)] at hR'; exact hR')
        | (rw [if_neg (fun z => ‹D.int 0 ≠ _› (by rw [z]))] at hR'; exact hR')
    · rw [List.mem_singleton.mp hd] at hR ⊢
      walk_at "x"
      refine ⟨by decide, ?_⟩
      rw [hn2]
      walk_at "x"
      all_goals have hR' : R (if (1 : Int) = ((n % 2 : Nat) : Int) then .str c else .str b) := hR
      all_goals first
        | (rw [if_pos (D.int.inj ‹D.int 1 = _›)] at hR'; exact hR')
        | (rw [if_neg (fun z => ‹D.int 1 ≠ _› (by rw [z]))] at hR'; exact hR')
  · rw [pickW_all]
    walk_at "x"
    exact hq
end
end S02

namespace S02
open PySem L2 Y TL
theorem pu_ii6 {m n : Int} : Pu 32 (D.int m) ∧ Pu 32 (D.int n) := ⟨by unfold Pu; trivial, by unfold Pu; trivial⟩
local macro_rules | `(tactic| walk_at $_:str) => `(tactic| (conv => whnf) <;> repeat' (first
  | (refine And.intro (fun (hc : (_ : Prop)) => ?_) (fun (hc : (_ : Prop)) => ?_) <;> first | exact (d_ni hc).elim | exact (d_nt hc).elim | exact (d_nl hc).elim | exact (d_tc hc).elim | exact (d_lc hc).elim | exact (hc rfl).elim | (conv => whnf))
  | (refine And.intro (by first | exact dr_t rfl | with_reducible first | exact lz1 | exact lz2 | exact lz3 | exact lz0 | exact pu_ii | exact lq2 | exact lq1 | exact lq3 | exact lq5 | assumption | exact rfl) ?_ <;> (conv => whnf))
  | fail))
def wTornX (C : Addr) : WDX := fun ds q xq => ∃ (o n : Str) (c : D) (b : Bool), ds = [.str o, .str n, c, .bl b] ∧ n.length ≤ 500 ∧ flatT c ∧ ((isT .int c && !isT .bool c) = true → ∃ i : Int, c = .int i ∧ (i < 0 ∨ (n.length : Int) < i)) ∧ xq (.ref C) [("place", c)]
section
variable {P : Program} {w : World} {K : PySem.W.Frag} {mg : Str → Option Value} {base : Heap}

theorem ok_tornX {C : Addr} (T : Txt mg) (h0 : Here K mg "torn" ["old", "new", "cut", "is_over"] storn) (F_is_whole : Df P w K mg base 1 "is_whole" ["thing"] wWhole) (hX : YX.X1 P K C "place") (hC : mg "BadPlace" = some (.ref C)) : Dx P w K mg base 2 "torn" ["old", "new", "cut", "is_over"] (wTornX C) := by
  refine dxf_of h0 sc_torn (fun ds q xq h => by obtain ⟨o, n, c, b, rfl, _⟩ := h; rfl) fun f cdv A outer s H E hr => ⟨_, _,
  (dx_cons (dx_if (DW.dt (dw_or (dt_not (dt_val (de_clK (K := K) F_is_whole (hr.mono (by omega)) rfl (da_cons (de_var 2) da_nil)))) (dw_or1 (dt_not (dt_chain op_le so_le op_le so_le (DE.toB de_int) (db_var 2) (DE.toB (de_cb (call_lenK (K := K)) sc_len rfl T.len (by with_unfolding_all rfl) (dab_cons (db_var 1) dab_nil)))))))) (dx_one (dx_raise (k := 0) rfl (takes_of rfl rfl rfl rfl) hX (hr.mono (by omega)) rfl hC (da_cons (de_var 2) da_nil))) dx_nil)
  (dx_of (dss_one (ds_ret (de_ifE (DW.dt (dw_and (dt_val (de_var 3)) (dw_and1 (dt_cmp op_lt so_lt (db_var 2) (DE.toB (de_cb (call_lenK (K := K)) sc_len rfl T.len (by with_unfolding_all rfl) (dab_cons (db_var 1) dab_nil))) (nomark _))))) (de_op (op_addUK (K := K)) so_add (DE.toB (de_sliceK (K := K) (db_var 1) do_none (do_some (de_var 2)))) (DE.toB (de_sliceK (K := K) (db_var 0) (do_some (de_var 2)) do_none))) (de_sliceK (K := K) (db_var 1) do_none (do_some (de_var 2)))))))), fun ds q xq h => ?_⟩
  obtain ⟨o, n, c, b, rfl, hn, hfl, hc, hx⟩ := h
  have hsn : n.length ≤ sizeLine := Nat.le_trans hn (by decide)
  walk_at "x"
  refine ⟨c, rfl, hfl, ?_⟩
  generalize (isT Tn.int c && !isT Tn.bool c) = bw at hc ⊢
  cases bw with
  | false =>
    walk_at "x"
    exact hx
  | true =>
    obtain ⟨i, rfl, hi⟩ := hc rfl
    walk_at "x"
    all_goals first
      | exact hx
      | (exfalso; omega)
end
end S02

namespace S02
open PySem L2 Y TL
theorem pu_ii7 {m n : Int} : Pu 32 (D.int m) ∧ Pu 32 (D.int n) := ⟨by unfold Pu; trivial, by unfold Pu; trivial⟩
local macro_rules | `(tactic| walk_at $_:str) => `(tactic| (conv => whnf) <;> repeat' (first
  | (refine And.intro (fun (hc : (_ : Prop)) => ?_) (fun (hc : (_ : Prop)) => ?_) <;> first | exact (d_ni hc).elim | exact (d_nt hc).elim | exact (d_nl hc).elim | exact (d_tc hc).elim | exact (d_lc hc).elim | exact (hc rfl).elim | (conv => whnf))
  | (refine And.intro (by first | exact dr_t rfl | with_reducible first | exact lz1 | exact lz2 | exact lz3 | exact lz0 | exact pu_ii | exact lq2 | exact lq1 | exact lq3 | exact lq5 | assumption | exact rfl) ?_ <;> (conv => whnf))
  | fail))
section
variable {P : Program} {w : World} {K : PySem.W.Frag} {mg : Str → Option Value} {base : Heap}
theorem law_back {C : Addr} (T : Txt mg) (F_whole_of : Df P w K mg base 2 "whole_of" ["text"] wOf) (F_with_text : Df P w K mg base 1 "with_text" ["places", "number", "text"] wWith) (F_tornX : Dx P w K mg base 2 "torn" ["old", "new", "cut", "is_over"] (wTornX C)) (hC : mg "BadPlace" = some (.ref C)) (hexC : PySem.W.exmOne K (.ref C) (.ref C) = some true) (XF : XfC K C) (hno : PySem.W.findIn K (.ref C) "place" = some none) {f : Addr} {cdv : Value} {A : Around} {outer : List Env} {s : Shared} {H : Hp} {E : XK} (hr : Room 3 (A.deeper (PyProof.Rows.envOfC "law" (defScope slaw) s.heap.objs.size f cdv))) :
  ∃ t wS, DSs (cxOf CX0 P w K mg base NL "law" (defScope slaw) f cdv A outer s H E).nox ((defBody slaw).drop 9) t wS ∧ ∀ (E' : DEnds) (o nw : Str) (late : Nat) (x2 x3 x7 x8 x9 x10 x11 x12 x13 x14 x15 x16 : Sl), o.length ≤ 300 → nw.length ≤ 300 → E'.rt (.bl true) → wS [.no, .dr, x2, x3, .d (.str o), .d (.int late), .d (.str nw), x7, x8, x9, x10, x11, x12, x13, x14, x15, x16] E' := by
  refine ⟨_, _,
  (dss_cons (ds_for PassesOwn.never rfl (di_seq (de_tup (da_cons (de_neg de_int) (da_cons (de_op (op_addUK (K := K)) so_add (DE.toB (de_cb (call_lenK (K := K)) sc_len rfl T.len (by with_unfolding_all rfl) (dab_cons (db_var 6) dab_nil))) (DE.toB de_int)) (da_cons de_str (da_cons de_bl da_nil)))))) (dg_name (i := 8) sc_law.nd rfl (by first | exact Or.inl rfl | exact Or.inr rfl)) (dss_one (ds_try (i := 14) (C := .ref C) rfl rfl sc_law.nd rfl rfl ⟨rfl, by decide, .inl hC⟩ hexC (fun W pn xe tk => dx_cons (dx_expr (de_clXK (K := K) (X := (cxOf CX0 P w K mg base NL "law" (defScope slaw) f cdv A outer s H E).nox.tr pn xe) (W := W) (x := "torn") F_tornX (hr.mono (by omega)) rfl tk (da_cons (de_var 4) (da_cons (de_var 6) (da_cons (de_var 8) (da_cons de_bl da_nil)))))) (dx_of (dss_one (ds_ret de_bl))))
    (fun a d oe pn hz hf => dss_one (ds_if (dt_cmp (op_neDK (K := K) hr.units) so_neU (DE.toB (de_xf (i := 14) XF hno hz hf (pe_var rfl (by first | exact Or.inl rfl | exact Or.inr (Or.inl rfl) | exact Or.inr (Or.inr rfl)) (by decide) (by decide)))) (db_var 8) (nomark _)) (dss_one (ds_ret de_bl)) dss_nil)))))
  (dss_cons (ds_for PassesOwn.never rfl (di_seq (de_tup (da_cons de_non (da_cons de_int (da_cons de_str (da_cons de_str (da_cons de_str (da_cons de_str (da_cons de_str (da_cons de_str da_nil)))))))))) (dg_name (i := 15) sc_law.nd rfl (by first | exact Or.inl rfl | exact Or.inr rfl)) (dss_one (ds_if (dt_cmp op_notN so_notN (DE.toB (de_clK (K := K) F_whole_of (hr.mono (by omega)) rfl (da_cons (de_var 15) da_nil))) (DE.toB de_non) (nomark _)) (dss_one (ds_ret de_bl)) dss_nil)))
  (dss_one (ds_ret (de_cmp (op_eqDK (K := K) hr.units) so_eqU (DE.toB (de_clK (K := K) F_with_text (hr.mono (by omega)) rfl (da_cons (de_tup (da_cons de_str (da_cons de_str da_nil))) (da_cons (de_var 5) (da_cons de_str da_nil))))) (DE.toB (de_ifE (dt_cmp (op_eqDK (K := K) hr.units) so_eqU (DE.toB (de_op op_mod so_mod (db_var 5) (DE.toB de_int))) (DE.toB de_int) (nomark _)) (de_tup (da_cons de_str (da_cons de_str da_nil))) (de_tup (da_cons de_str (da_cons de_str da_nil))))) (nomark _)))))), fun E' o nw late x2 x3 x7 x8 x9 x10 x11 x12 x13 x14 x15 x16 ho hn hE => ?_⟩
  have hB := big
  walk_at "x"
  refine ⟨by omega, ?_⟩
  walk_at "x"
  refine ⟨by show 4 ≤ sizeLine; decide, ?_⟩
  walk_at "x"
  refine g_for (fun i env => ∃ x7 x8 x9 x10 x11 x12 x13 x14 x15 x16 : Sl, env = [.no, .dr, x2, x3, .d (.str o), .d (.int late), .d (.str nw), x7, x8, x9, x10, x11, x12, x13, x14, x15, x16]) ⟨_, _, _, _, _, _, _, _, _, _, rfl⟩ ?_ ?_
  · rintro i d env' hd ⟨x7, x8, x9, x10, x11, x12, x13, x14, x15, x16, rfl⟩
    have hd' : d = .int (-1) ∨ d = .int ((nw.length : Int) + 1) ∨ d = .str (Str.ofString "0") ∨ d = .bl true := by
      have := List.mem_of_getElem? hd
      simpa using this
    walk_at "x"
    refine ⟨o, nw, d, false, rfl, by omega, ?_, ?_, rfl, fun a dd => ?_⟩
    · rcases hd' with rfl | rfl | rfl | rfl <;> trivial
    · intro h
      rcases hd' with rfl | rfl | rfl | rfl
      · exact ⟨_, rfl, .inl (by decide)⟩
      · exact ⟨_, rfl, .inr (by omega)⟩
      · cases h
      · cases h
    · walk_at "x"
      refine ⟨d, rfl, ?_⟩
      walk_at "x"
      rcases hd' with rfl | rfl | rfl | rfl
      · walk_at "x"
        all_goals exact ⟨_, _, _, _, _, _, _, _, _, _, rfl⟩
      · walk_at "x"
        all_goals exact ⟨_, _, _, _, _, _, _, _, _, _, rfl⟩
      · walk_at "x"
        have p0 : Pu 32 (D.str (Str.ofString "0")) := by unfold Pu; decide +kernel
        refine ⟨⟨p0, p0⟩, fun z => (z rfl).elim, fun _ => ?_⟩
        walk_at "x"
        exact ⟨_, _, _, _, _, _, _, _, _, _, rfl⟩
      · walk_at "x"
        all_goals exact ⟨_, _, _, _, _, _, _, _, _, _, rfl⟩
  · rintro env' ⟨x7, x8, x9, x10, x11, x12, x13, x14, x15, x16, rfl⟩
    walk_at "x"
    refine ⟨by show 8 ≤ sizeLine; decide, ?_⟩
    walk_at "x"
    refine g_for (fun i env => ∃ x7 x8 x9 x10 x11 x12 x13 x14 x15 x16 : Sl, env = [.no, .dr, x2, x3, .d (.str o), .d (.int late), .d (.str nw), x7, x8, x9, x10, x11, x12, x13, x14, x15, x16]) ⟨_, _, _, _, _, _, _, _, _, _, rfl⟩ ?_ ?_
    · rintro i d env' hd ⟨x7, x8, x9, x10, x11, x12, x13, x14, x15, x16, rfl⟩
      have hd' : flatT d ∧ (isT .str d = false ∨ ∃ s, d = .str s ∧ s.length ≤ 20 ∧ Not s) := by
        have := List.mem_of_getElem? hd
        simp only [List.mem_cons, List.not_mem_nil, or_false] at this
        rcases this with rfl | rfl | rfl | rfl | rfl | rfl | rfl | rfl
        · exact ⟨trivial, .inl rfl⟩
        · exact ⟨trivial, .inl rfl⟩
        · exact ⟨trivial, .inr ⟨_, rfl, by decide +kernel, not_e⟩⟩
        · exact ⟨trivial, .inr ⟨_, rfl, by decide +kernel, not_1⟩⟩
        · exact ⟨trivial, .inr ⟨_, rfl, by decide +kernel, not_2⟩⟩
        · exact ⟨trivial, .inr ⟨_, rfl, by decide +kernel, not_3⟩⟩
        · exact ⟨trivial, .inr ⟨_, rfl, by decide +kernel, not_4⟩⟩
        · exact ⟨trivial, .inr ⟨_, rfl, by decide +kernel, not_5⟩⟩
      walk_at "x"
      refine ⟨d, rfl, hd'.1, fun _ => ?_, fun s e => ?_⟩
      · walk_at "x"
        all_goals exact ⟨_, _, _, _, _, _, _, _, _, _, rfl⟩
      · rcases hd'.2 with h | ⟨s', e', hl, hn'⟩
        · rw [e] at h; cases h
        · cases e.symm.trans e'
          refine ⟨by omega, fun r hr => ?_⟩
          rw [hn' r hr]
          walk_at "x"
          all_goals exact ⟨_, _, _, _, _, _, _, _, _, _, rfl⟩
    · rintro env' ⟨x7, x8, x9, x10, x11, x12, x13, x14, x15, x16, rfl⟩
      walk_at "x"
      refine ⟨late, _, _, _, rfl, ?_⟩
      have e2 : (late : Int) % 2 = ((late % 2 : Nat) : Int) := by omega
      have pcb : Pu 32 (D.tup [D.str (Str.ofString "c"), D.str (Str.ofString "b")]) := by unfold Pu PuL Pu PuL Pu; exact ⟨by decide +kernel, by decide +kernel, by unfold PuL; trivial⟩
      have pac : Pu 32 (D.tup [D.str (Str.ofString "a"), D.str (Str.ofString "c")]) := by unfold Pu PuL Pu PuL Pu; exact ⟨by decide +kernel, by decide +kernel, by unfold PuL; trivial⟩
      by_cases h2 : late % 2 = 0
      · rw [if_pos h2]
        walk_at "x"
        refine ⟨by decide, ?_⟩
        walk_at "x"
        · refine ⟨⟨pcb, pcb⟩, fun _ => ?_, fun z => (z rfl).elim⟩
          exact hE
        · exfalso
          exact ‹D.int _ ≠ D.int 0› (by rw [e2, h2]; rfl)
      · rw [if_neg h2]
        walk_at "x"
        refine ⟨by decide, ?_⟩
        walk_at "x"
        · exfalso
          have := D.int.inj ‹D.int _ = D.int 0›
          omega
        · refine ⟨⟨pac, pac⟩, fun _ => ?_, fun z => (z rfl).elim⟩
          exact hE

end
end S02

namespace S02
open PySem L2 Y
def spLaw (K : PySem.W.Frag) : Sp := fun vs H Q _ => ∃ (a : Addr) (ns : List Int), vs = [.ref a] ∧ SqL K H a (ns.map V.int) ∧ ns.length ≤ 63 ∧ ∀ H', Q (.bl true) H'
section
variable {P : Program} {w : World} {K : PySem.W.Frag} {mg : Str → Option Value} {base : Heap}
theorem pv' {X : Cx} (i : Nat) {x : Str} {p : Pos} (hN : X.N[i]? = some x := by rfl) (hv : Vis X.env.scope x := by first | exact Or.inl rfl | exact Or.inr (Or.inl rfl) | exact Or.inr (Or.inr rfl)) (hd : (x == ("__debug__" : Str)) = false := by decide) (hcd : (x == ("__classdict__" : Str)) = false := by decide) : PE X (.Name x p) (tVar i) := pe_var hN hv hd hcd
theorem ok_law {C : Addr} {f : Addr} {fd : FuncData} (F : Fun K "law" "law" slaw f fd) (T : Txt mg) (hX : YX.X1 P K C "place") (hC : mg "BadPlace" = some (.ref C)) (hexC : PySem.W.exmOne K (.ref C) (.ref C) = some true) (XF : XfC K C) (hno : PySem.W.findIn K (.ref C) "place" = some none) (h_law_number : Here K mg "_law_number" ["_law_script", "_law_index"] sL_number) (h_law_take : Here K mg "_law_take" ["_law_draw", "_law_many"] sL_take) (h_law_pick : Here K mg "_law_pick" ["_law_draw", "_law_items"] sL_pick) (h_is_whole : Here K mg "is_whole" ["thing"] sis_whole) (h_number_of : Here K mg "number_of" ["word"] snumber_of) (h_whole_text : Here K mg "whole_text" ["number", "body"] swhole_text) (h_whole_of : Here K mg "whole_of" ["text"] swhole_of) (h_torn : Here K mg "torn" ["old", "new", "cut", "is_over"] storn) (h_newest : Here K mg "newest" ["places"] snewest) (h_with_text : Here K mg "with_text" ["places", "number", "text"] swith_text) : FnOk P w K mg base CX0 4 f fd ["_law_script"] (spLaw K) := by
  have F_take := dr_take (P := P) (w := w) (base := base) h_law_take h_law_number T.d
  have F_pick := ok_pick (P := P) (w := w) (base := base) T h_law_pick F_take
  have F_is_whole := ok_is_whole (P := P) (w := w) (base := base) T h_is_whole
  have F_number_of := ok_number_of (P := P) (w := w) (base := base) T h_number_of
  have F_whole_text := ok_whole_text (P := P) (w := w) (base := base) T h_whole_text
  have F_whole_of := ok_whole_of (P := P) (w := w) (base := base) T h_whole_of F_number_of
  have F_torn := ok_torn (P := P) (w := w) (base := base) T h_torn F_is_whole
  have F_tornX := ok_tornX (P := P) (w := w) (base := base) T h_torn F_is_whole hX hC
  have F_newest := ok_newest (P := P) (w := w) (base := base) T h_newest F_whole_of
  have F_with_text := ok_with_text (P := P) (w := w) (base := base) T h_with_text
  refine F.ok sc_law (fun vs H Q E h => ?_) (fun cdv A outer s H vs Q E hr h => ?_)
  · obtain ⟨a, ns, rfl, _⟩ := h
    rfl
  · obtain ⟨a, ns, rfl, hS, hlen, k⟩ := h
    obtain ⟨t, wS, D, hw⟩ := law_front (E := E) (H := H) (outer := outer) T F_whole_text F_whole_of F_torn F_newest F_take F_pick hr
    obtain ⟨t2, wS2, D2, hw2⟩ := law_back (E := E) (H := H) (outer := outer) T F_whole_of F_with_text F_tornX hC hexC XF hno hr
    have DD := dss_app D D2
    have h1 : wThen wS wS2 (.no :: .dr :: List.replicate 15 .no) { nx := fun _ => False, rt := fun d => d = .bl true } := hw _ fun o nw late x2 x3 x7 x8 x9 x10 x11 x12 x13 x14 x15 x16 l1 l2 => hw2 _ o nw late x2 x3 x7 x8 x9 x10 x11 x12 x13 x14 x15 x16 l1 l2 rfl
    refine ⟨_, pss_cons (ps_set (i := 1) sc_law.nd rfl (by first | exact Or.inl rfl | exact Or.inr rfl) (pe_lst (pa_cons (pv' 0) (pa_cons pe_int pa_nil)))) DD.ps, ?_⟩
    refine ⟨_, rfl, by show 2 ≤ sizeLine; decide, fun dr hdr => ?_⟩
    refine DD.snd _ H _ _ _ _ _ (fr_law (n := 15) hS hdr) h1 ⟨fun _ _ _ _ _ z => z.elim, fun v d G H' env σ f' r e => ?_, fun _ _ _ _ _ z => z.elim, fun _ _ _ _ _ z => z.elim⟩
    have e' : d = .bl true := e
    subst e'
    have e2 : v = .bl true := r
    subst e2
    exact k H'
end
end S02

namespace S02
open PySem L2 Y
theorem all_mk {l : PySem.W.OpenLaw} {w : World} {K : PySem.W.Frag} {h : Heap} {mg : Str → Option Value} {fa  f_law_number f_law_take f_law_pick f_is_whole f_number_of f_whole_text f_whole_of f_torn f_newest f_with_text f_law : Addr} (X : K.In h) (G : h.Ns mainGlobals mg) (hfa : mg "law" = some (.ref fa))
    {od_law_number an_law_number od_law_take an_law_take od_law_pick an_law_pick od_is_whole an_is_whole od_number_of an_number_of od_whole_text an_whole_text od_whole_of an_whole_of od_torn an_torn od_newest an_newest od_with_text an_with_text od_law an_law : Option Addr} {sl_law_number sl_law_take sl_law_pick sl_is_whole sl_number_of sl_whole_text sl_whole_of sl_torn sl_newest sl_with_text sl_law : Array (Option Value)} {oc_law_number kV_law_number dc_law_number pm_law_number cd_law_number ct_law_number oc_law_take kV_law_take dc_law_take pm_law_take cd_law_take ct_law_take oc_law_pick kV_law_pick dc_law_pick pm_law_pick cd_law_pick ct_law_pick oc_is_whole kV_is_whole dc_is_whole pm_is_whole cd_is_whole ct_is_whole oc_number_of kV_number_of dc_number_of pm_number_of cd_number_of ct_number_of oc_whole_text kV_whole_text dc_whole_text pm_whole_text cd_whole_text ct_whole_text oc_whole_of kV_whole_of dc_whole_of pm_whole_of cd_whole_of ct_whole_of oc_torn kV_torn dc_torn pm_torn cd_torn ct_torn oc_newest kV_newest dc_newest pm_newest cd_newest ct_newest oc_with_text kV_with_text dc_with_text pm_with_text cd_with_text ct_with_text oc_law kV_law dc_law pm_law cd_law ct_law : Value} {tkFIGURES : Tok} {tkMOST_FIGURES : Tok} {tkPLACES : Tok} {tkEND : Tok} {CB fB cdB ccB : Addr} {ocB kVB dcB pmB ctB cclB clB : Value} {odB anB cddB cldB : Option Addr} {slB ccsB cslB : Array (Option Value)} {vsB : Array Value} {fileB : Str} {tfB : Tok} {cdDB : ClassData}
    (a_law_number : PySem.W.nsIn K mainGlobals "_law_number" = some (some (.ref f_law_number)))
    (l_law_number : K.lookup f_law_number = some ⟨oc_law_number, od_law_number, .func (PySem.W.fnOf "_law_number" "_law_number" (defArgs sL_number) (defBody sL_number) (defScope sL_number) .none kV_law_number dc_law_number pm_law_number an_law_number cd_law_number ct_law_number), sl_law_number⟩) (c_law_number : PySem.W.codeIn K cd_law_number "_law_number" = true) (k_law_number : PySem.W.keepIn K (.ref f_law_number) = true)
    (a_law_take : PySem.W.nsIn K mainGlobals "_law_take" = some (some (.ref f_law_take)))
    (l_law_take : K.lookup f_law_take = some ⟨oc_law_take, od_law_take, .func (PySem.W.fnOf "_law_take" "_law_take" (defArgs sL_take) (defBody sL_take) (defScope sL_take) .none kV_law_take dc_law_take pm_law_take an_law_take cd_law_take ct_law_take), sl_law_take⟩) (c_law_take : PySem.W.codeIn K cd_law_take "_law_take" = true) (k_law_take : PySem.W.keepIn K (.ref f_law_take) = true)
    (a_law_pick : PySem.W.nsIn K mainGlobals "_law_pick" = some (some (.ref f_law_pick)))
    (l_law_pick : K.lookup f_law_pick = some ⟨oc_law_pick, od_law_pick, .func (PySem.W.fnOf "_law_pick" "_law_pick" (defArgs sL_pick) (defBody sL_pick) (defScope sL_pick) .none kV_law_pick dc_law_pick pm_law_pick an_law_pick cd_law_pick ct_law_pick), sl_law_pick⟩) (c_law_pick : PySem.W.codeIn K cd_law_pick "_law_pick" = true) (k_law_pick : PySem.W.keepIn K (.ref f_law_pick) = true)
    (a_is_whole : PySem.W.nsIn K mainGlobals "is_whole" = some (some (.ref f_is_whole)))
    (l_is_whole : K.lookup f_is_whole = some ⟨oc_is_whole, od_is_whole, .func (PySem.W.fnOf "is_whole" "is_whole" (defArgs sis_whole) (defBody sis_whole) (defScope sis_whole) .none kV_is_whole dc_is_whole pm_is_whole an_is_whole cd_is_whole ct_is_whole), sl_is_whole⟩) (c_is_whole : PySem.W.codeIn K cd_is_whole "is_whole" = true) (k_is_whole : PySem.W.keepIn K (.ref f_is_whole) = true)
    (a_number_of : PySem.W.nsIn K mainGlobals "number_of" = some (some (.ref f_number_of)))
    (l_number_of : K.lookup f_number_of = some ⟨oc_number_of, od_number_of, .func (PySem.W.fnOf "number_of" "number_of" (defArgs snumber_of) (defBody snumber_of) (defScope snumber_of) .none kV_number_of dc_number_of pm_number_of an_number_of cd_number_of ct_number_of), sl_number_of⟩) (c_number_of : PySem.W.codeIn K cd_number_of "number_of" = true) (k_number_of : PySem.W.keepIn K (.ref f_number_of) = true)
    (a_whole_text : PySem.W.nsIn K mainGlobals "whole_text" = some (some (.ref f_whole_text)))
    (l_whole_text : K.lookup f_whole_text = some ⟨oc_whole_text, od_whole_text, .func (PySem.W.fnOf "whole_text" "whole_text" (defArgs swhole_text) (defBody swhole_text) (defScope swhole_text) .none kV_whole_text dc_whole_text pm_whole_text an_whole_text cd_whole_text ct_whole_text), sl_whole_text⟩) (c_whole_text : PySem.W.codeIn K cd_whole_text "whole_text" = true) (k_whole_text : PySem.W.keepIn K (.ref f_whole_text) = true)
    (a_whole_of : PySem.W.nsIn K mainGlobals "whole_of" = some (some (.ref f_whole_of)))
    (l_whole_of : K.lookup f_whole_of = some ⟨oc_whole_of, od_whole_of, .func (PySem.W.fnOf "whole_of" "whole_of" (defArgs swhole_of) (defBody swhole_of) (defScope swhole_of) .none kV_whole_of dc_whole_of pm_whole_of an_whole_of cd_whole_of ct_whole_of), sl_whole_of⟩) (c_whole_of : PySem.W.codeIn K cd_whole_of "whole_of" = true) (k_whole_of : PySem.W.keepIn K (.ref f_whole_of) = true)
    (a_torn : PySem.W.nsIn K mainGlobals "torn" = some (some (.ref f_torn)))
    (l_torn : K.lookup f_torn = some ⟨oc_torn, od_torn, .func (PySem.W.fnOf "torn" "torn" (defArgs storn) (defBody storn) (defScope storn) .none kV_torn dc_torn pm_torn an_torn cd_torn ct_torn), sl_torn⟩) (c_torn : PySem.W.codeIn K cd_torn "torn" = true) (k_torn : PySem.W.keepIn K (.ref f_torn) = true)
    (a_newest : PySem.W.nsIn K mainGlobals "newest" = some (some (.ref f_newest)))
    (l_newest : K.lookup f_newest = some ⟨oc_newest, od_newest, .func (PySem.W.fnOf "newest" "newest" (defArgs snewest) (defBody snewest) (defScope snewest) .none kV_newest dc_newest pm_newest an_newest cd_newest ct_newest), sl_newest⟩) (c_newest : PySem.W.codeIn K cd_newest "newest" = true) (k_newest : PySem.W.keepIn K (.ref f_newest) = true)
    (a_with_text : PySem.W.nsIn K mainGlobals "with_text" = some (some (.ref f_with_text)))
    (l_with_text : K.lookup f_with_text = some ⟨oc_with_text, od_with_text, .func (PySem.W.fnOf "with_text" "with_text" (defArgs swith_text) (defBody swith_text) (defScope swith_text) .none kV_with_text dc_with_text pm_with_text an_with_text cd_with_text ct_with_text), sl_with_text⟩) (c_with_text : PySem.W.codeIn K cd_with_text "with_text" = true) (k_with_text : PySem.W.keepIn K (.ref f_with_text) = true)
    (a_law : PySem.W.nsIn K mainGlobals "law" = some (some (.ref f_law)))
    (l_law : K.lookup f_law = some ⟨oc_law, od_law, .func (PySem.W.fnOf "law" "law" (defArgs slaw) (defBody slaw) (defScope slaw) .none kV_law dc_law pm_law an_law cd_law ct_law), sl_law⟩) (c_law : PySem.W.codeIn K cd_law "law" = true) (k_law : PySem.W.keepIn K (.ref f_law) = true)
    (z_int : PySem.W.nsIn K mainGlobals "int" = some none)
    (z_len : PySem.W.nsIn K mainGlobals "len" = some none)
    (z_abs : PySem.W.nsIn K mainGlobals "abs" = some none)
    (z_range : PySem.W.nsIn K mainGlobals "range" = some none)
    (z_tuple : PySem.W.nsIn K mainGlobals "tuple" = some none)
    (z_all : PySem.W.nsIn K mainGlobals "all" = some none)
    (z_max : PySem.W.nsIn K mainGlobals "max" = some none)
    (z_str : PySem.W.nsIn K mainGlobals "str" = some none)
    (z_bool : PySem.W.nsIn K mainGlobals "bool" = some none)
    (z_isinstance : PySem.W.nsIn K mainGlobals "isinstance" = some none)
    (z_enumerate : PySem.W.nsIn K mainGlobals "enumerate" = some none)
    (z_sorted : PySem.W.nsIn K mainGlobals "sorted" = some none)
    (z_super : PySem.W.nsIn K mainGlobals "super" = some none)
    (a_FIGURES : PySem.W.nsIn K mainGlobals "FIGURES" = some (some (.str "0123456789" tkFIGURES)))
    (a_MOST_FIGURES : PySem.W.nsIn K mainGlobals "MOST_FIGURES" = some (some (.int 4000 tkMOST_FIGURES)))
    (a_PLACES : PySem.W.nsIn K mainGlobals "PLACES" = some (some (.int 2 tkPLACES)))
    (a_END : PySem.W.nsIn K mainGlobals "END" = some (some (.str "end " tkEND)))
    (a_BP : PySem.W.nsIn K mainGlobals "BadPlace" = some (some (.ref CB))) (i_BP : PySem.W.findIn K (.ref CB) "__init__" = some (some (.ref fB)))
    (l_BP : K.lookup fB = some ⟨ocB, odB, .func (PySem.W.ksFn "__init__" "BadPlace.__init__" (defArgs sBadPlace_init) (defBody sBadPlace_init) (defScope sBadPlace_init) .none kVB dcB pmB anB (.ref cdB) ctB ccB), slB⟩) (c_BP : PySem.W.codeIn K (.ref cdB) "BadPlace.__init__" = true)
    (lc_BP : K.lookup cdB = some ⟨cclB, cddB, .fields vsB, ccsB⟩) (v_BP : vsB[2]? = some (.str fileB tfB)) (f_BP : ((l.prog.main.file : Str) == fileB) = true) (ce_BP : K.lookup ccB = some ⟨clB, cldB, .cell (some (.ref CB)), cslB⟩)
    (t_BP : (l.prog.main.scope.names.lookup ("super" : Str)).isSome = false) (is_BP : PySem.W.isFn K (.ref fB) = true) (d_BP : PySem.W.clsIn K CB = some cdDB) (q_BP : PySem.W.excInitIn K CB YX.exB "Exception.__new__" = true) (sub_BP : PySem.W.mroIn K CB (.ref CB) = some true)
    (sup_BP : PySem.W.ks_superIn K CB CB "__init__" = some (some (.builtin "Exception.__init__"))) (se_BP : PySem.W.subIn K (.ref CB) (.type "Exception") = some true) (any_BP : PySem.W.nsIn K cStatics "thirdparty.any" = some none)
    (sa_BP : PySem.W.findIn K (.ref CB) "__setattr__" = some (some (.builtin "object.__setattr__"))) (ov_BP : PySem.W.excOver K CB YX.exB = true) (tk_BP : PySem.W.takerIn K CB "place" = some none) (hd_BP : PySem.W.hasDictIn K CB = true)
    (sb_BP : PySem.W.subIn K (.ref CB) (.type "BaseException") = some true) (ty_BP : PySem.W.typeIn K (.ref CB) = some (.type "type")) (k_BP : PySem.W.keepIn K (.ref CB) = true)
    (ga_BP : PySem.W.findIn K (.ref CB) "__getattribute__" = some (some (.builtin "BaseException.__getattribute__"))) (gg_BP : PySem.W.findIn K (.ref CB) "__getattr__" = some none) (no_BP : PySem.W.findIn K (.ref CB) "place" = some none) (ss_BP : PySem.W.subIn K (.ref CB) (.ref CB) = some true) :
    ∃ fd : FuncData, (∀ (s : Shared) (v : Value), BindsTo s fd ⟨[v], []⟩ [("_law_script", v)]) ∧ ∀ base : Heap, K.In base → base.Ns mainGlobals mg → FnOk l.prog w K mg base CX0 4 fa fd ["_law_script"] (spLaw K) := by
  have e := hfa.symm.trans (PySem.W.mg_of X G a_law)
  cases e
  have F_law_number := fun_mk (st := sL_number) l_law_number c_law_number k_law_number
  have B_law_number := F_law_number.binds (ps := ["_law_script", "_law_index"]) fun _ _ _ _ _ _ us hl => match us, hl with | [_, _], _ => rfl
  have M_law_number := PySem.W.mg_of X G a_law_number
  have h_law_number : Here K mg "_law_number" ["_law_script", "_law_index"] sL_number := ⟨_, _, F_law_number, M_law_number, B_law_number⟩
  have F_law_take := fun_mk (st := sL_take) l_law_take c_law_take k_law_take
  have B_law_take := F_law_take.binds (ps := ["_law_draw", "_law_many"]) fun _ _ _ _ _ _ us hl => match us, hl with | [_, _], _ => rfl
  have M_law_take := PySem.W.mg_of X G a_law_take
  have h_law_take : Here K mg "_law_take" ["_law_draw", "_law_many"] sL_take := ⟨_, _, F_law_take, M_law_take, B_law_take⟩
  have F_law_pick := fun_mk (st := sL_pick) l_law_pick c_law_pick k_law_pick
  have B_law_pick := F_law_pick.binds (ps := ["_law_draw", "_law_items"]) fun _ _ _ _ _ _ us hl => match us, hl with | [_, _], _ => rfl
  have M_law_pick := PySem.W.mg_of X G a_law_pick
  have h_law_pick : Here K mg "_law_pick" ["_law_draw", "_law_items"] sL_pick := ⟨_, _, F_law_pick, M_law_pick, B_law_pick⟩
  have F_is_whole := fun_mk (st := sis_whole) l_is_whole c_is_whole k_is_whole
  have B_is_whole := F_is_whole.binds (ps := ["thing"]) fun _ _ _ _ _ _ us hl => match us, hl with | [_], _ => rfl
  have M_is_whole := PySem.W.mg_of X G a_is_whole
  have h_is_whole : Here K mg "is_whole" ["thing"] sis_whole := ⟨_, _, F_is_whole, M_is_whole, B_is_whole⟩
  have F_number_of := fun_mk (st := snumber_of) l_number_of c_number_of k_number_of
  have B_number_of := F_number_of.binds (ps := ["word"]) fun _ _ _ _ _ _ us hl => match us, hl with | [_], _ => rfl
  have M_number_of := PySem.W.mg_of X G a_number_of
  have h_number_of : Here K mg "number_of" ["word"] snumber_of := ⟨_, _, F_number_of, M_number_of, B_number_of⟩
  have F_whole_text := fun_mk (st := swhole_text) l_whole_text c_whole_text k_whole_text
  have B_whole_text := F_whole_text.binds (ps := ["number", "body"]) fun _ _ _ _ _ _ us hl => match us, hl with | [_, _], _ => rfl
  have M_whole_text := PySem.W.mg_of X G a_whole_text
  have h_whole_text : Here K mg "whole_text" ["number", "body"] swhole_text := ⟨_, _, F_whole_text, M_whole_text, B_whole_text⟩
  have F_whole_of := fun_mk (st := swhole_of) l_whole_of c_whole_of k_whole_of
  have B_whole_of := F_whole_of.binds (ps := ["text"]) fun _ _ _ _ _ _ us hl => match us, hl with | [_], _ => rfl
  have M_whole_of := PySem.W.mg_of X G a_whole_of
  have h_whole_of : Here K mg "whole_of" ["text"] swhole_of := ⟨_, _, F_whole_of, M_whole_of, B_whole_of⟩
  have F_torn := fun_mk (st := storn) l_torn c_torn k_torn
  have B_torn := F_torn.binds (ps := ["old", "new", "cut", "is_over"]) fun _ _ _ _ _ _ us hl => match us, hl with | [_, _, _, _], _ => rfl
  have M_torn := PySem.W.mg_of X G a_torn
  have h_torn : Here K mg "torn" ["old", "new", "cut", "is_over"] storn := ⟨_, _, F_torn, M_torn, B_torn⟩
  have F_newest := fun_mk (st := snewest) l_newest c_newest k_newest
  have B_newest := F_newest.binds (ps := ["places"]) fun _ _ _ _ _ _ us hl => match us, hl with | [_], _ => rfl
  have M_newest := PySem.W.mg_of X G a_newest
  have h_newest : Here K mg "newest" ["places"] snewest := ⟨_, _, F_newest, M_newest, B_newest⟩
  have F_with_text := fun_mk (st := swith_text) l_with_text c_with_text k_with_text
  have B_with_text := F_with_text.binds (ps := ["places", "number", "text"]) fun _ _ _ _ _ _ us hl => match us, hl with | [_, _, _], _ => rfl
  have M_with_text := PySem.W.mg_of X G a_with_text
  have h_with_text : Here K mg "with_text" ["places", "number", "text"] swith_text := ⟨_, _, F_with_text, M_with_text, B_with_text⟩
  have F_law := fun_mk (st := slaw) l_law c_law k_law
  have Z_int := PySem.W.mg_none_of X G z_int
  have Z_len := PySem.W.mg_none_of X G z_len
  have Z_abs := PySem.W.mg_none_of X G z_abs
  have Z_range := PySem.W.mg_none_of X G z_range
  have Z_tuple := PySem.W.mg_none_of X G z_tuple
  have Z_all := PySem.W.mg_none_of X G z_all
  have Z_max := PySem.W.mg_none_of X G z_max
  have Z_str := PySem.W.mg_none_of X G z_str
  have Z_bool := PySem.W.mg_none_of X G z_bool
  have Z_isinstance := PySem.W.mg_none_of X G z_isinstance
  have Z_enumerate := PySem.W.mg_none_of X G z_enumerate
  have Z_sorted := PySem.W.mg_none_of X G z_sorted
  have Z_super := PySem.W.mg_none_of X G z_super
  exact ⟨PySem.W.fnOf "law" "law" (defArgs slaw) (defBody slaw) (defScope slaw) .none kV_law dc_law pm_law an_law cd_law ct_law, fun s v => .of_eq rfl, fun base _ _ => ok_law F_law ⟨⟨Z_int, Z_len, Z_abs⟩, Z_len, Z_range, Z_tuple, Z_all, Z_max, Z_int, Z_str, Z_bool, Z_isinstance, Z_enumerate, Z_sorted, ⟨_, PySem.W.mg_of X G a_FIGURES, _, rfl⟩, ⟨_, PySem.W.mg_of X G a_MOST_FIGURES, _, rfl⟩, ⟨_, PySem.W.mg_of X G a_PLACES, _, rfl⟩, ⟨_, PySem.W.mg_of X G a_END, _, rfl⟩⟩ ⟨⟨fB, cdB, ccB, "__init__", "BadPlace.__init__", "a bad place", "self", "place", defArgs sBadPlace_init, defScope sBadPlace_init, 0, _, _, _, _, _, _, _, _, _, _, .none, kVB, dcB, pmB, ctB, ocB, cclB, clB, anB, odB, cddB, cldB, slB, ccsB, cslB, vsB, fileB, tfB, cdDB, _, l_BP, c_BP, lc_BP, v_BP, f_BP, ce_BP, fun _ _ _ => .of_eq rfl, rfl, rfl, by decide, rfl, rfl, rfl, rfl, by decide, rfl, rfl, rfl, by decide, by decide, fun env => ⟨_, rfl⟩, fun env => rfl, fun env => rfl, t_BP, z_super, i_BP, is_BP, d_BP⟩, q_BP, sub_BP, sup_BP, se_BP, any_BP, sa_BP, ov_BP, tk_BP, hd_BP, sb_BP, ty_BP, k_BP⟩ (PySem.W.mg_of X G a_BP) (PySem.W.exm_ref sb_BP hd_BP ty_BP ss_BP) ⟨ga_BP, gg_BP, sb_BP, hd_BP⟩ no_BP h_law_number h_law_take h_law_pick h_is_whole h_number_of h_whole_text h_whole_of h_torn h_newest h_with_text⟩
theorem walk {l : PySem.W.OpenLaw} {q : Program} {loose : List Str} {XP : (Str → Option Value) → Heap → Prop} {YP : World → Heap → Prop} {d : DefRec} {K : Params → PySem.W.Frag} (hn : l.most = some 63) (hdf : d.params.defaults = [])
    (hY : ∀ (w : World) (h : Heap), YP w h → (K w.params).In h)
    (F : ∀ (w : World) (mg : Str → Option Value) (fa : Addr) (h : Heap), (K w.params).In h → h.Ns mainGlobals mg → mg d.name = some (.ref fa) →
      ∃ fd : FuncData, (∀ (s : Shared) (u : Value), BindsTo s fd ⟨[u], []⟩ [("_law_script", u)]) ∧ ∀ base : Heap, (K w.params).In base → base.Ns mainGlobals mg → FnOk l.prog w (K w.params) mg base CX0 4 fa fd ["_law_script"] (spLaw (K w.params))) :
    PySem.W.WalkO q loose XP YP l.row.toRowW d [] (fun f vs => PySem.call f vs) :=
  L2.walk_of (n := 63) (k := 4) (x := "_law_script") (CX := fun _ => CX0) (sp := fun w => spLaw (K w.params)) hn (by decide) hdf ⟨rfl, by decide, by decide⟩ hY F (fun _ _ a ns hl _ hS => ⟨a, ns, rfl, hS, hl, fun _ => rfl⟩) fun _ _ _ _ _ z => z
end S02
open PySem PySem.W PyProof.Rows
set_option maxRecDepth 100000 in
set_option maxHeartbeats 0 in
theorem PySem.Challenge.cw_streamsure_k02_whole_cuts_holds : PySem.Challenge.rw_streamsure_k02_whole_cuts.Holds := by
  w_on; o_law; k_head; (case hw => w_witness2)
  k_fill
  refine S02.walk (l := PySem.Challenge.rw_streamsure_k02_whole_cuts) rfl rfl (fun w h Y => PySem.W.kIn_of Y) ?F
  case F =>
    intro w mg fa h KX G hmg
    refine' S02.all_mk KX G hmg ?a_law_number ?l_law_number ?c_law_number ?k_law_number ?a_law_take ?l_law_take ?c_law_take ?k_law_take ?a_law_pick ?l_law_pick ?c_law_pick ?k_law_pick ?a_is_whole ?l_is_whole ?c_is_whole ?k_is_whole ?a_number_of ?l_number_of ?c_number_of ?k_number_of ?a_whole_text ?l_whole_text ?c_whole_text ?k_whole_text ?a_whole_of ?l_whole_of ?c_whole_of ?k_whole_of ?a_torn ?l_torn ?c_torn ?k_torn ?a_newest ?l_newest ?c_newest ?k_newest ?a_with_text ?l_with_text ?c_with_text ?k_with_text ?a_law ?l_law ?c_law ?k_law ?z_int ?z_len ?z_abs ?z_range ?z_tuple ?z_all ?z_max ?z_str ?z_bool ?z_isinstance ?z_enumerate ?z_sorted ?z_super ?a_FIGURES ?a_MOST_FIGURES ?a_PLACES ?a_END ?a_BP ?i_BP ?l_BP ?c_BP ?lc_BP ?v_BP ?f_BP ?ce_BP ?t_BP ?is_BP ?d_BP ?q_BP ?sub_BP ?sup_BP ?se_BP ?any_BP ?sa_BP ?ov_BP ?tk_BP ?hd_BP ?sb_BP ?ty_BP ?k_BP ?ga_BP ?gg_BP ?no_BP ?ss_BP
    (case a_law_number => k_is)
    (case l_law_number => k_is)
    (case c_law_number => k_is)
    (case k_law_number => k_is)
    (case a_law_take => k_is)
    (case l_law_take => k_is)
    (case c_law_take => k_is)
    (case k_law_take => k_is)
    (case a_law_pick => k_is)
    (case l_law_pick => k_is)
    (case c_law_pick => k_is)
    (case k_law_pick => k_is)
    (case a_is_whole => k_is)
    (case l_is_whole => k_is)
    (case c_is_whole => k_is)
    (case k_is_whole => k_is)
    (case a_number_of => k_is)
    (case l_number_of => k_is)
    (case c_number_of => k_is)
    (case k_number_of => k_is)
    (case a_whole_text => k_is)
    (case l_whole_text => k_is)
    (case c_whole_text => k_is)
    (case k_whole_text => k_is)
    (case a_whole_of => k_is)
    (case l_whole_of => k_is)
    (case c_whole_of => k_is)
    (case k_whole_of => k_is)
    (case a_torn => k_is)
    (case l_torn => k_is)
    (case c_torn => k_is)
    (case k_torn => k_is)
    (case a_newest => k_is)
    (case l_newest => k_is)
    (case c_newest => k_is)
    (case k_newest => k_is)
    (case a_with_text => k_is)
    (case l_with_text => k_is)
    (case c_with_text => k_is)
    (case k_with_text => k_is)
    (case a_law => k_is)
    (case l_law => k_is)
    (case c_law => k_is)
    (case k_law => k_is)
    (case z_int => k_is)
    (case z_len => k_is)
    (case z_abs => k_is)
    (case z_range => k_is)
    (case z_tuple => k_is)
    (case z_all => k_is)
    (case z_max => k_is)
    (case z_str => k_is)
    (case z_bool => k_is)
    (case z_isinstance => k_is)
    (case z_enumerate => k_is)
    (case z_sorted => k_is)
    (case z_super => k_is)
    (case a_FIGURES => k_is)
    (case a_MOST_FIGURES => k_is)
    (case a_PLACES => k_is)
    (case a_END => k_is)
    (case a_BP => k_is)
    (case i_BP => k_is)
    (case l_BP => k_is)
    (case c_BP => k_is)
    (case lc_BP => k_is)
    (case v_BP => rfl)
    (case f_BP => (first | rfl | decide +kernel))
    (case ce_BP => k_is)
    (case t_BP => (first | rfl | decide +kernel))
    (case is_BP => k_is)
    (case d_BP => k_is)
    (case q_BP => kernel_rfl)
    (case sub_BP => k_is)
    (case sup_BP => ks_is)
    (case se_BP => k_is)
    (case any_BP => k_is)
    (case sa_BP => k_is)
    (case ov_BP => kernel_rfl)
    (case tk_BP => k_is)
    (case hd_BP => k_is)
    (case sb_BP => k_is)
    (case ty_BP => k_is)
    (case k_BP => k_is)
    (case ga_BP => k_is)
    (case gg_BP => k_is)
    (case no_BP => k_is)
    (case ss_BP => k_is)
#print axioms PySem.Challenge.cw_streamsure_k02_whole_cuts_holds
