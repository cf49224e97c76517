import PyProof.Rows.All
import Wide.All
import OpenK.AllK
import Wide.FinOn
import HandS.ForMost
import HandS.TupAny
import HandS.Walk
import HandS.Zip
import HandS.SortKw
import KE.SortKeyHeap
import HandS.Style
import KE.DataMinMax
import KE.SortData
import HandS.Iter
import HandS.Text
import HandS.IsInst
import KE.KExcSuper
import HandS.ExcInit
import HandS.ExcField
import HandS.WordsExc
import KE.GoesEnum
import KE.GoesMore
import HandS.DictComp
import HandS.More
import HandS.Deep
import HandS.WordsDict
import HandS.ListItems
import KE.KDictList
import HandS.Star
import HandS.WideBits
import HandS.TupMul
import HandS.Strs
import HandS.TupSets
import HandS.SetFor
import PySem.Challenge.RW_streamsure_k07_whole_wrong_trees
set_option Elab.async false
set_option maxRecDepth 100000
set_option maxHeartbeats 4000000
set_option linter.all false
/-! Readings over plain data: data D, what represents them, frames with owned lists. -/
namespace Y
open PySem L2
/-- plain data -/
inductive D where
  | non | bl (b : Bool) | int (i : Int) | str (s : Str)
  | tup (xs : List D) | tupc (xs : List D) | lst (xs : List D) | dct (kvs : List (Key × D)) | ins (C : Addr) (fs : List (Str × D))
/-- a tuple at an address that has no dict: a display of the run, a constant -/
def SqC (K : PySem.W.Frag) (H : Hp) (a : Addr) (xs : List V) : Prop := (∃ o, H a = some (.frz o (.tup xs)) ∧ o.dict = none) ∨
  ∃ (o : Obj) (its : Array Value) (n : Nat), K.lookup a = some o ∧ o.cls = .type "tuple" ∧ o.dict = none ∧ o.data = .seq its n ∧ its.size ≤ sizeLine ∧ Vals xs its.toList
theorem SqC.t {K : PySem.W.Frag} {H : Hp} {a : Addr} {xs : List V} (h : SqC K H a xs) : SqT K H a xs := by
  rcases h with ⟨o, h, _⟩ | ⟨o, its, n, h1, h2, h3, h4, h5⟩
  · exact .inl (.inr ⟨o, h⟩)
  · exact .inr ⟨o, its, n, h1, h2, h4, h5⟩
mutual
/-- v represents d in the heap H -/
def R (K : PySem.W.Frag) (H : Hp) : D → V → Prop
  | .non, v => v = .non
  | .bl b, v => v = .bl b
  | .int i, v => v = .int i
  | .str s, v => v = .str s
  | .tup ds, v => ∃ a vs, v = .ref a ∧ SqT K H a vs ∧ RL K H ds vs
  | .tupc ds, v => ∃ a vs, v = .ref a ∧ SqC K H a vs ∧ RL K H ds vs
  | .lst ds, v => ∃ a vs, v = .ref a ∧ H a = some (.lst vs) ∧ RL K H ds vs
  | .dct kvs, v => ∃ a o ws, v = .ref a ∧ H a = some (.frz o (.dK ws)) ∧ RK K H kvs ws
  | .ins C fs, v => ∃ a dx ws, v = .ref a ∧ H a = some (.ins C dx ws) ∧ RF K H fs ws
def RL (K : PySem.W.Frag) (H : Hp) : List D → List V → Prop
  | [], vs => vs = []
  | d :: ds, vs => ∃ v r, vs = v :: r ∧ R K H d v ∧ RL K H ds r
def RK (K : PySem.W.Frag) (H : Hp) : List (Key × D) → List (Key × V) → Prop
  | [], ws => ws = []
  | (k, d) :: ds, ws => ∃ v r, ws = (k, v) :: r ∧ R K H d v ∧ RK K H ds r
def RF (K : PySem.W.Frag) (H : Hp) : List (Str × D) → List (Str × V) → Prop
  | [], ws => ws = []
  | (k, d) :: ds, ws => ∃ v r, ws = (k, v) :: r ∧ R K H d v ∧ RF K H ds r
end
section
variable {K : PySem.W.Frag} {H H' : Hp}
theorem sqt_same {a : Addr} {xs : List V} (e : Same H H') (h : SqT K H a xs) : SqT K H' a xs := by
  rcases h with (h | ⟨o, h⟩) | h
  · exact .inl (.inl (e _ _ h))
  · exact .inl (.inr ⟨o, e _ _ h⟩)
  · exact .inr h
theorem sqc_same {a : Addr} {xs : List V} (e : Same H H') (h : SqC K H a xs) : SqC K H' a xs := by
  rcases h with ⟨o, h, h2⟩ | h
  · exact .inl ⟨o, e _ _ h, h2⟩
  · exact .inr h
mutual
theorem R.mono (e : Same H H') : ∀ (d : D) (v : V), R K H d v → R K H' d v
  | .non, _, h => h
  | .bl _, _, h => h
  | .int _, _, h => h
  | .str _, _, h => h
  | .tup ds, v, h => by
    unfold R at h ⊢
    obtain ⟨a, vs, rfl, h1, h2⟩ := h
    exact ⟨a, vs, rfl, sqt_same e h1, RL.mono e ds vs h2⟩
  | .tupc ds, v, h => by
    unfold R at h ⊢
    obtain ⟨a, vs, rfl, h1, h2⟩ := h
    exact ⟨a, vs, rfl, sqc_same e h1, RL.mono e ds vs h2⟩
  | .lst ds, v, h => by
    unfold R at h ⊢
    obtain ⟨a, vs, rfl, h1, h2⟩ := h
    exact ⟨a, vs, rfl, e _ _ h1, RL.mono e ds vs h2⟩
  | .dct kvs, v, h => by
    unfold R at h ⊢
    obtain ⟨a, o, vs, rfl, h1, h2⟩ := h
    exact ⟨a, o, vs, rfl, e _ _ h1, RK.mono e kvs vs h2⟩
  | .ins C fs, v, h => by
    unfold R at h ⊢
    obtain ⟨a, dx, vs, rfl, h1, h2⟩ := h
    exact ⟨a, dx, vs, rfl, e _ _ h1, RF.mono e fs vs h2⟩
theorem RL.mono (e : Same H H') : ∀ (ds : List D) (vs : List V), RL K H ds vs → RL K H' ds vs
  | [], _, h => h
  | d :: ds, vs, h => by
    unfold RL at h ⊢
    obtain ⟨v, r, rfl, h1, h2⟩ := h
    exact ⟨v, r, rfl, R.mono e d v h1, RL.mono e ds r h2⟩
theorem RK.mono (e : Same H H') : ∀ (ds : List (Key × D)) (vs : List (Key × V)), RK K H ds vs → RK K H' ds vs
  | [], _, h => h
  | (k, d) :: ds, vs, h => by
    unfold RK at h ⊢
    obtain ⟨v, r, rfl, h1, h2⟩ := h
    exact ⟨v, r, rfl, R.mono e d v h1, RK.mono e ds r h2⟩
theorem RF.mono (e : Same H H') : ∀ (ds : List (Str × D)) (vs : List (Str × V)), RF K H ds vs → RF K H' ds vs
  | [], _, h => h
  | (k, d) :: ds, vs, h => by
    unfold RF at h ⊢
    obtain ⟨v, r, rfl, h1, h2⟩ := h
    exact ⟨v, r, rfl, R.mono e d v h1, RF.mono e ds r h2⟩
end
theorem RL.length : ∀ {ds : List D} {vs : List V}, RL K H ds vs → vs.length = ds.length
  | [], _, h => by unfold RL at h; rw [h]; rfl
  | d :: ds, vs, h => by
    unfold RL at h
    obtain ⟨v, r, rfl, _, h2⟩ := h
    rw [List.length_cons, List.length_cons, RL.length h2]
theorem RL.get : ∀ {ds : List D} {vs : List V} {i : Nat} {d : D}, RL K H ds vs → ds[i]? = some d → ∃ v, vs[i]? = some v ∧ R K H d v
  | [], _, _, _, _, e => by simp at e
  | d :: ds, vs, 0, x, h, e => by
    unfold RL at h
    obtain ⟨v, r, rfl, h1, _⟩ := h
    simp at e; subst e
    exact ⟨v, rfl, h1⟩
  | d :: ds, vs, i + 1, x, h, e => by
    unfold RL at h
    obtain ⟨v, r, rfl, _, h2⟩ := h
    obtain ⟨u, h3, h4⟩ := RL.get (i := i) h2 (by simpa using e)
    exact ⟨u, by simpa using h3, h4⟩
theorem RL.get' : ∀ {ds : List D} {vs : List V} {i : Nat} {v : V}, RL K H ds vs → vs[i]? = some v → ∃ d, ds[i]? = some d ∧ R K H d v := by
  intro ds vs i v h e
  have hl := h.length
  have hi : i < vs.length := (List.getElem?_eq_some_iff.mp e).1
  obtain ⟨u, h1, h2⟩ := h.get (i := i) (List.getElem?_eq_getElem (hl ▸ hi))
  rw [e] at h1
  cases h1
  exact ⟨_, List.getElem?_eq_getElem (hl ▸ hi), h2⟩
theorem RL.append : ∀ {ds es : List D} {vs us : List V}, RL K H ds vs → RL K H es us → RL K H (ds ++ es) (vs ++ us)
  | [], _, _, _, h, g => by unfold RL at h; subst h; exact g
  | d :: ds, es, vs, us, h, g => by
    unfold RL at h
    obtain ⟨v, r, rfl, h1, h2⟩ := h
    show RL K H (d :: (ds ++ es)) (v :: (r ++ us))
    unfold RL
    exact ⟨v, _, rfl, h1, RL.append h2 g⟩
theorem RL.nil : RL K H [] [] := by unfold RL; rfl
theorem RL.cons {d : D} {v : V} {ds : List D} {vs : List V} (h : R K H d v) (g : RL K H ds vs) : RL K H (d :: ds) (v :: vs) := by unfold RL; exact ⟨v, vs, rfl, h, g⟩
theorem RL.one {d : D} {v : V} (h : R K H d v) : RL K H [d] [v] := .cons h .nil
theorem RL.snoc {ds : List D} {vs : List V} {d : D} {v : V} (h : RL K H ds vs) (g : R K H d v) : RL K H (ds ++ [d]) (vs ++ [v]) := h.append (.one g)
theorem RL.drop : ∀ {ds : List D} {vs : List V} (n : Nat), RL K H ds vs → RL K H (ds.drop n) (vs.drop n)
  | _, _, 0, h => h
  | [], _, n + 1, h => by unfold RL at h; subst h; exact .nil
  | d :: ds, vs, n + 1, h => by
    unfold RL at h
    obtain ⟨v, r, rfl, _, h2⟩ := h
    exact RL.drop n h2
theorem RL.take : ∀ {ds : List D} {vs : List V} (n : Nat), RL K H ds vs → RL K H (ds.take n) (vs.take n)
  | _, _, 0, _ => .nil
  | [], _, n + 1, h => by unfold RL at h; subst h; exact .nil
  | d :: ds, vs, n + 1, h => by
    unfold RL at h
    obtain ⟨v, r, rfl, h1, h2⟩ := h
    exact .cons h1 (RL.take n h2)
theorem RL.set {ds : List D} {vs : List V} {d : D} {v : V} (hd : R K H d v) : ∀ (i : Nat), RL K H ds vs → RL K H (ds.set i d) (vs.set i v) := by
  induction ds generalizing vs with
  | nil => intro i h; unfold RL at h; subst h; exact .nil
  | cons x ds ih =>
    intro i h
    unfold RL at h
    obtain ⟨u, r, rfl, h1, h2⟩ := h
    cases i with
    | zero => exact .cons hd h2
    | succ i => exact .cons h1 (ih i h2)
theorem R.tup {a : Addr} {ds : List D} {vs : List V} (h : SqT K H a vs) (g : RL K H ds vs) : R K H (.tup ds) (.ref a) := by unfold R; exact ⟨a, vs, rfl, h, g⟩
theorem R.lst {a : Addr} {ds : List D} {vs : List V} (h : H a = some (.lst vs)) (g : RL K H ds vs) : R K H (.lst ds) (.ref a) := by unfold R; exact ⟨a, vs, rfl, h, g⟩
theorem R.int_ {i : Int} : R K H (.int i) (.int i) := rfl
theorem R.bl_ {i : Bool} : R K H (.bl i) (.bl i) := rfl
theorem R.str_ {i : Str} : R K H (.str i) (.str i) := rfl
theorem R.non_ : R K H .non .non := rfl
theorem R.tupcE {ds : List D} {v : V} (h : R K H (.tupc ds) v) : ∃ a vs, v = .ref a ∧ SqC K H a vs ∧ RL K H ds vs := by unfold R at h; exact h
theorem R.tupc {a : Addr} {ds : List D} {vs : List V} (h : SqC K H a vs) (g : RL K H ds vs) : R K H (.tupc ds) (.ref a) := by unfold R; exact ⟨a, vs, rfl, h, g⟩
theorem R.wk {ds : List D} {v : V} (h : R K H (.tupc ds) v) : R K H (.tup ds) v := by
  obtain ⟨a, vs, e, h1, h2⟩ := h.tupcE
  unfold R; exact ⟨a, vs, e, h1.t, h2⟩
theorem R.tupE {ds : List D} {v : V} (h : R K H (.tup ds) v) : ∃ a vs, v = .ref a ∧ SqT K H a vs ∧ RL K H ds vs := by unfold R at h; exact h
theorem R.lstE {ds : List D} {v : V} (h : R K H (.lst ds) v) : ∃ a vs, v = .ref a ∧ H a = some (.lst vs) ∧ RL K H ds vs := by unfold R at h; exact h
theorem RL.consE {d : D} {ds : List D} {vs : List V} (h : RL K H (d :: ds) vs) : ∃ v r, vs = v :: r ∧ R K H d v ∧ RL K H ds r := by unfold RL at h; exact h
theorem RL.nilE {vs : List V} (h : RL K H [] vs) : vs = [] := by unfold RL at h; exact h
end

/-! ### frames -/
/-- a field of an instance of ours: frozen data; a dict, a list of ours -/
inductive Fl where
  | d (d : D) | od (b : Addr) (kvs : List (Key × D)) | ol (b : Addr) (ds : List D)
/-- a slot: unknown; frozen data; a list of ours, data in it; the draw; a caught exception, its dict; a dict of ours; an instance of ours -/
inductive Sl where
  | no | d (d : D) | ol (xs : List D) | dr | ex (a d : Addr) (fs : List (Str × D)) | od (kvs : List (Key × D)) | oi (a C : Addr) (fs : List (Str × Fl))
structure Ctx where
  G0 : Hp
  H0 : Hp
  da : Option Addr
/-- the draw's cell -/
def DrC (K : PySem.W.Frag) (G H : Hp) (a : Addr) : Prop := G a = none ∧ ∃ (s : Addr) (n : Int) (ns : List Int), H a = some (.lst [.ref s, .int n]) ∧ SqL K G s (ns.map V.int)
def FlOk (K : PySem.W.Frag) (H0 : Hp) (G H : Hp) : Fl → V → Prop
  | .d d, v => R K G d v
  | .od b kvs, v => v = .ref b ∧ ∃ ws, H b = some (.dK ws) ∧ RK K G kvs ws ∧ G b = none ∧ H0 b = none
  | .ol b ds, v => v = .ref b ∧ ∃ vs, H b = some (.lst vs) ∧ RL K G ds vs ∧ G b = none ∧ H0 b = none
def FsOk (K : PySem.W.Frag) (H0 : Hp) (G H : Hp) : List (Str × Fl) → List (Str × V) → Prop
  | [], ws => ws = []
  | (k, f) :: fs, ws => ∃ v r, ws = (k, v) :: r ∧ FlOk K H0 G H f v ∧ FsOk K H0 G H fs r
def ownF : Fl → List Addr
  | .d _ => [] | .od b _ => [b] | .ol b _ => [b]
def ownFs : List (Str × Fl) → List Addr
  | [] => []
  | (_, f) :: fs => ownF f ++ ownFs fs
def SlOk (K : PySem.W.Frag) (c : Ctx) (G H : Hp) : Sl → Option V → Prop
  | .no, _ => True
  | .d d, o => ∃ v, o = some v ∧ R K G d v
  | .ol ds, o => ∃ a vs, o = some (.ref a) ∧ H a = some (.lst vs) ∧ RL K G ds vs ∧ G a = none ∧ c.H0 a = none
  | .dr, o => ∃ a, o = some (.ref a) ∧ c.da = some a
  | .ex a d fs, o => o = some (.ref a) ∧ ∃ ws, G d = some (.xd ws) ∧ RF K G fs ws
  | .od kvs, o => ∃ a ws, o = some (.ref a) ∧ H a = some (.dK ws) ∧ RK K G kvs ws ∧ G a = none ∧ c.H0 a = none
  | .oi a C fs, o => o = some (.ref a) ∧ ∃ dx ws, H a = some (.ins C dx ws) ∧ FsOk K c.H0 G H fs ws ∧ G a = none ∧ c.H0 a = none ∧ (a :: ownFs fs).Nodup
/-- what a slot owns -/
def ownL : Sl → Option V → List Addr
  | .ol _, some (.ref a) => [a]
  | .od _, some (.ref a) => [a]
  | .oi a _ fs, _ => a :: ownFs fs
  | _, _ => []
structure Fr (K : PySem.W.Frag) (c : Ctx) (G H : Hp) (env : List Sl) (σ : St) : Prop where
  hb : ∀ a o, c.H0 a = some o → c.da ≠ some a → H a = some o
  gg : Same c.G0 G
  gh : Same G H
  old : ∀ a o, c.H0 a = some o → c.G0 a = none → G a = none
  dr0 : ∀ a, c.da = some a → ∃ o, c.H0 a = some o
  dr : ∀ a, c.da = some a → DrC K G H a
  len : env.length = σ.length
  sl : ∀ (i : Nat) (s : Sl) (o : Option V), env[i]? = some s → σ[i]? = some o → SlOk K c G H s o
  sep : ∀ (i j : Nat) (a : Addr) (si sj : Sl) (oi oj : Option V), env[i]? = some si → σ[i]? = some oi → env[j]? = some sj → σ[j]? = some oj → a ∈ ownL si oi → a ∈ ownL sj oj → i = j
/-- how heaps go on -/
structure Gr (K : PySem.W.Frag) (da : Option Addr) (G H G' H' : Hp) : Prop where
  gg : Same G G'
  gh : Same G' H'
  hh : ∀ a o, H a = some o → da ≠ some a → H' a = some o
  old : ∀ a o, H a = some o → G a = none → G' a = none
  dr : ∀ a, da = some a → DrC K G' H' a
section
variable {K : PySem.W.Frag} {c : Ctx} {G H G' H' : Hp} {env : List Sl} {σ : St}
theorem FlOk.own {f : Fl} {v : V} (q : FlOk K c.H0 G H f v) : ∀ a ∈ ownF f, (∃ u, H a = some u) ∧ G a = none ∧ c.H0 a = none := by
  intro a ha
  cases f with
  | d d => cases ha
  | od b kvs =>
    obtain ⟨_, ws, h1, _, h2, h3⟩ := q
    rw [List.mem_singleton.mp ha]; exact ⟨⟨_, h1⟩, h2, h3⟩
  | ol b ds =>
    obtain ⟨_, ws, h1, _, h2, h3⟩ := q
    rw [List.mem_singleton.mp ha]; exact ⟨⟨_, h1⟩, h2, h3⟩
theorem FsOk.own : ∀ {fs : List (Str × Fl)} {ws : List (Str × V)}, FsOk K c.H0 G H fs ws → ∀ a ∈ ownFs fs, (∃ u, H a = some u) ∧ G a = none ∧ c.H0 a = none
  | [], _, _, a, ha => by cases ha
  | (k, f) :: fs, _, q, a, ha => by
    obtain ⟨v, r, _, h1, h2⟩ := q
    rcases List.mem_append.mp ha with ha | ha
    · exact h1.own a ha
    · exact FsOk.own h2 a ha
theorem SlOk.own {s : Sl} {o : Option V} (q : SlOk K c G H s o) : ∀ a ∈ ownL s o, (∃ u, H a = some u) ∧ G a = none ∧ c.H0 a = none := by
  intro a ha
  cases s with
  | ol ds =>
    obtain ⟨b, vs, rfl, h1, _, h2, h3⟩ := q
    rw [List.mem_singleton.mp ha]; exact ⟨⟨_, h1⟩, h2, h3⟩
  | od kvs =>
    obtain ⟨b, vs, rfl, h1, _, h2, h3⟩ := q
    rw [List.mem_singleton.mp ha]; exact ⟨⟨_, h1⟩, h2, h3⟩
  | oi b C fs =>
    obtain ⟨_, dx, ws, h1, hf, h2, h3, _⟩ := q
    rcases List.mem_cons.mp ha with rfl | ha
    · exact ⟨⟨_, h1⟩, h2, h3⟩
    · exact hf.own a ha
  | no => cases ha
  | d d => cases ha
  | dr => cases ha
  | ex a d fs => cases ha
theorem FlOk.go {f : Fl} {v : V} (q : FlOk K c.H0 G H f v) (sm : Same G G') (hh : ∀ a ∈ ownF f, (∀ u, H a = some u → H' a = some u) ∧ (G a = none → G' a = none)) : FlOk K c.H0 G' H' f v := by
  cases f with
  | d d => exact R.mono sm _ _ q
  | od b kvs =>
    obtain ⟨e, ws, h1, h2, h3, h4⟩ := q
    obtain ⟨k1, k2⟩ := hh b List.mem_cons_self
    exact ⟨e, ws, k1 _ h1, RK.mono sm _ _ h2, k2 h3, h4⟩
  | ol b ds =>
    obtain ⟨e, ws, h1, h2, h3, h4⟩ := q
    obtain ⟨k1, k2⟩ := hh b List.mem_cons_self
    exact ⟨e, ws, k1 _ h1, RL.mono sm _ _ h2, k2 h3, h4⟩
theorem FsOk.go (sm : Same G G') : ∀ {fs : List (Str × Fl)} {ws : List (Str × V)}, FsOk K c.H0 G H fs ws → (∀ a ∈ ownFs fs, (∀ u, H a = some u → H' a = some u) ∧ (G a = none → G' a = none)) → FsOk K c.H0 G' H' fs ws
  | [], _, q, _ => q
  | (k, f) :: fs, _, q, hh => by
    obtain ⟨v, r, e, h1, h2⟩ := q
    exact ⟨v, r, e, h1.go sm fun a ha => hh a (List.mem_append_left _ ha), FsOk.go sm h2 fun a ha => hh a (List.mem_append_right _ ha)⟩
theorem SlOk.go {s : Sl} {o : Option V} (q : SlOk K c G H s o) (sm : Same G G') (hh : ∀ a ∈ ownL s o, (∀ u, H a = some u → H' a = some u) ∧ (G a = none → G' a = none)) : SlOk K c G' H' s o := by
  cases s with
  | no => trivial
  | d d => obtain ⟨v, e, r⟩ := q; exact ⟨v, e, r.mono sm⟩
  | ol ds =>
    obtain ⟨a, vs, rfl, e1, r, e2, e3⟩ := q
    obtain ⟨k1, k2⟩ := hh a List.mem_cons_self
    exact ⟨a, vs, rfl, k1 _ e1, RL.mono sm _ _ r, k2 e2, e3⟩
  | dr => exact q
  | ex a d fs => obtain ⟨e, ws, h1, h2⟩ := q; exact ⟨e, ws, sm _ _ h1, RF.mono sm _ _ h2⟩
  | od kvs =>
    obtain ⟨a, vs, rfl, e1, r, e2, e3⟩ := q
    obtain ⟨k1, k2⟩ := hh a List.mem_cons_self
    exact ⟨a, vs, rfl, k1 _ e1, RK.mono sm _ _ r, k2 e2, e3⟩
  | oi a C fs =>
    obtain ⟨e, dx, ws, e1, r, e2, e3, nd⟩ := q
    obtain ⟨k1, k2⟩ := hh a List.mem_cons_self
    exact ⟨e, dx, ws, k1 _ e1, FsOk.go sm r fun b hb => hh b (List.mem_cons_of_mem _ hb), k2 e2, e3, nd⟩
theorem Fr.own_ne (f : Fr K c G H env σ) {a : Addr} (h : c.H0 a = none) : c.da ≠ some a := fun e => by
  obtain ⟨o, q⟩ := f.dr0 a e
  rw [h] at q; cases q
theorem Fr.step (f : Fr K c G H env σ) (g : Gr K c.da G H G' H') : Fr K c G' H' env σ where
  hb := fun a o h n => g.hh a o (f.hb a o h n) n
  gg := f.gg.trans g.gg
  gh := g.gh
  old := fun a o h n => by
    have h1 := f.old a o h n
    by_cases e : c.da = some a
    · obtain ⟨_, s, k, ns, h2, _⟩ := f.dr a e
      exact g.old a _ h2 h1
    · exact g.old a o (f.hb a o h e) h1
  dr0 := f.dr0
  dr := g.dr
  len := f.len
  sl := fun i s o h1 h2 => by
    have q := f.sl i s o h1 h2
    refine q.go g.gg fun a ha => ?_
    obtain ⟨⟨u, hu⟩, e2, e3⟩ := q.own a ha
    exact ⟨fun u' hu' => g.hh a u' hu' (f.own_ne e3), fun _ => g.old a u hu e2⟩
  sep := f.sep
theorem Gr.refl (f : Fr K c G H env σ) : Gr K c.da G H G H := ⟨Same.refl G, f.gh, fun _ _ h _ => h, fun _ _ _ h => h, f.dr⟩
theorem DrC.same {a : Addr} (d : DrC K G H a) (gg : Same G G') (n : G' a = none) (hh : ∀ o, H a = some o → H' a = some o) : DrC K G' H' a := by
  obtain ⟨_, s, k, ns, h2, h3⟩ := d
  exact ⟨n, s, k, ns, hh _ h2, gg.seq h3⟩
/-- a new frozen thing -/
theorem Fr.newG (f : Fr K c G H env σ) {p : Addr} {o : HO} (h : H p = none) : Gr K c.da G H (upd G p o) (upd H p o) where
  gg := Same.trans (Same.refl G) (fun b u e => by rw [upd_ne (ne_of_none (f.gh _ _ e) h)]; exact e)
  gh := fun b u e => by
    by_cases q : b = p
    · rw [q, upd_same] at e ⊢; exact e
    · rw [upd_ne q] at e ⊢; exact f.gh _ _ e
  hh := fun a u e _ => by rw [upd_ne (ne_of_none e h)]; exact e
  old := fun a u e n => by rw [upd_ne (ne_of_none e h)]; exact n
  dr := fun a e => by
    obtain ⟨n, s, k, ns, h2, h3⟩ := f.dr a e
    refine ⟨by rw [upd_ne (ne_of_none h2 h)]; exact n, s, k, ns, by rw [upd_ne (ne_of_none h2 h)]; exact h2, ?_⟩
    exact (show Same G (upd G p o) from fun b u e => by rw [upd_ne (ne_of_none (f.gh _ _ e) h)]; exact e).seq h3
/-- a new thing that is not frozen -/
theorem Fr.newH (f : Fr K c G H env σ) {p : Addr} {o : HO} (h : H p = none) : Gr K c.da G H G (upd H p o) where
  gg := Same.refl G
  gh := fun b u e => by rw [upd_ne (ne_of_none (f.gh _ _ e) h)]; exact f.gh _ _ e
  hh := fun a u e _ => by rw [upd_ne (ne_of_none e h)]; exact e
  old := fun _ _ _ n => n
  dr := fun a e => (f.dr a e).same (Same.refl G) (f.dr a e).1 fun o' h' => by rw [upd_ne (ne_of_none h' h)]; exact h'
theorem Fr.gnone (f : Fr K c G H env σ) {p : Addr} (h : H p = none) : G p = none := f.gh.free h
theorem Fr.h0none (f : Fr K c G H env σ) {p : Addr} (h : H p = none) : c.H0 p = none := by
  cases e : c.H0 p with
  | none => rfl
  | some o =>
    by_cases q : c.da = some p
    · obtain ⟨_, s, k, ns, h2, _⟩ := f.dr p q
      rw [h] at h2; cases h2
    · rw [f.hb p o e q] at h; cases h
def NoOwn (env : List Sl) (σ : St) (a : Addr) : Prop := ∀ (j : Nat) (s : Sl) (o : Option V), env[j]? = some s → σ[j]? = some o → a ∉ ownL s o
theorem Fr.noOwn (f : Fr K c G H env σ) {p : Addr} (h : H p = none) : NoOwn env σ p := fun j s o h1 h2 e => by
  obtain ⟨⟨u, hu⟩, _⟩ := (f.sl j s o h1 h2).own p e
  rw [h] at hu; cases hu
theorem len_set {α : Type} (l : List α) (i : Nat) (x : α) : (l.set i x).length = l.length := List.length_set
/-- a slot takes frozen data (or is forgotten) -/
theorem Fr.set (f : Fr K c G H env σ) (i : Nat) {s : Sl} {o : Option V} (h : SlOk K c G H s o) (n : ∀ a, a ∈ ownL s o → NoOwn env σ a) : Fr K c G H (env.set i s) (σ.set i o) where
  hb := f.hb
  gg := f.gg
  gh := f.gh
  old := f.old
  dr0 := f.dr0
  dr := f.dr
  len := by rw [List.length_set, List.length_set, f.len]
  sl := fun j s' o' h1 h2 => by
    by_cases e : j = i
    · subst e
      have hj : j < env.length := by have := (List.getElem?_eq_some_iff.mp h1).1; rwa [List.length_set] at this
      rw [List.getElem?_set_self hj] at h1
      rw [List.getElem?_set_self (f.len ▸ hj)] at h2
      cases h1; cases h2; exact h
    · rw [List.getElem?_set_ne (Ne.symm e)] at h1 h2
      exact f.sl j s' o' h1 h2
  sep := fun j k a sj sk oj ok h1 h2 h3 h4 h5 h6 => by
    have get : ∀ (j : Nat) (sj : Sl) (oj : Option V), (env.set i s)[j]? = some sj → (σ.set i o)[j]? = some oj → (j = i ∧ sj = s ∧ oj = o) ∨ (j ≠ i ∧ env[j]? = some sj ∧ σ[j]? = some oj) := by
      intro j sj oj h1 h2
      by_cases e : j = i
      · subst e
        have hj : j < env.length := by have := (List.getElem?_eq_some_iff.mp h1).1; rwa [List.length_set] at this
        rw [List.getElem?_set_self hj] at h1
        rw [List.getElem?_set_self (f.len ▸ hj)] at h2
        cases h1; cases h2
        exact .inl ⟨rfl, rfl, rfl⟩
      · rw [List.getElem?_set_ne (Ne.symm e)] at h1 h2
        exact .inr ⟨e, h1, h2⟩
    rcases get j sj oj h1 h2 with ⟨e1, e2, e3⟩ | ⟨e1, e2, e3⟩
    · rcases get k sk ok h3 h4 with ⟨g1, g2, g3⟩ | ⟨g1, g2, g3⟩
      · rw [e1, g1]
      · subst e2; subst e3
        exact absurd h6 (n a h5 k sk ok g2 g3)
    · rcases get k sk ok h3 h4 with ⟨g1, g2, g3⟩ | ⟨g1, g2, g3⟩
      · subst g2; subst g3
        exact absurd h5 (n a h6 j sj oj e2 e3)
      · exact f.sep j k a sj sk oj ok e2 e3 g2 g3 h5 h6
theorem Fr.setD (f : Fr K c G H env σ) (i : Nat) {d : D} {v : V} (h : R K G d v) : Fr K c G H (env.set i (.d d)) (σ.set i (some v)) := f.set i ⟨v, rfl, h⟩ fun a e => by cases e
theorem Fr.setNo (f : Fr K c G H env σ) (i : Nat) (o : Option V) : Fr K c G H (env.set i .no) (σ.set i o) := f.set i trivial fun a e => by cases e
theorem Fr.get (f : Fr K c G H env σ) {i : Nat} {s : Sl} (h : env[i]? = some s) : ∃ o, σ[i]? = some o ∧ SlOk K c G H s o := by
  have hi : i < env.length := (List.getElem?_eq_some_iff.mp h).1
  have e : σ[i]? = some (σ[i]'(f.len ▸ hi)) := List.getElem?_eq_getElem (f.len ▸ hi)
  exact ⟨_, e, f.sl i s _ h e⟩
theorem Fr.getD (f : Fr K c G H env σ) {i : Nat} {d : D} (h : env[i]? = some (.d d)) : ∃ v, σ[i]? = some (some v) ∧ R K G d v := by
  obtain ⟨o, e, v, rfl, r⟩ := f.get h
  exact ⟨v, e, r⟩
theorem Fr.getO (f : Fr K c G H env σ) {i : Nat} {ds : List D} (h : env[i]? = some (.ol ds)) : ∃ a vs, σ[i]? = some (some (.ref a)) ∧ H a = some (.lst vs) ∧ RL K G ds vs ∧ G a = none ∧ c.H0 a = none := by
  obtain ⟨o, e, a, vs, rfl, q⟩ := f.get h
  exact ⟨a, vs, e, q⟩
theorem Fr.getOd (f : Fr K c G H env σ) {i : Nat} {ds : List (Key × D)} (h : env[i]? = some (.od ds)) : ∃ a vs, σ[i]? = some (some (.ref a)) ∧ H a = some (.dK vs) ∧ RK K G ds vs ∧ G a = none ∧ c.H0 a = none := by
  obtain ⟨o, e, a, vs, rfl, q⟩ := f.get h
  exact ⟨a, vs, e, q⟩
theorem Fr.getOi (f : Fr K c G H env σ) {i : Nat} {a C : Addr} {fs : List (Str × Fl)} (h : env[i]? = some (.oi a C fs)) : σ[i]? = some (some (.ref a)) ∧ ∃ dx ws, H a = some (.ins C dx ws) ∧ FsOk K c.H0 G H fs ws ∧ G a = none ∧ c.H0 a = none ∧ (a :: ownFs fs).Nodup := by
  obtain ⟨o, e, rfl, q⟩ := f.get h
  exact ⟨e, q⟩
/-- what a slot owns is written, or frozen as it stands -/
theorem Fr.own_upd (f : Fr K c G H env σ) {i : Nat} {s s' : Sl} {o : Option V} {a : Addr} {o1 : HO} (h : env[i]? = some s) (ho : σ[i]? = some o) (ha : a ∈ ownL s o) (hsub : ∀ b ∈ ownL s' o, b ∈ ownL s o ∨ NoOwn env σ b)
    (hG : G' = G ∨ G' = upd G a o1) (hs : SlOk K c G' (upd H a o1) s' o) : Fr K c G' (upd H a o1) (env.set i s') σ := by
  obtain ⟨_, hGa, h0⟩ := (f.sl i s o h ho).own a ha
  have hne : ∀ b, b ≠ a → G' b = G b := fun b hb => by
    rcases hG with rfl | rfl
    · rfl
    · exact upd_ne hb
  have sm : Same G G' := fun b u e => by rw [hne b (fun z => by rw [z, hGa] at e; cases e)]; exact e
  refine ⟨fun b u hb n => ?_, f.gg.trans sm, fun b u hb => ?_, fun b u hb n => ?_, f.dr0, fun b e => ?_, by rw [List.length_set]; exact f.len, fun j sj oj g1 g2 => ?_, fun j k b sj sk oj ok g1 g2 g3 g4 g5 g6 => ?_⟩
  · rw [upd_ne (fun z => by rw [z, h0] at hb; cases hb)]; exact f.hb b u hb n
  · by_cases e : b = a
    · rcases hG with rfl | rfl
      · rw [e, hGa] at hb; cases hb
      · rw [e, upd_same] at hb ⊢; exact hb
    · rw [hne b e] at hb
      rw [upd_ne e]; exact f.gh b u hb
  · rw [hne b (fun z => by rw [z, h0] at hb; cases hb)]; exact f.old b u hb n
  · have nb : b ≠ a := fun z => f.own_ne h0 (z ▸ e)
    exact (f.dr b e).same sm (by rw [hne b nb]; exact (f.dr b e).1) fun u q => by rw [upd_ne nb]; exact q
  · by_cases e : j = i
    · subst e
      rw [ho] at g2; cases g2
      rw [List.getElem?_set_self (List.getElem?_eq_some_iff.mp h).1] at g1
      cases g1
      exact hs
    · rw [List.getElem?_set_ne (Ne.symm e)] at g1
      refine (f.sl j sj oj g1 g2).go sm fun b hb => ?_
      have nb : b ≠ a := fun z => e (f.sep j i a _ _ _ _ g1 g2 h ho (z ▸ hb) ha)
      exact ⟨fun u q => by rw [upd_ne nb]; exact q, fun q => by rw [hne b nb]; exact q⟩
  · have get : ∀ (j : Nat) (sj : Sl) (oj : Option V), (env.set i s')[j]? = some sj → σ[j]? = some oj → b ∈ ownL sj oj → (∃ s2, env[j]? = some s2 ∧ b ∈ ownL s2 oj) ∨ (j = i ∧ NoOwn env σ b) := by
      intro j sj oj g1 g2 g5
      by_cases e : j = i
      · subst e
        rw [List.getElem?_set_self (List.getElem?_eq_some_iff.mp h).1] at g1
        cases g1
        rw [ho] at g2; cases g2
        rcases hsub b g5 with g5 | g5
        · exact .inl ⟨_, h, g5⟩
        · exact .inr ⟨rfl, g5⟩
      · rw [List.getElem?_set_ne (Ne.symm e)] at g1
        exact .inl ⟨_, g1, g5⟩
    rcases get j sj oj g1 g2 g5 with ⟨s1, k1, k2⟩ | ⟨e1, n1⟩
    · rcases get k sk ok g3 g4 g6 with ⟨s2, k3, k4⟩ | ⟨e2, n2⟩
      · exact f.sep j k b _ _ _ _ k1 g2 k3 g4 k2 k4
      · exact (n2 j s1 oj k1 g2 k2).elim
    · rcases get k sk ok g3 g4 g6 with ⟨s2, k3, k4⟩ | ⟨e2, n2⟩
      · exact (n1 k s2 ok k3 g4 k4).elim
      · rw [e1, e2]
theorem upd_id {a : Addr} {u : HO} (h : H a = some u) : upd H a u = H := by
  funext b
  by_cases e : b = a
  · rw [e, upd_same, h]
  · exact upd_ne e
/-- an owned list is written -/
theorem Fr.write (f : Fr K c G H env σ) {i : Nat} {ds es : List D} {a : Addr} {us : List V} (h : env[i]? = some (.ol ds)) (ha : σ[i]? = some (some (.ref a))) (r : RL K G es us) : Fr K c G (upd H a (.lst us)) (env.set i (.ol es)) σ := by
  obtain ⟨a', vs, e, h1, h2, h3, h4⟩ := f.getO h
  rw [ha] at e; cases e
  exact f.own_upd h ha List.mem_cons_self (fun b hb => .inl hb) (.inl rfl) ⟨a, us, rfl, upd_same, r, h3, h4⟩
/-- an owned list is frozen -/
theorem Fr.freeze (f : Fr K c G H env σ) {i : Nat} {ds : List D} (h : env[i]? = some (.ol ds)) : ∃ a vs, σ[i]? = some (some (.ref a)) ∧ H a = some (.lst vs) ∧ RL K G ds vs ∧ Same G (upd G a (.lst vs)) ∧ Fr K c (upd G a (.lst vs)) H (env.set i (.d (.lst ds))) σ := by
  obtain ⟨a, vs, ha, h1, h2, h3, h4⟩ := f.getO h
  have sm : Same G (upd G a (.lst vs)) := fun b o hb => by rw [upd_ne (ne_of_none hb h3)]; exact hb
  refine ⟨a, vs, ha, h1, h2, sm, ?_⟩
  have := f.own_upd (s' := .d (.lst ds)) h ha List.mem_cons_self (fun b hb => by cases hb) (.inr rfl) (o1 := .lst vs) ⟨.ref a, rfl, .lst upd_same (RL.mono sm _ _ h2)⟩
  rw [upd_id h1] at this
  exact this
/-- an owned dict is written -/
theorem Fr.writeD (f : Fr K c G H env σ) {i : Nat} {ds es : List (Key × D)} {a : Addr} {us : List (Key × V)} (h : env[i]? = some (.od ds)) (ha : σ[i]? = some (some (.ref a))) (r : RK K G es us) : Fr K c G (upd H a (.dK us)) (env.set i (.od es)) σ := by
  obtain ⟨a', vs, e, h1, h2, h3, h4⟩ := f.getOd h
  rw [ha] at e; cases e
  exact f.own_upd h ha List.mem_cons_self (fun b hb => .inl hb) (.inl rfl) ⟨a, us, rfl, upd_same, r, h3, h4⟩
/-- an owned dict is frozen: it is locked -/
theorem Fr.freezeD (f : Fr K c G H env σ) {i : Nat} {ds : List (Key × D)} (h : env[i]? = some (.od ds)) : ∃ a vs, σ[i]? = some (some (.ref a)) ∧ H a = some (.dK vs) ∧ RK K G ds vs ∧ ∀ o, Same G (upd G a (.frz o (.dK vs))) ∧ Fr K c (upd G a (.frz o (.dK vs))) (upd H a (.frz o (.dK vs))) (env.set i (.d (.dct ds))) σ := by
  obtain ⟨a, vs, ha, h1, h2, h3, h4⟩ := f.getOd h
  refine ⟨a, vs, ha, h1, h2, fun o => ?_⟩
  have sm : Same G (upd G a (.frz o (.dK vs))) := fun b o hb => by rw [upd_ne (ne_of_none hb h3)]; exact hb
  exact ⟨sm, f.own_upd (s' := .d (.dct ds)) h ha List.mem_cons_self (fun b hb => by cases hb) (.inr rfl) (o1 := .frz o (.dK vs)) ⟨.ref a, rfl, by unfold R; exact ⟨a, o, vs, rfl, upd_same, RK.mono sm _ _ h2⟩⟩⟩
theorem Fr.rebase (f : Fr K c G H env σ) : Fr K { c with G0 := G } G H env σ := ⟨f.hb, Same.refl G, f.gh, fun _ _ _ n => n, f.dr0, f.dr, f.len, f.sl, f.sep⟩
theorem Fr.unbase (f0 : Fr K c G H env σ) {G' H' : Hp} {env' : List Sl} {σ' : St} (f : Fr K { c with G0 := G } G' H' env' σ') : Fr K c G' H' env' σ' :=
  ⟨f.hb, f0.gg.trans f.gg, f.gh, fun a o h n => f.old a o h (f0.old a o h n), f.dr0, f.dr, f.len, f.sl, f.sep⟩
theorem Gr.fresh {da : Option Addr} {G H G1 H1 : Hp} (g : Gr K da G H G1 H1) {p : Addr} (h : H1 p = none) : H p = none := by
  cases e : H p with
  | none => rfl
  | some o =>
    by_cases q : da = some p
    · obtain ⟨_, s, k, ns, h2, _⟩ := g.dr p q
      rw [h] at h2; cases h2
    · rw [g.hh p o e q] at h; cases h
theorem Gr.trans {da : Option Addr} {G1 H1 G2 H2 : Hp} (a : Gr K da G H G1 H1) (b : Gr K da G1 H1 G2 H2) : Gr K da G H G2 H2 where
  gg := a.gg.trans b.gg
  gh := b.gh
  hh := fun x o h n => b.hh x o (a.hh x o h n) n
  old := fun x o h n => by
    have h1 := a.old x o h n
    by_cases e : da = some x
    · obtain ⟨_, s, k, ns, h2, _⟩ := a.dr x e
      exact b.old x _ h2 h1
    · exact b.old x o (a.hh x o h e) h1
  dr := b.dr
end
end Y

namespace Y
open PySem L2
abbrev WE := List Sl → (D → Prop) → Prop
abbrev WT := List Sl → (Bool → Prop) → Prop
abbrev WA := List Sl → (List D → Prop) → Prop
/-- a list is read in H, its items in G -/
def RH (K : PySem.W.Frag) (G H : Hp) : D → V → Prop
  | .lst ds, v => ∃ a vs, v = .ref a ∧ H a = some (.lst vs) ∧ RL K G ds vs
  | .dct kvs, v => ∃ a ws, v = .ref a ∧ Rd H a (.dK ws) ∧ RK K G kvs ws
  | d, v => R K G d v
def noDct : D → Prop := fun d => match d with | .dct _ => False | _ => True
theorem RH.of {K : PySem.W.Frag} {G H : Hp} (s : Same G H) {d : D} {v : V} (h : R K G d v) : RH K G H d v := by
  cases d with
  | lst ds => obtain ⟨a, vs, e, h1, h2⟩ := h.lstE; exact ⟨a, vs, e, s _ _ h1, h2⟩
  | dct ds => unfold R at h; obtain ⟨a, o, vs, e, h1, h2⟩ := h; exact ⟨a, vs, e, .inr ⟨o, s _ _ h1⟩, h2⟩
  | _ => exact h
theorem RH.r {K : PySem.W.Frag} {G H : Hp} (s : Same G H) {d : D} {v : V} (h : RH K G H d v) (nd : noDct d) : R K H d v := by
  cases d with
  | lst ds => obtain ⟨a, vs, rfl, h1, h2⟩ := h; exact .lst h1 (RL.mono s _ _ h2)
  | dct ds => exact nd.elim
  | _ => exact R.mono s _ _ h
/-- .. and so it stays while the frame stays -/
def RB (K : PySem.W.Frag) (c : Ctx) (G : Hp) (env : List Sl) (σ : L2.St) (d : D) (v : V) : Prop := ∀ G' H', Fr K c G' H' env σ → Same G G' → RH K G' H' d v
theorem RB.of {K : PySem.W.Frag} {c : Ctx} {G : Hp} {env : List Sl} {σ : L2.St} {d : D} {v : V} (h : R K G d v) : RB K c G env σ d v := fun _ _ f s => .of f.gh (h.mono s)
theorem RB.mono {K : PySem.W.Frag} {c : Ctx} {G G' : Hp} {env : List Sl} {σ : L2.St} {d : D} {v : V} (s : Same G G') (h : RB K c G env σ d v) : RB K c G' env σ d v := fun G2 H2 f s2 => h G2 H2 f (s.trans s2)

def Snd (K : PySem.W.Frag) (t : TE) (w : WE) : Prop := ∀ (c : Ctx) (G H : Hp) (env : List Sl) (σ : L2.St) (Q : VK) (q : D → Prop), Fr K c G H env σ → w env q →
  (∀ v d G' H', Fr K c G' H' env σ → Gr K c.da G H G' H' → R K G' d v → q d → Q v H') → t σ H Q
def SndB (K : PySem.W.Frag) (t : TE) (w : WE) : Prop := ∀ (c : Ctx) (G H : Hp) (env : List Sl) (σ : L2.St) (Q : VK) (q : D → Prop), Fr K c G H env σ → w env q →
  (∀ v d G' H', Fr K c G' H' env σ → Gr K c.da G H G' H' → RB K c G' env σ d v → q d → Q v H') → t σ H Q
/-- a new list of ours -/
def SndN (K : PySem.W.Frag) (t : TE) (w : WA) : Prop := ∀ (c : Ctx) (G H : Hp) (env : List Sl) (σ : L2.St) (Q : VK) (q : List D → Prop), Fr K c G H env σ → w env q →
  (∀ a vs ds G' H', Fr K c G' H' env σ → Gr K c.da G H G' H' → H' a = some (.lst vs) → RL K G' ds vs → G' a = none → c.H0 a = none → H a = none → NoOwn env σ a → q ds → Q (.ref a) H') → t σ H Q
def SndT (K : PySem.W.Frag) (t : TT) (w : WT) : Prop := ∀ (c : Ctx) (G H : Hp) (env : List Sl) (σ : L2.St) (Q : Bool → Hp → Prop) (q : Bool → Prop), Fr K c G H env σ → w env q →
  (∀ b G' H', Fr K c G' H' env σ → Gr K c.da G H G' H' → q b → Q b H') → t σ H Q
def SndA (K : PySem.W.Frag) (t : TA) (w : WA) : Prop := ∀ (c : Ctx) (G H : Hp) (env : List Sl) (σ : L2.St) (Q : List V → Hp → Prop) (q : List D → Prop), Fr K c G H env σ → w env q →
  (∀ vs ds G' H', Fr K c G' H' env σ → Gr K c.da G H G' H' → RL K G' ds vs → q ds → Q vs H') → t σ H Q
structure DE (X : Cx) (e : Expr) (t : TE) (w : WE) : Prop where
  pe : PE X e t
  snd : Snd X.K t w
structure DB (X : Cx) (e : Expr) (t : TE) (w : WE) : Prop where
  pe : PE X e t
  snd : SndB X.K t w
structure DN (X : Cx) (e : Expr) (t : TE) (w : WA) : Prop where
  pe : PE X e t
  snd : SndN X.K t w
structure DT (X : Cx) (e : Expr) (t : TT) (w : WT) : Prop where
  pt : PT X e t
  snd : SndT X.K t w
structure DA (X : Cx) (es : List Expr) (t : TA) (w : WA) : Prop where
  pa : PA X es t
  snd : SndA X.K t w
section
variable {X : Cx} {e a b cnd : Expr} {es : List Expr} {t ta tb tc : TE} {w wa wb wc : WE} {tA : TA} {wA : WA} {tt tt' : TT} {wt wt' : WT} {pos : Pos}
theorem DE.toB (h : DE X e t w) : DB X e t w := ⟨h.pe, fun c G H env σ Q q f hw k => h.snd c G H env σ Q q f hw fun v d G' H' f' s r hq => k v d G' H' f' s (.of r) hq⟩
def wN (w : WA) : WE := fun env q => w env fun ds => q (.lst ds)
/-- a new list is frozen -/
theorem DN.toE {w : WA} (h : DN X e t w) : DE X e t (wN w) := ⟨h.pe, fun c G H env σ Q q f hw k => h.snd c G H env σ Q (fun ds => q (.lst ds)) f hw fun a vs ds G' H' f' s h1 r h2 h3 na no hq => by
  have sm : Same G' (upd G' a (.lst vs)) := fun b o hb => by rw [upd_ne (ne_of_none hb h2)]; exact hb
  have gr : Gr X.K c.da G H (upd G' a (.lst vs)) H' := by
    refine ⟨s.gg.trans sm, fun b o hb => ?_, s.hh, fun x o hx n => by rw [upd_ne (ne_of_none hx na)]; exact s.old x o hx n, fun x e => ?_⟩
    · by_cases e : b = a
      · rw [e, upd_same] at hb; cases hb; rw [e]; exact h1
      · rw [upd_ne e] at hb; exact f'.gh b o hb
    · obtain ⟨_, z, k, ns, h4, _⟩ := f.dr x e
      exact (s.dr x e).same sm (by rw [upd_ne (ne_of_none h4 na)]; exact (s.dr x e).1) fun o q => q
  exact k (.ref a) (.lst ds) (upd G' a (.lst vs)) H' (f.step gr) gr (.lst upd_same (RL.mono sm _ _ r)) hq⟩

/-! ### names, constants -/
def wVar (i : Nat) : WE := fun env q => match env[i]? with | some (.d d) => q d | _ => False
/-- a name, be its list ours -/
def wOwn (i : Nat) : WE := fun env q => match env[i]? with | some (.d d) => q d | some (.ol ds) => q (.lst ds) | some (.od kvs) => q (.dct kvs) | _ => False
def wC (d : D) : WE := fun _ q => q d
theorem de_var (i : Nat) {x : Str} (hN : X.N[i]? = some x := by rfl) (hv : Vis X.env.scope x := by first | exact Or.inl rfl | exact Or.inr (Or.inl rfl) | exact Or.inr (Or.inr rfl)) (hd : (x == ("__debug__" : Str)) = false := by decide)
    (hcd : (x == ("__classdict__" : Str)) = false := by decide) : DE X (.Name x pos) (tVar i) (wVar i) := ⟨pe_var hN hv hd hcd, fun c G H env σ Q q f hw k => by
  unfold wVar at hw
  split at hw
  · rename_i d e
    obtain ⟨v, e1, r⟩ := f.getD e
    exact ⟨v, e1, k v d G H f (Gr.refl f) r hw⟩
  · exact hw.elim⟩
theorem db_var (i : Nat) {x : Str} (hN : X.N[i]? = some x := by rfl) (hv : Vis X.env.scope x := by first | exact Or.inl rfl | exact Or.inr (Or.inl rfl) | exact Or.inr (Or.inr rfl)) (hd : (x == ("__debug__" : Str)) = false := by decide)
    (hcd : (x == ("__classdict__" : Str)) = false := by decide) : DB X (.Name x pos) (tVar i) (wOwn i) := ⟨pe_var hN hv hd hcd, fun c G H env σ Q q f hw k => by
  unfold wOwn at hw
  split at hw
  · rename_i d e
    obtain ⟨v, e1, r⟩ := f.getD e
    exact ⟨v, e1, k v d G H f (Gr.refl f) (.of r) hw⟩
  · rename_i ds e
    obtain ⟨a, vs, e1, _⟩ := f.getO e
    refine ⟨.ref a, e1, k _ _ G H f (Gr.refl f) (fun G' H' f' s => ?_) hw⟩
    obtain ⟨a', vs', e2, h1, h2, _⟩ := f'.getO e
    rw [e1] at e2; cases e2
    exact ⟨a, vs', rfl, h1, h2⟩
  · rename_i ds e
    obtain ⟨a, vs, e1, _⟩ := f.getOd e
    refine ⟨.ref a, e1, k _ _ G H f (Gr.refl f) (fun G' H' f' s => ?_) hw⟩
    obtain ⟨a', vs', e2, h1, h2, _⟩ := f'.getOd e
    rw [e1] at e2; cases e2
    exact ⟨a, vs', rfl, .inl h1, h2⟩
  · exact hw.elim⟩
theorem de_c {d : D} {v : V} (h : PE X e (tC v)) (r : ∀ G, R X.K G d v) : DE X e (tC v) (wC d) := ⟨h, fun _ G H _ _ _ _ f hw k => k v d G H f (Gr.refl f) (r G) hw⟩
theorem de_int {i j pos} : DE X (.Constant (.int i) j pos) (tC (.int i)) (wC (.int i)) := de_c pe_int fun _ => R.int_
theorem de_bl {i j pos} : DE X (.Constant (.bool i) j pos) (tC (.bl i)) (wC (.bl i)) := de_c pe_bl fun _ => R.bl_
theorem de_non {j pos} : DE X (.Constant .none j pos) (tC .non) (wC .non) := de_c pe_non fun _ => R.non_
theorem de_str {s j pos} : DE X (.Constant (.str s) j pos) (tC (.str s)) (wC (.str s)) := de_c pe_str fun _ => R.str_
theorem de_glob {x : Str} {v : V} {u : Value} {d : D} (hg : Gl X x) (hm : X.mg x = some u) (r : RelV v u) (rd : ∀ G, R X.K G d v) (hd : (x == ("__debug__" : Str)) = false := by decide) : DE X (.Name x pos) (tC v) (wC d) := de_c (pe_glob hg hm r hd) rd

/-! ### two operands -/
abbrev WO := D → D → (D → Prop) → Prop
def SndO (K : PySem.W.Frag) (r : R2) (wo : WO) : Prop := ∀ (c : Ctx) (G H : Hp) (env : List Sl) (σ : L2.St) (x y : V) (d e : D) (Q : VK) (q : D → Prop), Fr K c G H env σ → RH K G H d x → RH K G H e y → wo d e q →
  (∀ v z G' H', Fr K c G' H' env σ → Gr K c.da G H G' H' → R K G' z v → q z → Q v H') → r x y H Q
def wOp2 (wo : WO) (wa wb : WE) : WE := fun env q => wa env fun d => wb env fun e => wo d e q
theorem snd_op {K : PySem.W.Frag} {r : R2} {wo : WO} (ha : SndB K ta wa) (hb : SndB K tb wb) (ho : SndO K r wo) : Snd K (tOp r ta tb) (wOp2 wo wa wb) := fun c G H env σ Q q f hw k =>
  ha c G H env σ _ _ f hw fun x d G1 H1 f1 s1 r1 hw1 => hb c G1 H1 env σ _ _ f1 hw1 fun y e G2 H2 f2 s2 r2 hw2 =>
    ho c G2 H2 env σ x y d e Q q f2 (r1 G2 H2 f2 s2.gg) (r2 G2 H2 f2 (Same.refl _)) hw2 fun v z G3 H3 f3 s3 r3 hq => k v z G3 H3 f3 ((s1.trans s2).trans s3) r3 hq
theorem de_op {op : Operator} {r : R2} {wo : WO} (ho : OpR X (binaryOp op) r) (so : SndO X.K r wo) (ha : DB X a ta wa) (hb : DB X b tb wb) : DE X (.BinOp a op b pos) (tOp r ta tb) (wOp2 wo wa wb) := ⟨pe_op ho ha.pe hb.pe, snd_op ha.snd hb.snd so⟩
theorem de_cmp {op : CmpOp} {r : R2} {wo : WO} (ho : OpR X (compareOp op) r) (so : SndO X.K r wo) (ha : DB X a ta wa) (hb : DB X b tb wb) (hm : behindInMarks op b = false) : DE X (.Compare a [op] [b] pos) (tOp r ta tb) (wOp2 wo wa wb) := ⟨pe_cmpR ho ha.pe hb.pe hm, snd_op ha.snd hb.snd so⟩
/-- a value that is a truth value, as a test -/
def wTest (w : WE) : WT := fun env q => w env fun d => match d with | .bl b => q b | _ => False
theorem snd_test {K : PySem.W.Frag} (h : Snd K t w) : SndT K (tTest t) (wTest w) := fun c G H env σ Q q f hw k => h c G H env σ _ _ f hw fun v d G' H' f' s r hq => by
  cases d with
  | bl b => exact ⟨b, r, k b G' H' f' s hq⟩
  | _ => exact hq.elim
theorem dt_cmp {op : CmpOp} {r : R2} {wo : WO} (ho : OpR X (compareOp op) r) (so : SndO X.K r wo) (ha : DB X a ta wa) (hb : DB X b tb wb) (hm : behindInMarks op b = false) : DT X (.Compare a [op] [b] pos) (tTest (tOp r ta tb)) (wTest (wOp2 wo wa wb)) := ⟨pt_cmpR ho ha.pe hb.pe hm, snd_test (snd_op ha.snd hb.snd so)⟩
theorem dt_val (h : DE X e t w) (he : ∀ whole, isTrue e X.env whole = (do let v ← whole; standAt e.pos; holding [v] (truthy v)) := by intro _; rfl) : DT X e (tB t) (wTest w) := ⟨pt_val h.pe he, snd_test h.snd⟩
/-- chains -/
def wChain (wo wo' : WO) (wa wb wc : WE) : WE := fun env q => wa env fun d => wb env fun e => wo d e fun z => match z with | .bl true => wc env fun g => wo' e g q | .bl false => q (.bl false) | _ => False
theorem snd_chain {K : PySem.W.Frag} {r r' : R2} {wo wo' : WO} (ha : SndB K ta wa) (hb : SndB K tb wb) (hc : SndB K tc wc) (ho : SndO K r wo) (ho' : SndO K r' wo') : Snd K (tChain r r' ta tb tc) (wChain wo wo' wa wb wc) := fun c G H env σ Q q f hw k =>
  ha c G H env σ _ _ f hw fun x d G1 H1 f1 s1 r1 hw1 => hb c G1 H1 env σ _ _ f1 hw1 fun y e G2 H2 f2 s2 r2 hw2 =>
    ho c G2 H2 env σ x y d e _ _ f2 (r1 G2 H2 f2 s2.gg) (r2 G2 H2 f2 (Same.refl _)) hw2 fun v z G3 H3 f3 s3 r3 hq => by
      cases z with
      | bl b =>
        refine ⟨b, r3, ?_⟩
        cases b with
        | true => exact iteT (hc c G3 H3 env σ _ _ f3 hq fun u g G4 H4 f4 s4 r4 hw4 => ho' c G4 H4 env σ y u e g Q q f4 (r2 G4 H4 f4 (s3.trans s4).gg) (r4 G4 H4 f4 (Same.refl _)) hw4 fun v z G5 H5 f5 s5 r5 hq5 => k v z G5 H5 f5 ((((s1.trans s2).trans s3).trans s4).trans s5) r5 hq5)
        | false => exact iteF (k _ _ G3 H3 f3 ((s1.trans s2).trans s3) R.bl_ hq)
      | _ => exact hq.elim
theorem de_chain {op op' : CmpOp} {r r' : R2} {wo wo' : WO} (ho : OpR X (compareOp op) r) (so : SndO X.K r wo) (ho' : OpR X (compareOp op') r') (so' : SndO X.K r' wo') (ha : DB X a ta wa) (hb : DB X b tb wb) (hc : DB X cnd tc wc)
    (hm : lastMarks [op, op'] [b, cnd] = false := by with_unfolding_all rfl) : DE X (.Compare a [op, op'] [b, cnd] pos) (tChain r r' ta tb tc) (wChain wo wo' wa wb wc) := ⟨pe_chain ho ho' ha.pe hb.pe hc.pe hm, snd_chain ha.snd hb.snd hc.snd so so'⟩
theorem dt_chain {op op' : CmpOp} {r r' : R2} {wo wo' : WO} (ho : OpR X (compareOp op) r) (so : SndO X.K r wo) (ho' : OpR X (compareOp op') r') (so' : SndO X.K r' wo') (ha : DB X a ta wa) (hb : DB X b tb wb) (hc : DB X cnd tc wc)
    (hm : lastMarks [op, op'] [b, cnd] = false := by with_unfolding_all rfl) : DT X (.Compare a [op, op'] [b, cnd] pos) (tTest (tChain r r' ta tb tc)) (wTest (wChain wo wo' wa wb wc)) := ⟨pt_chain ho ho' ha.pe hb.pe hc.pe hm, snd_test (snd_chain ha.snd hb.snd hc.snd so so')⟩

/-! ### and, or, not -/
structure DW (X : Cx) (e : Expr) (t : TT) (w : WT) : Prop where
  pw : PW X e t
  snd : SndT X.K t w
def wAndT (w w' : WT) : WT := fun env q => w env fun b => match b with | true => w' env q | false => q false
def wOrT (w w' : WT) : WT := fun env q => w env fun b => match b with | true => q true | false => w' env q
def wNotT (w : WT) : WT := fun env q => w env fun b => q (!b)
variable {rest : List Expr}
theorem dw_and1 (ha : DT X a tt wt) : DW X (.BoolOp .And [a] pos) tt wt := ⟨pw_and1 ha.pt, ha.snd⟩
theorem dw_or1 (ha : DT X a tt wt) : DW X (.BoolOp .Or [a] pos) tt wt := ⟨pw_or1 ha.pt, ha.snd⟩
theorem dw_and (ha : DT X a tt wt) (hb : DW X (.BoolOp .And (b :: rest) pos) tt' wt') : DW X (.BoolOp .And (a :: b :: rest) pos) (tAnd tt tt') (wAndT wt wt') := ⟨pw_and ha.pt hb.pw, fun c G H env σ Q q f hw k =>
  ha.snd c G H env σ _ _ f hw fun b G' H' f' s hq => by
    cases b with
    | true => exact iteT (hb.snd c G' H' env σ Q q f' hq fun b G2 H2 f2 s2 hq2 => k b G2 H2 f2 (s.trans s2) hq2)
    | false => exact iteF (k false G' H' f' s hq)⟩
theorem dw_or (ha : DT X a tt wt) (hb : DW X (.BoolOp .Or (b :: rest) pos) tt' wt') : DW X (.BoolOp .Or (a :: b :: rest) pos) (tOr tt tt') (wOrT wt wt') := ⟨pw_or ha.pt hb.pw, fun c G H env σ Q q f hw k =>
  ha.snd c G H env σ _ _ f hw fun b G' H' f' s hq => by
    cases b with
    | true => exact iteT (k true G' H' f' s hq)
    | false => exact iteF (hb.snd c G' H' env σ Q q f' hq fun b G2 H2 f2 s2 hq2 => k b G2 H2 f2 (s.trans s2) hq2)⟩
theorem DW.dt (h : DW X e tt wt) : DT X e tt wt := ⟨h.pw.pt, h.snd⟩
theorem dt_not (ha : DT X a tt wt) : DT X (.UnaryOp .Not a pos) (tNot tt) (wNotT wt) := ⟨pt_not ha.pt, fun c G H env σ Q q f hw k => ha.snd c G H env σ _ _ f hw fun b G' H' f' s hq => k (!b) G' H' f' s hq⟩
def wAndV (wa wb : WE) : WE := fun env q => wa env fun d => match d with | .bl true => wb env q | .bl false => q (.bl false) | _ => False
def wOrV (wa wb : WE) : WE := fun env q => wa env fun d => match d with | .bl true => q (.bl true) | .bl false => wb env q | _ => False
def wNotV (wa : WE) : WE := fun env q => wa env fun d => match d with | .bl b => q (.bl (!b)) | _ => False
theorem de_one {op} (h : DE X a t w) : DE X (.BoolOp op [a] pos) t w := ⟨pe_one h.pe, h.snd⟩
theorem de_and (ha : DE X a ta wa) (hb : DE X (.BoolOp .And (b :: rest) pos) tb wb) : DE X (.BoolOp .And (a :: b :: rest) pos) (tAndV ta tb) (wAndV wa wb) := ⟨pe_and ha.pe hb.pe, fun c G H env σ Q q f hw k =>
  ha.snd c G H env σ _ _ f hw fun v d G' H' f' s r hq => by
    cases d with
    | bl b =>
      refine ⟨b, r, ?_⟩
      cases b with
      | true => exact iteT (hb.snd c G' H' env σ Q q f' hq fun v d G2 H2 f2 s2 r2 hq2 => k v d G2 H2 f2 (s.trans s2) r2 hq2)
      | false => exact iteF (k _ _ G' H' f' s R.bl_ hq)
    | _ => exact hq.elim⟩
theorem de_or (ha : DE X a ta wa) (hb : DE X (.BoolOp .Or (b :: rest) pos) tb wb) : DE X (.BoolOp .Or (a :: b :: rest) pos) (tOrV ta tb) (wOrV wa wb) := ⟨pe_or ha.pe hb.pe, fun c G H env σ Q q f hw k =>
  ha.snd c G H env σ _ _ f hw fun v d G' H' f' s r hq => by
    cases d with
    | bl b =>
      refine ⟨b, r, ?_⟩
      cases b with
      | true => exact iteT (k _ _ G' H' f' s R.bl_ hq)
      | false => exact iteF (hb.snd c G' H' env σ Q q f' hq fun v d G2 H2 f2 s2 r2 hq2 => k v d G2 H2 f2 (s.trans s2) r2 hq2)
    | _ => exact hq.elim⟩
theorem de_not (ha : DE X a ta wa) : DE X (.UnaryOp .Not a pos) (tNotV ta) (wNotV wa) := ⟨pe_not ha.pe, fun c G H env σ Q q f hw k =>
  ha.snd c G H env σ _ _ f hw fun v d G' H' f' s r hq => by
    cases d with
    | bl b => exact ⟨b, r, k _ _ G' H' f' s R.bl_ hq⟩
    | _ => exact hq.elim⟩
def wIfE (wt : WT) (wa wb : WE) : WE := fun env q => wt env fun b => match b with | true => wa env q | false => wb env q
theorem de_ifE (hc : DT X cnd tt wt) (ha : DE X a ta wa) (hb : DE X b tb wb) : DE X (.IfExp cnd a b pos) (tIf tt ta tb) (wIfE wt wa wb) := ⟨pe_ifExp hc.pt ha.pe hb.pe, fun c G H env σ Q q f hw k =>
  hc.snd c G H env σ _ _ f hw fun x G' H' f' s hq => by
    cases x with
    | true => exact iteT (ha.snd c G' H' env σ Q q f' hq fun v d G2 H2 f2 s2 r2 hq2 => k v d G2 H2 f2 (s.trans s2) r2 hq2)
    | false => exact iteF (hb.snd c G' H' env σ Q q f' hq fun v d G2 H2 f2 s2 r2 hq2 => k v d G2 H2 f2 (s.trans s2) r2 hq2)⟩

/-! ### argument lists, displays -/
def wNil : WA := fun _ q => q []
def wCons (w : WE) (wr : WA) : WA := fun env q => w env fun d => wr env fun ds => q (d :: ds)
theorem da_nil : DA X [] tNil wNil := ⟨pa_nil, fun _ G H _ _ _ _ f hw k => k [] [] G H f (Gr.refl f) .nil hw⟩
theorem da_cons (ha : DE X e t w) (hr : DA X es tA wA) (hs : starEach (e :: es) X.env = (false, eval e X.env) :: starEach es X.env := by rfl) : DA X (e :: es) (tCons t tA) (wCons w wA) := ⟨pa_cons ha.pe hr.pa hs, fun c G H env σ Q q f hw k =>
  ha.snd c G H env σ _ _ f hw fun v d G1 H1 f1 s1 r1 hw1 => hr.snd c G1 H1 env σ _ _ f1 hw1 fun vs ds G2 H2 f2 s2 r2 hq => k (v :: vs) (d :: ds) G2 H2 f2 (s1.trans s2) (.cons (r1.mono s2.gg) r2) hq⟩
def wTup (wA : WA) : WE := fun env q => wA env fun ds => ds.length ≤ sizeLine ∧ q (.tup ds)
def wLst (wA : WA) : WA := fun env q => wA env fun ds => ds.length ≤ sizeLine ∧ q ds
theorem de_tup {x1} (h : DA X es tA wA) : DE X (.Tuple es x1 pos) (tTup tA) (wTup wA) := ⟨pe_tup h.pa, fun c G H env σ Q q f hw k =>
  h.snd c G H env σ _ _ f hw fun vs ds G1 H1 f1 s1 r1 hq => ⟨by rw [r1.length]; exact hq.1, fun p hp => by
    have g := f1.newG (o := .tup vs) hp
    exact k _ _ _ _ (f1.step g) (s1.trans g) (.tup (SqT.of upd_same) (RL.mono g.gg _ _ r1)) hq.2⟩⟩
theorem dn_lst (h : DA X es tA wA) : DN X (.List es pos) (tLst tA) (wLst wA) := ⟨pe_lst h.pa, fun c G H env σ Q q f hw k =>
  h.snd c G H env σ _ _ f hw fun vs ds G1 H1 f1 s1 r1 hq => ⟨by rw [r1.length]; exact hq.1, fun p hp => by
    have g := f1.newH (o := .lst vs) hp
    exact k p vs ds G1 _ (f1.step g) (s1.trans g) upd_same r1 (f1.gnone hp) (f1.h0none hp) (s1.fresh hp) (f1.noOwn hp) hq.2⟩⟩

/-! ### calls of the text's own defs -/
/-- what a def is worth: plain data in, plain data out -/
def spD (K : PySem.W.Frag) (W : List D → (D → Prop) → Prop) : Sp := fun vs H Q _ => ∃ (G : Hp) (ds : List D) (q : D → Prop), Same G H ∧ RL K G ds vs ∧ W ds q ∧
  ∀ v d G' H', Same H H' → Same G G' → Same G' H' → (∀ a o, H a = some o → G a = none → G' a = none) → R K G' d v → q d → Q v H'
/-- the same where the first argument is the draw -/
def spR (K : PySem.W.Frag) (W : List D → (D → Prop) → Prop) : Sp := fun vs H Q _ => ∃ (G : Hp) (a : Addr) (us : List V) (ds : List D) (q : D → Prop), vs = .ref a :: us ∧ Same G H ∧ DrC K G H a ∧ RL K G ds us ∧ W ds q ∧
  ∀ v d G' H', (∀ b o, H b = some o → b ≠ a → H' b = some o) → Same G G' → Same G' H' → (∀ b o, H b = some o → G b = none → G' b = none) → DrC K G' H' a → R K G' d v → q d → Q v H'
theorem gr_call {K : PySem.W.Frag} {c : Ctx} {G H G' H' : Hp} {env : List Sl} {σ : L2.St} (f : Fr K c G H env σ) (h1 : Same H H') (h2 : Same G G') (h3 : Same G' H') (h4 : ∀ a o, H a = some o → G a = none → G' a = none) : Gr K c.da G H G' H' :=
  ⟨h2, h3, fun a o h _ => h1 a o h, h4, fun a e => (f.dr a e).same h2 (by
    obtain ⟨n, s, k, ns, q, _⟩ := f.dr a e
    exact h4 a _ q n) fun o h => h1 a o h⟩
theorem snd_call {K : PySem.W.Frag} {W : List D → (D → Prop) → Prop} (h : SndA K tA wA) : Snd K (tCall (spD K W) [] E0 tA) (fun env q => wA env fun ds => W ds q) := fun c G H env σ Q q f hw k =>
  h c G H env σ _ _ f hw fun vs ds G1 H1 f1 s1 r1 hq => by
    show spD K W (vs ++ []) H1 Q E0
    rw [List.append_nil]
    refine ⟨G1, ds, q, f1.gh, r1, hq, fun v d G' H' h1 h2 h3 h4 r hq' => ?_⟩
    have g := gr_call f1 h1 h2 h3 h4
    exact k v d G' H' (f1.step g) (s1.trans g) r hq'
def wCall (W : List D → (D → Prop) → Prop) (wA : WA) : WE := fun env q => wA env fun ds => W ds q
theorem de_call {k : Nat} {f : Addr} {fd : FuncData} {ps : List Str} {W : List D → (D → Prop) → Prop} {x : Str} {p : Pos} (F : FnOk X.prog X.w X.K X.mg X.base CX0 k f fd ps (spD X.K W)) (hr : Room k X.A) (hg : Gl X x) (hm : X.mg x = some (.ref f)) (hk : PySem.W.keepIn X.K (.ref f) = true) (hb : Binds X.K fd ps [])
    (ha : DA X (e :: es) tA wA) (hdb : (x == ("__debug__" : Str)) = false := by decide) (he : starEach (e :: es) X.env = (false, eval e X.env) :: starEach es X.env := by rfl) (hpl : (backTo pos (starEach es X.env)).any (·.1) = false := by rfl) :
    DE X (.Call (.Name x p) (e :: es) [] pos) (tCall (spD X.K W) [] E0 tA) (wCall W wA) := ⟨pe_call F hr hg hm hk hb .nil pass0 ha.pa hdb he hpl, snd_call ha.snd⟩
/-- the draw's slot as the first argument -/
def isDr (env : List Sl) (i : Nat) : Prop := match env[i]? with | some .dr => True | _ => False
def wCallR (W : List D → (D → Prop) → Prop) (i : Nat) (wA : WA) : WE := fun env q => isDr env i ∧ wA env fun ds => W ds q
theorem snd_callR {K : PySem.W.Frag} {W : List D → (D → Prop) → Prop} {i : Nat} (h : SndA K tA wA) : Snd K (tCall (spR K W) [] E0 (tCons (tVar i) tA)) (wCallR W i wA) := fun c G H env σ Q q f hw k => by
  obtain ⟨hd, hw⟩ := hw
  unfold isDr at hd
  split at hd
  · rename_i e
    obtain ⟨o, e1, a, rfl, e2⟩ := f.get e
    refine ⟨.ref a, e1, ?_⟩
    refine h c G H env σ _ _ f hw fun vs ds G1 H1 f1 s1 r1 hq => ?_
    show spR K W ((.ref a :: vs) ++ []) H1 Q E0
    rw [List.append_nil]
    refine ⟨G1, a, vs, ds, q, rfl, f1.gh, f1.dr a e2, r1, hq, fun v d G' H' h1 h2 h3 h4 h5 r hq' => ?_⟩
    have g : Gr K c.da G1 H1 G' H' := ⟨h2, h3, fun b o hb n => h1 b o hb fun z => n (z ▸ e2), h4, fun b eb => by rw [e2] at eb; cases eb; exact h5⟩
    exact k v d G' H' (f1.step g) (s1.trans g) r hq'
  · exact hd.elim
theorem de_callR (i : Nat) {k : Nat} {f : Addr} {fd : FuncData} {ps : List Str} {W : List D → (D → Prop) → Prop} {x y : Str} {p p2 : Pos} (F : FnOk X.prog X.w X.K X.mg X.base CX0 k f fd ps (spR X.K W)) (hr : Room k X.A) (hg : Gl X x) (hm : X.mg x = some (.ref f)) (hk : PySem.W.keepIn X.K (.ref f) = true) (hb : Binds X.K fd ps [])
    (hv : PE X (.Name y p2) (tVar i)) (ha : DA X es tA wA) (hdb : (x == ("__debug__" : Str)) = false := by decide) (he : starEach (.Name y p2 :: es) X.env = (false, eval (.Name y p2) X.env) :: starEach es X.env := by rfl) (hpl : (backTo pos (starEach es X.env)).any (·.1) = false := by rfl) :
    DE X (.Call (.Name x p) (.Name y p2 :: es) [] pos) (tCall (spR X.K W) [] E0 (tCons (tVar i) tA)) (wCallR W i wA) := ⟨pe_call F hr hg hm hk hb .nil pass0 (pa_cons hv ha.pa he) hdb he hpl, snd_callR ha.snd⟩
end
end Y

namespace Y
open PySem L2
/-! ### ints, texts, tuples, lists under operators -/
def wAdd : WO := fun d e q => match d, e with
  | .int i, .int j => q (.int (i + j))
  | .str s, .str t => s.length + t.length ≤ sizeLine ∧ q (.str (s ++ t))
  | .tup xs, .tup ys => xs.length + ys.length ≤ sizeLine ∧ q (.tup (xs ++ ys))
  | _, _ => False
def wSub : WO := fun d e q => match d, e with | .int i, .int j => q (.int (i - j)) | _, _ => False
/-- a small factor on one side -/
def MulOk (i j : Int) : Prop := (-(2 ^ 64) < i ∧ i < 2 ^ 64) ∨ (-(2 ^ 64) < j ∧ j < 2 ^ 64)
def wMul : WO := fun d e q => match d, e with | .int i, .int j => MulOk i j ∧ q (.int (i * j)) | _, _ => False
def wMod : WO := fun d e q => match d, e with | .int i, .int j => 0 < j ∧ q (.int (i % j)) | _, _ => False
def wFdiv : WO := fun d e q => match d, e with | .int i, .int j => (0 < j ∧ j < 1073741824) ∧ q (.int (i / j)) | _, _ => False
def wPow : WO := fun d e q => match d, e with | .int i, .int j => (0 ≤ j ∧ j ≤ 1000000 ∧ i.natAbs < 2 ^ 64) ∧ q (.int (i ^ j.toNat)) | _, _ => False
def wLt : WO := fun d e q => match d, e with | .int i, .int j => (i < j → q (.bl true)) ∧ (¬ i < j → q (.bl false)) | _, _ => False
def wLe : WO := fun d e q => match d, e with | .int i, .int j => (i ≤ j → q (.bl true)) ∧ (¬ i ≤ j → q (.bl false)) | _, _ => False
def wGt : WO := fun d e q => match d, e with | .int i, .int j => (j < i → q (.bl true)) ∧ (¬ j < i → q (.bl false)) | _, _ => False
def wGe : WO := fun d e q => match d, e with | .int i, .int j => (j ≤ i → q (.bl true)) ∧ (¬ j ≤ i → q (.bl false)) | _, _ => False
def wIsN : WO := fun d e q => match e with | .non => (d = .non → q (.bl true)) ∧ (d ≠ .non → q (.bl false)) | _ => False
def wNotN : WO := fun d e q => match e with | .non => (d = .non → q (.bl false)) ∧ (d ≠ .non → q (.bl true)) | _ => False

section
variable {K : PySem.W.Frag} {X : Cx}
theorem RH.int {G H : Hp} {i : Int} {v : V} (h : RH K G H (.int i) v) : v = .int i := h
theorem RH.bl {G H : Hp} {i : Bool} {v : V} (h : RH K G H (.bl i) v) : v = .bl i := h
theorem RH.str {G H : Hp} {i : Str} {v : V} (h : RH K G H (.str i) v) : v = .str i := h
theorem RH.tup {G H : Hp} {ds : List D} {v : V} (h : RH K G H (.tup ds) v) : ∃ a vs, v = .ref a ∧ SqT K G a vs ∧ RL K G ds vs := R.tupE (show R K G (.tup ds) v from h)
theorem RH.lst {G H : Hp} {ds : List D} {v : V} (h : RH K G H (.lst ds) v) : ∃ a vs, v = .ref a ∧ H a = some (.lst vs) ∧ RL K G ds vs := h
theorem RH.isN {G H : Hp} {d : D} {v : V} (h : RH K G H d v) : v = .non ↔ d = .non := by
  cases d with
  | non => exact ⟨fun _ => rfl, fun _ => h⟩
  | bl b => rw [RH.bl h]; simp
  | int b => rw [RH.int h]; simp
  | str b => rw [RH.str h]; simp
  | tup b => obtain ⟨a, vs, rfl, _⟩ := h.tup; simp
  | tupc b => obtain ⟨a, vs, rfl, _⟩ := R.tupcE (show R K G (.tupc b) v from h); simp
  | lst b => obtain ⟨a, vs, rfl, _⟩ := h.lst; simp
  | dct b => unfold RH at h; obtain ⟨a, vs, rfl, _⟩ := h; simp
  | ins C b => unfold RH R at h; obtain ⟨a, dx, vs, rfl, _⟩ := h; simp
def rAddU (K : PySem.W.Frag) : R2 := fun x y H Q => (rI0 (fun i j => .int (i + j))) x y H Q ∨ (fun x y (H : Hp) (Q : VK) => ∃ i j, x = .str i ∧ y = .str j ∧ i.length + j.length ≤ sizeLine ∧ Q (.str (i ++ j)) H) x y H Q ∨ rCatA K x y H Q
theorem op_addU : OpR X (binaryOp .Add) (rAddU X.K) := op_add.or (op_add_str.or op_catA)
theorem so_add : SndO K (rAddU K) wAdd := fun c G H env σ x y d e Q q f hx hy hw k => by
  unfold wAdd at hw
  split at hw
  · exact .inl ⟨_, _, hx.int, hy.int, k _ _ G H f (Gr.refl f) R.int_ hw⟩
  · exact .inr (.inl ⟨_, _, hx.str, hy.str, hw.1, k _ _ G H f (Gr.refl f) R.str_ hw.2⟩)
  · obtain ⟨a, vs, rfl, h1, h2⟩ := hx.tup
    obtain ⟨b, us, rfl, h3, h4⟩ := hy.tup
    refine .inr (.inr ⟨a, b, vs, us, rfl, rfl, sqt_same f.gh h1, sqt_same f.gh h3, by rw [h2.length, h4.length]; exact hw.1, fun e => ?_, fun e1 e2 => ?_, fun e1 e2 p hp => ?_⟩)
    · refine k _ _ G H f (Gr.refl f) (.tup h3 ?_) hw.2
      have := h2.append h4
      rw [e] at this
      exact this
    · refine k _ _ G H f (Gr.refl f) (.tup h1 ?_) hw.2
      have := h2.append h4
      rw [e2, List.append_nil] at this
      exact this
    · have g := f.newG (o := .tup (vs ++ us)) hp
      exact k _ _ _ _ (f.step g) g (.tup (SqT.of upd_same) (RL.mono g.gg _ _ (h2.append h4))) hw.2
  · exact hw.elim
theorem so_int {wo : WO} {C : Int → Int → Prop} {g : Int → Int → V} {z : Int → Int → D} (h : ∀ d e q, wo d e q → ∃ i j, d = .int i ∧ e = .int j ∧ C i j ∧ q (z i j)) (r : ∀ G i j, R K G (z i j) (g i j)) : SndO K (rI C g) wo := fun c G H env σ x y d e Q q f hx hy hw k => by
  obtain ⟨i, j, rfl, rfl, hc, hq⟩ := h d e q hw
  exact ⟨i, j, hx.int, hy.int, hc, k _ _ G H f (Gr.refl f) (r G i j) hq⟩
theorem so_sub : SndO K (rI0 fun i j => .int (i - j)) wSub := fun c G H env σ x y d e Q q f hx hy hw k => by
  unfold wSub at hw
  split at hw
  · exact ⟨_, _, hx.int, hy.int, k _ _ G H f (Gr.refl f) R.int_ hw⟩
  · exact hw.elim
theorem so_mul : SndO K (rI CMul fun i j => .int (i * j)) wMul := so_int (z := fun i j => .int (i * j)) (fun d e q hw => by
  unfold wMul at hw
  split at hw
  · exact ⟨_, _, rfl, rfl, hw⟩
  · exact hw.elim) fun _ _ _ => R.int_
theorem so_mod : SndO K (rI (fun _ j => 0 < j) fun i j => .int (i % j)) wMod := so_int (z := fun i j => .int (i % j)) (fun d e q hw => by
  unfold wMod at hw
  split at hw
  · exact ⟨_, _, rfl, rfl, hw⟩
  · exact hw.elim) fun _ _ _ => R.int_
theorem so_fdiv : SndO K (rI CDiv fun i j => .int (i / j)) wFdiv := so_int (z := fun i j => .int (i / j)) (fun d e q hw => by
  unfold wFdiv at hw
  split at hw
  · exact ⟨_, _, rfl, rfl, hw⟩
  · exact hw.elim) fun _ _ _ => R.int_
theorem so_pow : SndO K (rI CPow fun i j => .int (i ^ j.toNat)) wPow := so_int (z := fun i j => .int (i ^ j.toNat)) (fun d e q hw => by
  unfold wPow at hw
  split at hw
  · exact ⟨_, _, rfl, rfl, hw⟩
  · exact hw.elim) fun _ _ _ => R.int_
theorem so_cmp {wo : WO} {p : Int → Int → Prop} [∀ i j, Decidable (p i j)] (h : ∀ d e q, wo d e q → ∃ i j, d = .int i ∧ e = .int j ∧ (p i j → q (.bl true)) ∧ (¬ p i j → q (.bl false))) : SndO K (rI0 fun i j => .bl (decide (p i j))) wo := fun c G H env σ x y d e Q q f hx hy hw k => by
  obtain ⟨i, j, rfl, rfl, h1, h2⟩ := h d e q hw
  refine ⟨i, j, hx.int, hy.int, ?_⟩
  by_cases hp : p i j
  · show Q (V.bl (decide (p i j))) H
    rw [decide_eq_true hp]; exact k _ _ G H f (Gr.refl f) R.bl_ (h1 hp)
  · show Q (V.bl (decide (p i j))) H
    rw [decide_eq_false hp]; exact k _ _ G H f (Gr.refl f) R.bl_ (h2 hp)
theorem so_lt : SndO K (rI0 fun i j => .bl (decide (i < j))) wLt := so_cmp fun d e q hw => by
  unfold wLt at hw
  split at hw
  · exact ⟨_, _, rfl, rfl, hw⟩
  · exact hw.elim
theorem so_le : SndO K (rI0 fun i j => .bl (decide (i ≤ j))) wLe := so_cmp fun d e q hw => by
  unfold wLe at hw
  split at hw
  · exact ⟨_, _, rfl, rfl, hw⟩
  · exact hw.elim
theorem so_gt : SndO K (rI0 fun i j => .bl (decide (j < i))) wGt := so_cmp (p := fun i j => j < i) fun d e q hw => by
  unfold wGt at hw
  split at hw
  · exact ⟨_, _, rfl, rfl, hw⟩
  · exact hw.elim
theorem so_ge : SndO K (rI0 fun i j => .bl (decide (j ≤ i))) wGe := so_cmp (p := fun i j => j ≤ i) fun d e q hw => by
  unfold wGe at hw
  split at hw
  · exact ⟨_, _, rfl, rfl, hw⟩
  · exact hw.elim
theorem so_isN : SndO K (fun x y H Q => y = .non ∧ Q (.bl (decide (x = .non))) H) wIsN := fun c G H env σ x y d e Q q f hx hy hw k => by
  unfold wIsN at hw
  split at hw
  · refine ⟨hy, ?_⟩
    by_cases h : x = .non
    · rw [decide_eq_true h]; exact k _ _ G H f (Gr.refl f) R.bl_ (hw.1 (hx.isN.mp h))
    · rw [decide_eq_false h]; exact k _ _ G H f (Gr.refl f) R.bl_ (hw.2 fun e => h (hx.isN.mpr e))
  · exact hw.elim
theorem so_notN : SndO K (fun x y H Q => y = .non ∧ Q (.bl (!decide (x = .non))) H) wNotN := fun c G H env σ x y d e Q q f hx hy hw k => by
  unfold wNotN at hw
  split at hw
  · refine ⟨hy, ?_⟩
    by_cases h : x = .non
    · rw [decide_eq_true h]; exact k _ _ G H f (Gr.refl f) R.bl_ (hw.1 (hx.isN.mp h))
    · rw [decide_eq_false h]; exact k _ _ G H f (Gr.refl f) R.bl_ (hw.2 fun e => h (hx.isN.mpr e))
  · exact hw.elim
end

/-! ### == of plain data without truth values -/
mutual
def D.py : D → PyData
  | .non => .none
  | .bl b => .bool b
  | .int i => .int i
  | .str s => .str s
  | .tup ds => .tuple (D.pys ds)
  | .lst ds => .list (D.pys ds)
  | .tupc _ => .none
  | .dct _ => .none
  | .ins _ _ => .none
def D.pys : List D → List PyData
  | [] => []
  | d :: ds => d.py :: D.pys ds
end
mutual
/-- no truth value, no object within, at most so deep -/
def Pu : Nat → D → Prop
  | _, .non => True
  | _, .int _ => True
  | _, .str s => PyData.canLay0 (.str s) = true
  | n + 1, .tup ds => PuL n ds
  | n + 1, .lst ds => PuL n ds
  | _, _ => False
def PuL : Nat → List D → Prop
  | _, [] => True
  | n, d :: ds => Pu n d ∧ PuL n ds
end
theorem PuL.map {α : Type} {n : Nat} {g : α → D} : ∀ {xs : List α}, (∀ x ∈ xs, Pu n (g x)) → PuL n (xs.map g)
  | [], _ => by unfold PuL; trivial
  | x :: xs, h => by
    show PuL n (g x :: xs.map g)
    unfold PuL
    exact ⟨h x List.mem_cons_self, PuL.map fun y hy => h y (List.mem_cons_of_mem _ hy)⟩
theorem PuL.append {n : Nat} : ∀ {xs ys : List D}, PuL n xs → PuL n ys → PuL n (xs ++ ys)
  | [], _, _, h => h
  | x :: xs, ys, h, g => by
    unfold PuL at h
    show PuL n (x :: (xs ++ ys))
    unfold PuL
    exact ⟨h.1, PuL.append h.2 g⟩
section
variable {K : PySem.W.Frag} {X : Cx}
mutual
theorem R.dp {H : Hp} : ∀ (n : Nat) (d : D) (v : V), Pu n d → R K H d v → Dp K H v d.py
  | _, .non, v, _, h => by rw [show v = .non from h]; exact .non
  | _, .int i, v, _, h => by rw [show v = .int i from h]; exact .int i
  | _, .str s, v, _, h => by rw [show v = .str s from h]; exact .str s
  | n + 1, .tup ds, v, p, h => by
    obtain ⟨a, vs, rfl, h1, h2⟩ := h.tupE
    exact .tup h1 (RL.dp n ds vs (by unfold Pu at p; exact p) h2)
  | n + 1, .lst ds, v, p, h => by
    obtain ⟨a, vs, rfl, h1, h2⟩ := h.lstE
    exact .lst (SqL.of h1) (RL.dp n ds vs (by unfold Pu at p; exact p) h2)
  | 0, .tup _, _, p, _ => by unfold Pu at p; exact p.elim
  | 0, .lst _, _, p, _ => by unfold Pu at p; exact p.elim
  | _, .bl _, _, p, _ => by unfold Pu at p; exact p.elim
  | _, .dct _, _, p, _ => by unfold Pu at p; exact p.elim
  | _, .ins _ _, _, p, _ => by unfold Pu at p; exact p.elim
theorem RL.dp {H : Hp} : ∀ (n : Nat) (ds : List D) (vs : List V), PuL n ds → RL K H ds vs → DpAll K H vs (D.pys ds)
  | _, [], vs, _, h => by rw [RL.nilE h]; exact .nil
  | n, d :: ds, vs, p, h => by
    obtain ⟨v, r, rfl, h1, h2⟩ := h.consE
    unfold PuL at p
    exact .cons (R.dp n d v p.1 h1) (RL.dp n ds r p.2 h2)
end
mutual
theorem Pu.lay : ∀ (n : Nat) (d : D), Pu n d → PyData.canLay0 d.py = true ∧ PyData.depth d.py ≤ n
  | _, .non, _ => ⟨rfl, Nat.zero_le _⟩
  | _, .int _, _ => ⟨rfl, Nat.zero_le _⟩
  | _, .str s, p => ⟨by unfold Pu at p; exact p, Nat.zero_le _⟩
  | n + 1, .tup ds, p => by
    obtain ⟨h1, h2⟩ := PuL.lay n ds (by unfold Pu at p; exact p)
    exact ⟨h1, Nat.succ_le_succ h2⟩
  | n + 1, .lst ds, p => by
    obtain ⟨h1, h2⟩ := PuL.lay n ds (by unfold Pu at p; exact p)
    exact ⟨h1, Nat.succ_le_succ h2⟩
  | 0, .tup _, p => by unfold Pu at p; exact p.elim
  | 0, .lst _, p => by unfold Pu at p; exact p.elim
  | _, .bl _, p => by unfold Pu at p; exact p.elim
  | _, .dct _, p => by unfold Pu at p; exact p.elim
  | _, .ins _ _, p => by unfold Pu at p; exact p.elim
theorem PuL.lay : ∀ (n : Nat) (ds : List D), PuL n ds → PyData.canLayAll0 (D.pys ds) = true ∧ PyData.depthAll (D.pys ds) ≤ n
  | n, [], _ => ⟨rfl, Nat.zero_le _⟩
  | n, d :: ds, p => by
    unfold PuL at p
    obtain ⟨h1, h2⟩ := Pu.lay n d p.1
    obtain ⟨h3, h4⟩ := PuL.lay n ds p.2
    refine ⟨?_, Nat.max_le.mpr ⟨h2, h4⟩⟩
    show (PyData.canLay0 d.py && PyData.canLayAll0 (D.pys ds)) = true
    rw [h1, h3]; rfl
end
theorem Pu.shaped {d : D} (h : Pu 32 d) : SeqAt.shaped d.py = true := by
  obtain ⟨h1, h2⟩ := Pu.lay 32 d h
  unfold SeqAt.shaped
  rw [Bool.and_eq_true]
  exact ⟨h1, decide_eq_true (Nat.le_trans h2 (by decide))⟩
mutual
theorem Pu.eqv : ∀ (n m : Nat) (d e : D), Pu n d → Pu m e → (PyData.eqv d.py e.py = true ↔ d = e)
  | _, _, .non, .non, _, _ => by simp [D.py, PyData.eqv]
  | _, _, .non, .int _, _, _ => by simp [D.py, PyData.eqv]
  | _, _, .non, .str _, _, _ => by simp [D.py, PyData.eqv]
  | _, _, .non, .tup _, _, _ => by simp [D.py, PyData.eqv]
  | _, _, .non, .lst _, _, _ => by simp [D.py, PyData.eqv]
  | _, _, .int _, .non, _, _ => by simp [D.py, PyData.eqv]
  | _, _, .int _, .int _, _, _ => by simp [D.py, PyData.eqv]
  | _, _, .int _, .str _, _, _ => by simp [D.py, PyData.eqv]
  | _, _, .int _, .tup _, _, _ => by simp [D.py, PyData.eqv]
  | _, _, .int _, .lst _, _, _ => by simp [D.py, PyData.eqv]
  | _, _, .str _, .non, _, _ => by simp [D.py, PyData.eqv]
  | _, _, .str _, .int _, _, _ => by simp [D.py, PyData.eqv]
  | _, _, .str _, .str _, _, _ => by simp [D.py, PyData.eqv]
  | _, _, .str _, .tup _, _, _ => by simp [D.py, PyData.eqv]
  | _, _, .str _, .lst _, _, _ => by simp [D.py, PyData.eqv]
  | _, _, .tup _, .non, _, _ => by simp [D.py, PyData.eqv]
  | _, _, .tup _, .int _, _, _ => by simp [D.py, PyData.eqv]
  | _, _, .tup _, .str _, _, _ => by simp [D.py, PyData.eqv]
  | n + 1, m + 1, .tup ds, .tup es, p, p' => by
    unfold Pu at p p'
    have h := PuL.eqv n m ds es p p'
    show PyData.eqvAll (D.pys ds) (D.pys es) = true ↔ _
    rw [h]; simp
  | _, _, .tup _, .lst _, _, _ => by simp [D.py, PyData.eqv]
  | _, _, .lst _, .non, _, _ => by simp [D.py, PyData.eqv]
  | _, _, .lst _, .int _, _, _ => by simp [D.py, PyData.eqv]
  | _, _, .lst _, .str _, _, _ => by simp [D.py, PyData.eqv]
  | _, _, .lst _, .tup _, _, _ => by simp [D.py, PyData.eqv]
  | n + 1, m + 1, .lst ds, .lst es, p, p' => by
    unfold Pu at p p'
    have h := PuL.eqv n m ds es p p'
    show PyData.eqvAll (D.pys ds) (D.pys es) = true ↔ _
    rw [h]; simp
  | 0, _, .tup _, _, p, _ => by unfold Pu at p; exact p.elim
  | 0, _, .lst _, _, p, _ => by unfold Pu at p; exact p.elim
  | _, 0, _, .tup _, _, p => by unfold Pu at p; exact p.elim
  | _, 0, _, .lst _, _, p => by unfold Pu at p; exact p.elim
  | _, _, .bl _, _, p, _ => by unfold Pu at p; exact p.elim
  | _, _, .dct _, _, p, _ => by unfold Pu at p; exact p.elim
  | _, _, .ins _ _, _, p, _ => by unfold Pu at p; exact p.elim
  | _, _, _, .bl _, _, p => by unfold Pu at p; exact p.elim
  | _, _, _, .dct _, _, p => by unfold Pu at p; exact p.elim
  | _, _, _, .ins _ _, _, p => by unfold Pu at p; exact p.elim
theorem PuL.eqv : ∀ (n m : Nat) (ds es : List D), PuL n ds → PuL m es → (PyData.eqvAll (D.pys ds) (D.pys es) = true ↔ ds = es)
  | _, _, [], [], _, _ => by simp [D.pys, PyData.eqvAll]
  | _, _, [], _ :: _, _, _ => by simp [D.pys, PyData.eqvAll]
  | _, _, _ :: _, [], _, _ => by simp [D.pys, PyData.eqvAll]
  | n, m, d :: ds, e :: es, p, p' => by
    unfold PuL at p p'
    have h1 := Pu.eqv n m d e p.1 p'.1
    have h2 := PuL.eqv n m ds es p.2 p'.2
    show (PyData.eqv d.py e.py && PyData.eqvAll (D.pys ds) (D.pys es)) = true ↔ _
    rw [Bool.and_eq_true, h1, h2]; simp
end
def wEq : WO := fun d e q => (Pu 32 d ∧ Pu 32 e) ∧ (d = e → q (.bl true)) ∧ (d ≠ e → q (.bl false))
def wNe : WO := fun d e q => (Pu 32 d ∧ Pu 32 e) ∧ (d ≠ e → q (.bl true)) ∧ (d = e → q (.bl false))
theorem Pu.noDct {n : Nat} {d : D} (p : Pu n d) : noDct d := by cases d <;> first | trivial | (unfold Pu at p; exact p.elim)
theorem RH.dp {G H : Hp} {n : Nat} {d : D} {v : V} (s : Same G H) (p : Pu n d) (h : RH K G H d v) : Dp K H v d.py := R.dp n d v p (h.r s p.noDct)
theorem so_eq : SndO K (rEqD K) wEq := fun c G H env σ x y d e Q q f hx hy hw k => by
  obtain ⟨⟨p1, p2⟩, h1, h2⟩ := hw
  refine ⟨d.py, e.py, hx.dp f.gh p1, hy.dp f.gh p2, p1.shaped, p2.shaped, ?_⟩
  have iff := Pu.eqv 32 32 d e p1 p2
  by_cases h : d = e
  · rw [iff.mpr h]; exact k _ _ G H f (Gr.refl f) R.bl_ (h1 h)
  · rw [show PyData.eqv d.py e.py = false from Bool.eq_false_iff.mpr fun z => h (iff.mp z)]; exact k _ _ G H f (Gr.refl f) R.bl_ (h2 h)
theorem so_ne : SndO K (rNeD K) wNe := fun c G H env σ x y d e Q q f hx hy hw k => by
  obtain ⟨⟨p1, p2⟩, h1, h2⟩ := hw
  refine ⟨d.py, e.py, hx.dp f.gh p1, hy.dp f.gh p2, p1.shaped, p2.shaped, ?_⟩
  have iff := Pu.eqv 32 32 d e p1 p2
  by_cases h : d = e
  · rw [iff.mpr h]; exact k _ _ G H f (Gr.refl f) R.bl_ (h2 h)
  · rw [show PyData.eqv d.py e.py = false from Bool.eq_false_iff.mpr fun z => h (iff.mp z)]; exact k _ _ G H f (Gr.refl f) R.bl_ (h1 h)
/-! ### in, not in a list or tuple of flat things -/
def Flat : D → Prop
  | .non => True | .int _ => True | .str _ => True | _ => False
def items : D → Option (List D)
  | .lst ds => some ds | .tup ds => some ds | _ => none
def wIn : WO := fun d e q => match items e with | some ds => (Flat d ∧ ∀ x ∈ ds, Flat x) ∧ (d ∈ ds → q (.bl true)) ∧ (d ∉ ds → q (.bl false)) | none => False
def wNotIn : WO := fun d e q => match items e with | some ds => (Flat d ∧ ∀ x ∈ ds, Flat x) ∧ (d ∉ ds → q (.bl true)) ∧ (d ∈ ds → q (.bl false)) | none => False
theorem flat_V {H : Hp} {d : D} {v : V} (p : Flat d) (h : R K H d v) : flatV v = true := by
  cases d with
  | non => rw [show v = .non from h]; rfl
  | int i => rw [show v = .int i from h]; rfl
  | str i => rw [show v = .str i from h]; rfl
  | _ => exact p.elim
theorem flat_eq {H : Hp} {d e : D} {v u : V} (p : Flat d) (p' : Flat e) (h : R K H d v) (h' : R K H e u) : eqV v u = true ↔ d = e := by
  cases d with
  | non => rw [show v = .non from h]; cases e with
    | non => rw [show u = .non from h']; simp [eqV]
    | int i => rw [show u = .int i from h']; simp [eqV]
    | str i => rw [show u = .str i from h']; simp [eqV]
    | _ => exact p'.elim
  | int i => rw [show v = .int i from h]; cases e with
    | non => rw [show u = .non from h']; simp [eqV]
    | int i => rw [show u = .int i from h']; simp [eqV]
    | str i => rw [show u = .str i from h']; simp [eqV]
    | _ => exact p'.elim
  | str i => rw [show v = .str i from h]; cases e with
    | non => rw [show u = .non from h']; simp [eqV]
    | int i => rw [show u = .int i from h']; simp [eqV]
    | str i => rw [show u = .str i from h']; simp [eqV]
    | _ => exact p'.elim
  | _ => exact p.elim
theorem flat_all {H : Hp} : ∀ {ds : List D} {vs : List V}, (∀ x ∈ ds, Flat x) → RL K H ds vs → vs.all flatV = true
  | [], _, _, h => by rw [RL.nilE h]; rfl
  | d :: ds, _, p, h => by
    obtain ⟨v, r, rfl, h1, h2⟩ := h.consE
    rw [List.all_cons, flat_V (p d List.mem_cons_self) h1, flat_all (fun x hx => p x (List.mem_cons_of_mem _ hx)) h2]; rfl
theorem flat_in {H : Hp} {d : D} {v : V} (p : Flat d) (h : R K H d v) : ∀ {ds : List D} {vs : List V}, (∀ x ∈ ds, Flat x) → RL K H ds vs → (inV v vs = true ↔ d ∈ ds)
  | [], _, _, g => by rw [RL.nilE g]; simp [inV]
  | e :: ds, _, p', g => by
    obtain ⟨u, r, rfl, h1, h2⟩ := g.consE
    have ih := flat_in p h (fun x hx => p' x (List.mem_cons_of_mem _ hx)) h2
    have e1 := flat_eq (p' e List.mem_cons_self) p h1 h
    show (eqV u v || inV v r) = true ↔ _
    rw [Bool.or_eq_true, e1, ih, List.mem_cons]
    exact ⟨fun z => z.imp Eq.symm id, fun z => z.imp Eq.symm id⟩
theorem RH.seq {G H : Hp} (s : Same G H) {d : D} {v : V} {ds : List D} (h : RH K G H d v) (e : items d = some ds) : ∃ a vs, v = .ref a ∧ (SqL K H a vs ∨ SqT K H a vs) ∧ RL K G ds vs := by
  cases d with
  | lst es => cases e; obtain ⟨a, vs, e1, h1, h2⟩ := h.lst; exact ⟨a, vs, e1, .inl (SqL.of h1), h2⟩
  | tup es => cases e; obtain ⟨a, vs, e1, h1, h2⟩ := h.tup; exact ⟨a, vs, e1, .inr (sqt_same s h1), h2⟩
  | _ => cases e
theorem so_in : SndO K (rIn K false) wIn := fun c G H env σ x y d e Q q f hx hy hw k => by
  unfold wIn at hw
  split at hw
  · rename_i ds he
    obtain ⟨⟨p1, p2⟩, h1, h2⟩ := hw
    obtain ⟨a, vs, rfl, hs, r⟩ := hy.seq f.gh he
    have r' := RL.mono f.gh _ _ r
    have hx' := hx.r f.gh (by cases d <;> first | trivial | exact p1.elim)
    have iff := flat_in p1 hx' p2 r'
    refine ⟨a, vs, rfl, hs, flat_V p1 hx', flat_all p2 r', ?_⟩
    show Q (.bl (if false = true then !inV x vs else inV x vs)) H
    rw [if_neg Bool.false_ne_true]
    by_cases h : d ∈ ds
    · rw [iff.mpr h]; exact k _ _ G H f (Gr.refl f) R.bl_ (h1 h)
    · rw [show inV x vs = false from Bool.eq_false_iff.mpr fun z => h (iff.mp z)]; exact k _ _ G H f (Gr.refl f) R.bl_ (h2 h)
  · exact hw.elim
theorem so_notIn : SndO K (rIn K true) wNotIn := fun c G H env σ x y d e Q q f hx hy hw k => by
  unfold wNotIn at hw
  split at hw
  · rename_i ds he
    obtain ⟨⟨p1, p2⟩, h1, h2⟩ := hw
    obtain ⟨a, vs, rfl, hs, r⟩ := hy.seq f.gh he
    have r' := RL.mono f.gh _ _ r
    have hx' := hx.r f.gh (by cases d <;> first | trivial | exact p1.elim)
    have iff := flat_in p1 hx' p2 r'
    refine ⟨a, vs, rfl, hs, flat_V p1 hx', flat_all p2 r', ?_⟩
    show Q (.bl (if true = true then !inV x vs else inV x vs)) H
    rw [if_pos rfl]
    by_cases h : d ∈ ds
    · rw [iff.mpr h]; exact k _ _ G H f (Gr.refl f) R.bl_ (h2 h)
    · rw [show inV x vs = false from Bool.eq_false_iff.mpr fun z => h (iff.mp z)]; exact k _ _ G H f (Gr.refl f) R.bl_ (h1 h)
  · exact hw.elim
end
end Y

namespace Y
open PySem L2
/-! ### arguments that may be lists of ours -/
def RBL (K : PySem.W.Frag) (c : Ctx) (G : Hp) (env : List Sl) (σ : L2.St) : List D → List V → Prop
  | [], vs => vs = []
  | d :: ds, vs => ∃ v r, vs = v :: r ∧ RB K c G env σ d v ∧ RBL K c G env σ ds r
def SndAB (K : PySem.W.Frag) (t : TA) (w : WA) : Prop := ∀ (c : Ctx) (G H : Hp) (env : List Sl) (σ : L2.St) (Q : List V → Hp → Prop) (q : List D → Prop), Fr K c G H env σ → w env q →
  (∀ vs ds G' H', Fr K c G' H' env σ → Gr K c.da G H G' H' → RBL K c G' env σ ds vs → q ds → Q vs H') → t σ H Q
structure DAB (X : Cx) (es : List Expr) (t : TA) (w : WA) : Prop where
  pa : PA X es t
  snd : SndAB X.K t w
section
variable {X : Cx} {K : PySem.W.Frag} {e a b cnd : Expr} {es : List Expr} {t ta tb tc : TE} {w wa wb wc : WE} {tA : TA} {wA : WA} {tt tt' : TT} {wt wt' : WT} {pos : Pos}
theorem dab_nil : DAB X [] tNil wNil := ⟨pa_nil, fun _ G H _ _ _ _ f hw k => k [] [] G H f (Gr.refl f) rfl hw⟩
theorem dab_cons (ha : DB X e t w) (hr : DAB X es tA wA) (hs : starEach (e :: es) X.env = (false, eval e X.env) :: starEach es X.env := by rfl) : DAB X (e :: es) (tCons t tA) (wCons w wA) := ⟨pa_cons ha.pe hr.pa hs, fun c G H env σ Q q f hw k =>
  ha.snd c G H env σ _ _ f hw fun v d G1 H1 f1 s1 r1 hw1 => hr.snd c G1 H1 env σ _ _ f1 hw1 fun vs ds G2 H2 f2 s2 r2 hq => k (v :: vs) (d :: ds) G2 H2 f2 (s1.trans s2) ⟨v, vs, rfl, r1.mono s2.gg, r2⟩ hq⟩
/-- a built-in by data -/
abbrev WC := List D → (D → Prop) → Prop
def RHL (K : PySem.W.Frag) (G H : Hp) : List D → List V → Prop
  | [], vs => vs = []
  | d :: ds, vs => ∃ v r, vs = v :: r ∧ RH K G H d v ∧ RHL K G H ds r
theorem RBL.h {c : Ctx} {G G' H' : Hp} {env : List Sl} {σ : L2.St} (f : Fr K c G' H' env σ) (s : Same G G') : ∀ {ds : List D} {vs : List V}, RBL K c G env σ ds vs → RHL K G' H' ds vs
  | [], _, h => h
  | d :: ds, _, ⟨v, r, e, h1, h2⟩ => ⟨v, r, e, h1 G' H' f s, RBL.h f s h2⟩
def SndC (K : PySem.W.Frag) (r : List V → Hp → VK → Prop) (wc : WC) : Prop := ∀ (c : Ctx) (G H : Hp) (env : List Sl) (σ : L2.St) (xs : List V) (ds : List D) (Q : VK) (q : D → Prop), Fr K c G H env σ → RHL K G H ds xs → wc ds q →
  (∀ v z G' H', Fr K c G' H' env σ → Gr K c.da G H G' H' → R K G' z v → q z → Q v H') → r xs H Q
def wCB (wc : WC) (wA : WA) : WE := fun env q => wA env fun ds => wc ds q
theorem snd_cb {r : List V → Hp → VK → Prop} {wc : WC} (ha : SndAB K tA wA) (hc : SndC K r wc) : Snd K (tCB r tA) (wCB wc wA) := fun c G H env σ Q q f hw k =>
  ha c G H env σ _ _ f hw fun vs ds G1 H1 f1 s1 r1 hq => hc c G1 H1 env σ vs ds Q q f1 (RBL.h f1 (Same.refl _) r1) hq fun v z G2 H2 f2 s2 r2 hq2 => k v z G2 H2 f2 (s1.trans s2) r2 hq2
theorem de_cb {id : String} {x : Str} {p : Pos} {r : List V → Hp → VK → Prop} {wc : WC} (hc : CallR X (.builtin id) r) (sc : SndC X.K r wc) (hg : Gl X x) (hm : X.mg x = none) (hv : bootBuiltins x = some (.builtin id)) (ha : DAB X (e :: es) tA wA) (hn : x ≠ "__name__" := by decide) (hdb : (x == ("__debug__" : Str)) = false := by decide)
    (he : starEach (e :: es) X.env = (false, eval e X.env) :: starEach es X.env := by rfl) (hpl : (backTo pos (starEach es X.env)).any (·.1) = false := by rfl) : DE X (.Call (.Name x p) (e :: es) [] pos) (tCB r tA) (wCB wc wA) := ⟨pe_callB hc hg hm hv ha.pa hn hdb he hpl, snd_cb ha.snd sc⟩
theorem de_ty {id : String} {x : Str} {p : Pos} {r : List V → Hp → VK → Prop} {wc : WC} (hc : CallR X (.type id) r) (sc : SndC X.K r wc) (hg : Gl X x) (hm : X.mg x = none) (hv : bootBuiltins x = some (.type id)) (ha : DAB X (e :: es) tA wA) (hn : x ≠ "__name__" := by decide) (hdb : (x == ("__debug__" : Str)) = false := by decide)
    (he : starEach (e :: es) X.env = (false, eval e X.env) :: starEach es X.env := by rfl) (hpl : (backTo pos (starEach es X.env)).any (·.1) = false := by rfl) : DE X (.Call (.Name x p) (e :: es) [] pos) (tCB r tA) (wCB wc wA) := ⟨pe_callTy hc hg hm hv ha.pa hn hdb he hpl, snd_cb ha.snd sc⟩
theorem RHL.one {G H : Hp} {d : D} {xs : List V} (h : RHL K G H [d] xs) : ∃ v, xs = [v] ∧ RH K G H d v := by
  obtain ⟨v, r, rfl, h1, h2⟩ := h
  rw [show r = [] from h2]
  exact ⟨v, rfl, h1⟩
theorem RHL.two {G H : Hp} {d e : D} {xs : List V} (h : RHL K G H [d, e] xs) : ∃ v u, xs = [v, u] ∧ RH K G H d v ∧ RH K G H e u := by
  obtain ⟨v, r, rfl, h1, h2⟩ := h
  obtain ⟨u, rfl, h3⟩ := RHL.one h2
  exact ⟨v, u, rfl, h1, h3⟩
def wLen : WC := fun ds q => match ds with | [.lst xs] => q (.int xs.length) | [.tup xs] => q (.int xs.length) | [.str s] => s.length ≤ sizeLine ∧ q (.int s.length) | _ => False
theorem sc_len : SndC K (fun xs H Q => ∃ x n, xs = [x] ∧ LenV K x H n ∧ Q (.int n) H) wLen := fun c G H env σ xs ds Q q f hx hw k => by
  unfold wLen at hw
  split at hw
  · obtain ⟨v, rfl, h⟩ := hx.one
    obtain ⟨a, vs, rfl, h1, h2⟩ := h.lst
    exact ⟨_, vs.length, rfl, .inl ⟨vs, SqL.of h1, rfl⟩, k _ _ G H f (Gr.refl f) (by rw [h2.length]; exact R.int_) hw⟩
  · obtain ⟨v, rfl, h⟩ := hx.one
    obtain ⟨a, vs, rfl, h1, h2⟩ := h.tup
    exact ⟨_, vs.length, rfl, .inr ⟨vs, sqt_same f.gh h1, rfl⟩, k _ _ G H f (Gr.refl f) (by rw [h2.length]; exact R.int_) hw⟩
  · obtain ⟨v, rfl, h⟩ := hx.one
    rw [h.str]
    exact ⟨_, _, rfl, ⟨hw.1, rfl⟩, k _ _ G H f (Gr.refl f) R.int_ hw.2⟩
  · exact hw.elim
def wTuple : WC := fun ds q => match ds with | [.lst xs] => q (.tup xs) | [.tup xs] => q (.tup xs) | _ => False
theorem sc_tuple : SndC K (fun xs H Q => ∃ p ys, xs = [.ref p] ∧ ((SqL K H p ys ∧ ∀ l, H l = none → Q (.ref l) (upd H l (.tup ys))) ∨ (SqT K H p ys ∧ Q (.ref p) H))) wTuple := fun c G H env σ xs ds Q q f hx hw k => by
  unfold wTuple at hw
  split at hw
  · obtain ⟨v, rfl, h⟩ := hx.one
    obtain ⟨a, vs, rfl, h1, h2⟩ := h.lst
    refine ⟨a, vs, rfl, .inl ⟨SqL.of h1, fun p hp => ?_⟩⟩
    have g := f.newG (o := .tup vs) hp
    exact k _ _ _ _ (f.step g) g (.tup (SqT.of upd_same) (RL.mono g.gg _ _ h2)) hw
  · obtain ⟨v, rfl, h⟩ := hx.one
    obtain ⟨a, vs, rfl, h1, h2⟩ := h.tup
    exact ⟨a, vs, rfl, .inr ⟨sqt_same f.gh h1, k _ _ G H f (Gr.refl f) (.tup h1 h2) hw⟩⟩
  · exact hw.elim
def wInt : WC := fun ds q => match ds with | [.int i] => q (.int i) | [.bl b] => q (.int (if b then 1 else 0)) | _ => False
theorem sc_int : SndC K (fun xs H Q => (∃ i, xs = [.int i] ∧ Q (.int i) H) ∨ ∃ k, xs = [.bl k] ∧ Q (.int (if k then 1 else 0)) H) wInt := fun c G H env σ xs ds Q q f hx hw k => by
  unfold wInt at hw
  split at hw
  · obtain ⟨v, rfl, h⟩ := hx.one
    rw [h.int]
    exact .inl ⟨_, rfl, k _ _ G H f (Gr.refl f) R.int_ hw⟩
  · obtain ⟨v, rfl, h⟩ := hx.one
    rw [h.bl]
    exact .inr ⟨_, rfl, k _ _ G H f (Gr.refl f) R.int_ hw⟩
  · exact hw.elim
def wMax2 : WC := fun ds q => match ds with | [.int i, .int j] => q (.int (max i j)) | _ => False
def wMin2 : WC := fun ds q => match ds with | [.int i, .int j] => q (.int (min i j)) | _ => False
theorem max_eq (i j : Int) : (if j > i then j else i) = max i j := by
  rw [Int.max_def]; split <;> split <;> omega
theorem min_eq (i j : Int) : (if j < i then j else i) = min i j := by
  rw [Int.min_def]; split <;> split <;> omega
theorem sc_max2 : SndC K (fun xs H Q => ∃ i j, xs = [.int i, .int j] ∧ Q (.int (if j > i then j else i)) H) wMax2 := fun c G H env σ xs ds Q q f hx hw k => by
  unfold wMax2 at hw
  split at hw
  · obtain ⟨v, u, rfl, h, h'⟩ := hx.two
    rw [h.int, h'.int]
    exact ⟨_, _, rfl, by rw [max_eq]; exact k _ _ G H f (Gr.refl f) R.int_ hw⟩
  · exact hw.elim
theorem sc_min2 : SndC K (fun xs H Q => ∃ i j, xs = [.int i, .int j] ∧ Q (.int (if j < i then j else i)) H) wMin2 := fun c G H env σ xs ds Q q f hx hw k => by
  unfold wMin2 at hw
  split at hw
  · obtain ⟨v, u, rfl, h, h'⟩ := hx.two
    rw [h.int, h'.int]
    exact ⟨_, _, rfl, by rw [min_eq]; exact k _ _ G H f (Gr.refl f) R.int_ hw⟩
  · exact hw.elim
/-- lists of ints, of truth values -/
def intsOf : List D → Option (List Int)
  | [] => some []
  | .int i :: ds => (intsOf ds).map (i :: ·)
  | _ => none
def bllsOf : List D → Option (List Bool)
  | [] => some []
  | .bl i :: ds => (bllsOf ds).map (i :: ·)
  | _ => none
theorem intsOf_map (ns : List Int) : intsOf (ns.map D.int) = some ns := by
  induction ns with
  | nil => rfl
  | cons n r ih => show (intsOf (r.map D.int)).map (n :: ·) = _; rw [ih]; rfl
theorem bllsOf_map (ns : List Bool) : bllsOf (ns.map D.bl) = some ns := by
  induction ns with
  | nil => rfl
  | cons n r ih => show (bllsOf (r.map D.bl)).map (n :: ·) = _; rw [ih]; rfl
theorem intsOf_rl {H : Hp} : ∀ {ds : List D} {ns : List Int} {vs : List V}, intsOf ds = some ns → RL K H ds vs → vs = ns.map V.int
  | [], _, _, e, h => by cases e; exact RL.nilE h
  | .int i :: ds, ns, vs, e, h => by
    obtain ⟨v, r, rfl, h1, h2⟩ := h.consE
    unfold intsOf at e
    cases q : intsOf ds with
    | none => rw [q] at e; cases e
    | some ms =>
      rw [q] at e; cases e
      rw [show v = .int i from h1, intsOf_rl q h2]; rfl
  | .non :: _, _, _, e, _ => by cases e
  | .bl _ :: _, _, _, e, _ => by cases e
  | .str _ :: _, _, _, e, _ => by cases e
  | .tup _ :: _, _, _, e, _ => by cases e
  | .lst _ :: _, _, _, e, _ => by cases e
  | .dct _ :: _, _, _, e, _ => by cases e
  | .ins _ _ :: _, _, _, e, _ => by cases e
theorem bllsOf_rl {H : Hp} : ∀ {ds : List D} {ns : List Bool} {vs : List V}, bllsOf ds = some ns → RL K H ds vs → vs = ns.map V.bl
  | [], _, _, e, h => by cases e; exact RL.nilE h
  | .bl i :: ds, ns, vs, e, h => by
    obtain ⟨v, r, rfl, h1, h2⟩ := h.consE
    unfold bllsOf at e
    cases q : bllsOf ds with
    | none => rw [q] at e; cases e
    | some ms =>
      rw [q] at e; cases e
      rw [show v = .bl i from h1, bllsOf_rl q h2]; rfl
  | .non :: _, _, _, e, _ => by cases e
  | .int _ :: _, _, _, e, _ => by cases e
  | .str _ :: _, _, _, e, _ => by cases e
  | .tup _ :: _, _, _, e, _ => by cases e
  | .lst _ :: _, _, _, e, _ => by cases e
  | .dct _ :: _, _, _, e, _ => by cases e
  | .ins _ _ :: _, _, _, e, _ => by cases e
def wSum : WC := fun ds q => match ds with | [.lst xs] => (match intsOf xs with | some ns => q (.int ns.sum) | none => False) | _ => False
def wMin1 : WC := fun ds q => match ds with | [.lst xs] => (match intsOf xs with | some ns => 0 < ns.length ∧ ∀ m, m ∈ ns → (∀ y, y ∈ ns → m ≤ y) → q (.int m) | none => False) | _ => False
def wMax1 : WC := fun ds q => match ds with | [.lst xs] => (match intsOf xs with | some ns => 0 < ns.length ∧ ∀ m, m ∈ ns → (∀ y, y ∈ ns → y ≤ m) → q (.int m) | none => False) | _ => False
def wAny : WC := fun ds q => match ds with | [.lst xs] => (match bllsOf xs with | some bs => q (.bl (bs.any id)) | none => False) | _ => False
def wAll : WC := fun ds q => match ds with | [.lst xs] => (match bllsOf xs with | some bs => q (.bl (bs.all id)) | none => False) | _ => False
theorem sc_sum : SndC K (rSum K) wSum := fun c G H env σ xs ds Q q f hx hw k => by
  unfold wSum at hw
  split at hw
  · split at hw
    · rename_i e
      obtain ⟨v, rfl, h⟩ := hx.one
      obtain ⟨a, vs, rfl, h1, h2⟩ := h.lst
      rw [intsOf_rl e h2] at h1
      exact ⟨a, _, rfl, SqL.of h1, k _ _ G H f (Gr.refl f) R.int_ hw⟩
    · exact hw.elim
  · exact hw.elim
theorem sc_min1 : SndC K (rMin K) wMin1 := fun c G H env σ xs ds Q q f hx hw k => by
  unfold wMin1 at hw
  split at hw
  · split at hw
    · rename_i e
      obtain ⟨v, rfl, h⟩ := hx.one
      obtain ⟨a, vs, rfl, h1, h2⟩ := h.lst
      rw [intsOf_rl e h2] at h1
      exact ⟨a, _, rfl, SqL.of h1, hw.1, fun m hm hy => k _ _ G H f (Gr.refl f) R.int_ (hw.2 m hm hy)⟩
    · exact hw.elim
  · exact hw.elim
theorem sc_max1 : SndC K (rMax K) wMax1 := fun c G H env σ xs ds Q q f hx hw k => by
  unfold wMax1 at hw
  split at hw
  · split at hw
    · rename_i e
      obtain ⟨v, rfl, h⟩ := hx.one
      obtain ⟨a, vs, rfl, h1, h2⟩ := h.lst
      rw [intsOf_rl e h2] at h1
      exact ⟨a, _, rfl, SqL.of h1, hw.1, fun m hm hy => k _ _ G H f (Gr.refl f) R.int_ (hw.2 m hm hy)⟩
    · exact hw.elim
  · exact hw.elim
theorem sc_any : SndC K (rAny K) wAny := fun c G H env σ xs ds Q q f hx hw k => by
  unfold wAny at hw
  split at hw
  · split at hw
    · rename_i e
      obtain ⟨v, rfl, h⟩ := hx.one
      obtain ⟨a, vs, rfl, h1, h2⟩ := h.lst
      rw [bllsOf_rl e h2] at h1
      exact ⟨a, _, rfl, SqL.of h1, k _ _ G H f (Gr.refl f) R.bl_ hw⟩
    · exact hw.elim
  · exact hw.elim
theorem sc_all : SndC K (rAll K) wAll := fun c G H env σ xs ds Q q f hx hw k => by
  unfold wAll at hw
  split at hw
  · split at hw
    · rename_i e
      obtain ⟨v, rfl, h⟩ := hx.one
      obtain ⟨a, vs, rfl, h1, h2⟩ := h.lst
      rw [bllsOf_rl e h2] at h1
      exact ⟨a, _, rfl, SqL.of h1, k _ _ G H f (Gr.refl f) R.bl_ hw⟩
    · exact hw.elim
  · exact hw.elim
/-- list(x): a new list of ours -/
def wListN (wA : WA) : WA := fun env q => wA env fun ds => match ds with | [.lst xs] => q xs | [.tup xs] => q xs | _ => False
theorem dn_list {x : Str} {p : Pos} (hg : Gl X x) (hm : X.mg x = none) (hv : bootBuiltins x = some (.type "list")) (ha : DAB X (e :: es) tA wA) (hn : x ≠ "__name__" := by decide) (hdb : (x == ("__debug__" : Str)) = false := by decide)
    (he : starEach (e :: es) X.env = (false, eval e X.env) :: starEach es X.env := by rfl) (hpl : (backTo pos (starEach es X.env)).any (·.1) = false := by rfl) : DN X (.Call (.Name x p) (e :: es) [] pos) (tCB (fun xs H Q => ∃ p ys, xs = [.ref p] ∧ (SqL X.K H p ys ∨ SqT X.K H p ys) ∧ ∀ l, H l = none → Q (.ref l) (upd H l (.lst ys))) tA) (wListN wA) :=
  ⟨pe_callTy call_list_of hg hm hv ha.pa hn hdb he hpl, fun c G H env σ Q q f hw k => ha.snd c G H env σ _ _ f hw fun vs ds G1 H1 f1 s1 r1 hq => by
    have fin : ∀ (ys : List D) (us : List V) (l : Addr), RL X.K G1 ys us → q ys → H1 l = none → Q (.ref l) (upd H1 l (.lst us)) := fun ys us l r hq hl =>
      k l us ys G1 _ (f1.step (f1.newH hl)) (s1.trans (f1.newH hl)) upd_same r (f1.gnone hl) (f1.h0none hl) (s1.fresh hl) (f1.noOwn hl) hq
    have r2 := RBL.h f1 (Same.refl _) r1
    split at hq
    · obtain ⟨v, rfl, h⟩ := r2.one
      obtain ⟨a, us, rfl, h1, h2⟩ := h.lst
      exact ⟨a, us, rfl, .inl (SqL.of h1), fun l hl => fin _ _ _ h2 hq hl⟩
    · obtain ⟨v, rfl, h⟩ := r2.one
      obtain ⟨a, us, rfl, h1, h2⟩ := h.tup
      exact ⟨a, us, rfl, .inr (sqt_same f1.gh h1), fun l hl => fin _ _ _ h2 hq hl⟩
    · exact hq.elim⟩
/-- xs + ys of lists: a new list of ours -/
def wCatN (wa wb : WE) : WA := fun env q => wa env fun d => wb env fun e => match d, e with | .lst xs, .lst ys => xs.length + ys.length ≤ sizeLine ∧ q (xs ++ ys) | _, _ => False
theorem dn_cat (ha : DB X a ta wa) (hb : DB X b tb wb) : DN X (.BinOp a .Add b pos) (tOp rCat ta tb) (wCatN wa wb) := ⟨pe_op op_cat ha.pe hb.pe, fun c G H env σ Q q f hw k =>
  ha.snd c G H env σ _ _ f hw fun x d G1 H1 f1 s1 r1 hw1 => hb.snd c G1 H1 env σ _ _ f1 hw1 fun y e G2 H2 f2 s2 r2 hq => by
    have h1 := r1 G2 H2 f2 s2.gg
    have h2 := r2 G2 H2 f2 (Same.refl _)
    split at hq
    · obtain ⟨l, us, rfl, e1, g1⟩ := h1.lst
      obtain ⟨b, ws, rfl, e2, g2⟩ := h2.lst
      refine ⟨l, b, us, ws, rfl, rfl, e1, e2, by rw [g1.length, g2.length]; exact hq.1, fun p hp => ?_⟩
      exact k p _ _ G2 _ (f2.step (f2.newH hp)) ((s1.trans s2).trans (f2.newH hp)) upd_same (g1.append g2) (f2.gnone hp) (f2.h0none hp) ((s1.trans s2).fresh hp) (f2.noOwn hp) hq.2
    · exact hq.elim⟩

/-! ### items, slices -/
def wIx : WO := fun d e q => match d, e with
  | .lst ds, .int i => (match atI ds i with | some x => q x | none => False)
  | .tup ds, .int i => (match atI ds i with | some x => q x | none => False)
  | .str s, .int i => s.length ≤ sizeLine ∧ (match atI s.cps.toList i with | some c => q (.str ⟨#[c]⟩) | none => False)
  | _, _ => False
theorem atI_rl {H : Hp} {ds : List D} {vs : List V} {i : Int} {d : D} (r : RL K H ds vs) (h : atI ds i = some d) : ∃ v, atI vs i = some v ∧ R K H d v := by
  unfold atI at h ⊢
  rw [r.length]
  cases e : ixN ds.length i with
  | none => rw [e] at h; cases h
  | some j =>
    rw [e] at h
    exact r.get h
theorem so_ix : SndO K (rIx K) wIx := fun c G H env σ x y d e Q q f hx hy hw k => by
  unfold wIx at hw
  split at hw
  · split at hw
    · rename_i z hz
      obtain ⟨a, vs, rfl, h1, h2⟩ := hx.lst
      obtain ⟨v, h3, h4⟩ := atI_rl h2 hz
      exact .inl ⟨a, vs, _, v, rfl, hy.int, SqL.of h1, h3, k _ _ G H f (Gr.refl f) h4 hw⟩
    · exact hw.elim
  · split at hw
    · rename_i z hz
      obtain ⟨a, vs, rfl, h1, h2⟩ := hx.tup
      obtain ⟨v, h3, h4⟩ := atI_rl h2 hz
      exact .inr (.inl ⟨a, vs, _, v, rfl, hy.int, sqt_same f.gh h1, h3, k _ _ G H f (Gr.refl f) h4 hw⟩)
    · exact hw.elim
  · obtain ⟨h0, hw⟩ := hw
    split at hw
    · rename_i z hz
      exact .inr (.inr ⟨_, _, z, hx.str, hy.int, h0, hz, k _ _ G H f (Gr.refl f) R.str_ hw⟩)
    · exact hw.elim
  · exact hw.elim
theorem de_ix (ha : DB X a ta wa) (hb : DB X b tb wb) (hs : PlainIx b) : DE X (.Subscript a b pos) (tOp (rIx X.K) ta tb) (wOp2 wIx wa wb) := ⟨pe_ix ix_seq ha.pe hb.pe hs, snd_op ha.snd hb.snd so_ix⟩
/-- a slice's parts -/
abbrev WP := List Sl → (Option Int → Prop) → Prop
structure DO (X : Cx) (e : Option Expr) (t : TO) (w : WP) : Prop where
  po : PO X e t
  snd : ∀ (c : Ctx) (G H : Hp) (env : List Sl) (σ : L2.St) (Q : Option Int → Hp → Prop) (q : Option Int → Prop), Fr X.K c G H env σ → w env q → (∀ o G' H', Fr X.K c G' H' env σ → Gr X.K c.da G H G' H' → q o → Q o H') → t σ H Q
theorem do_none : DO X none tNoPart (fun _ q => q none) := ⟨po_none, fun c G H env σ Q q f hw k => k none G H f (Gr.refl f) hw⟩
def wPart (w : WE) : WP := fun env q => w env fun d => match d with | .int i => q (some i) | _ => False
theorem do_some (h : DE X e t w) : DO X (some e) (tPart t) (wPart w) := ⟨po_some h.pe, fun c G H env σ Q q f hw k => h.snd c G H env σ _ _ f hw fun v d G' H' f' s r hq => by
  cases d with
  | int i => exact ⟨i, r, k (some i) G' H' f' s hq⟩
  | _ => exact hq.elim⟩
def cutD (ds : List D) (lo hi : Option Int) : List D := (ds.drop (HT.sIx ds.length 0 lo)).take (HT.sIx ds.length ds.length hi - HT.sIx ds.length 0 lo)
theorem cut_rl {H : Hp} {ds : List D} {vs : List V} (lo hi : Option Int) (r : RL K H ds vs) : RL K H (cutD ds lo hi) (cutV vs lo hi) := by
  unfold cutD cutV
  rw [r.length]
  exact (r.drop _).take _
/-- of a list or a tuple: frozen -/
def wSl (wa : WE) (w1 w2 : WP) : WE := fun env q => wa env fun d => w1 env fun lo => w2 env fun hi => match d with
  | .lst ds => q (.lst (cutD ds lo hi)) | .tup ds => q (.tup (cutD ds lo hi)) | .str s => s.length ≤ sizeLine ∧ q (.str (cutS s lo hi)) | _ => False
def rSlU (K : PySem.W.Frag) : V → Option Int → Option Int → Hp → VK → Prop := fun x lo hi H Q => rSlL K x lo hi H Q ∨ rSlA K x lo hi H Q ∨ rSlS x lo hi H Q
theorem sl_U : SlR X (rSlU X.K) := sl_list.or (sl_tupA.or sl_str)
end
end Y

namespace Y
open PySem L2
section
variable {X : Cx} {K : PySem.W.Frag} {e a b cnd tg iter elt : Expr} {es : List Expr} {t ta tb tc te : TE} {w wa wb wc we : WE} {tA : TA} {wA : WA} {tt tt' : TT} {wt wt' : WT} {pos : Pos}
theorem de_slice {lo hi : Option Expr} {tl th : TO} {w1 w2 : WP} {p2 : Pos} (ha : DB X a ta wa) (hl : DO X lo tl w1) (hh : DO X hi th w2) : DE X (.Subscript a (.Slice lo hi none p2) pos) (tSl (rSlU X.K) ta tl th) (wSl wa w1 w2) := ⟨pe_slice sl_U ha.pe hl.po hh.po, fun c G H env σ Q q f hw k =>
  ha.snd c G H env σ _ _ f hw fun x d G1 H1 f1 s1 r1 hw1 => hl.snd c G1 H1 env σ _ _ f1 hw1 fun lo G2 H2 f2 s2 hw2 => hh.snd c G2 H2 env σ _ _ f2 hw2 fun hi G3 H3 f3 s3 hq => by
    have h := r1 G3 H3 f3 (s2.trans s3).gg
    have st := (s1.trans s2).trans s3
    split at hq
    · obtain ⟨a, vs, rfl, h1, h2⟩ := h.lst
      refine .inl ⟨a, vs, rfl, SqL.of h1, fun p hp => ?_⟩
      have g := f3.newG (o := .lst (cutV vs lo hi)) hp
      exact k _ _ _ _ (f3.step g) (st.trans g) (.lst upd_same (RL.mono g.gg _ _ (cut_rl lo hi h2))) hq
    · obtain ⟨a, vs, rfl, h1, h2⟩ := h.tup
      refine .inr (.inl ⟨a, vs, rfl, sqt_same f3.gh h1, fun e => ?_, fun e p hp => ?_⟩)
      · have q := cut_rl lo hi h2
        have e2 : cutV vs lo hi = vs := by
          unfold cutV
          rw [e.1, e.2]
          simp
        rw [e2] at q
        exact k _ _ G3 H3 f3 st (.tup h1 q) hq
      · have g := f3.newG (o := .tup (cutV vs lo hi)) hp
        exact k _ _ _ _ (f3.step g) (st.trans g) (.tup (SqT.of upd_same) (RL.mono g.gg _ _ (cut_rl lo hi h2))) hq
    · rw [h.str]
      exact .inr (.inr ⟨_, rfl, hq.1, k _ _ G3 H3 f3 st R.str_ hq.2⟩)
    · exact hq.elim⟩

/-! ### targets -/
abbrev WG := D → List Sl → (List Sl → Prop) → Prop
abbrev WGs := List D → List Sl → (List Sl → Prop) → Prop
/-- ss: the slots that are written -/
structure DG (X : Cx) (e : Expr) (g : TG) (w : WG) (ss : List Nat) : Prop where
  pg : PG X e g
  snd : ∀ (c : Ctx) (G H : Hp) (env : List Sl) (σ : L2.St) (v : V) (d : D) (Q : L2.St → Hp → Prop) (q : List Sl → Prop), Fr X.K c G H env σ → R X.K G d v → w d env q →
    (∀ env' σ' G' H', Fr X.K c G' H' env' σ' → Gr X.K c.da G H G' H' → (∀ vs, (∀ i ∈ ss, i ∈ vs) → wipe σ' vs = wipe σ vs) → q env' → Q σ' H') → g v σ H Q
structure DGs (X : Cx) (es : List Expr) (g : TGs) (w : WGs) (ss : List Nat) : Prop where
  pg : PGs X es g
  snd : ∀ (c : Ctx) (G H : Hp) (env : List Sl) (σ : L2.St) (vs : List V) (ds : List D) (Q : L2.St → Hp → Prop) (q : List Sl → Prop), Fr X.K c G H env σ → RL X.K G ds vs → w ds env q →
    (∀ env' σ' G' H', Fr X.K c G' H' env' σ' → Gr X.K c.da G H G' H' → (∀ vs, (∀ i ∈ ss, i ∈ vs) → wipe σ' vs = wipe σ vs) → q env' → Q σ' H') → g vs σ H Q
theorem wipe_set {σ : L2.St} {i : Nat} {o : Option V} : ∀ {vs : List Nat}, i ∈ vs → wipe (σ.set i o) vs = wipe σ vs
  | [], h => by cases h
  | v :: vs, h => by
    show (wipe (σ.set i o) vs).set v none = (wipe σ vs).set v none
    by_cases hi : i ∈ vs
    · rw [wipe_set hi]
    · have e : i = v := by
        rcases List.mem_cons.mp h with z | z
        · exact z
        · exact absurd z hi
      subst e
      have aux : ∀ (us : List Nat) (σ : L2.St), i ∉ us → wipe (σ.set i o) us = (wipe σ us).set i o := by
        intro us
        induction us with
        | nil => intro σ _; rfl
        | cons u us ih =>
          intro σ hu
          show (wipe (σ.set i o) us).set u none = ((wipe σ us).set u none).set i o
          rw [ih σ (fun z => hu (List.mem_cons_of_mem _ z)), List.set_comm _ _ (fun z => hu (by rw [z]; exact List.mem_cons_self))]
      rw [aux vs σ hi, List.set_set]
theorem dg_name {i : Nat} {x : Str} (hN : X.N.Nodup) (hi : X.N[i]? = some x) (hx : Loc X.env.scope x) (hf : X.fn x = true ∨ X.env.scope.names.lookup x = some .local := by first | exact .inl rfl | exact .inr rfl | assumption) :
    DG X (.Name x pos) (gName i) (fun d env q => q (env.set i (.d d))) [i] := ⟨pg_name hN hi hx hf, fun c G H env σ v d Q q f r hw k =>
  k _ _ G H (f.setD i r) (Gr.refl f) (fun vs h => wipe_set (h i List.mem_cons_self)) hw⟩
def wgNil : WGs := fun ds env q => match ds with | [] => q env | _ => False
def wgCons (w : WG) (ws : WGs) : WGs := fun ds env q => match ds with | d :: r => w d env fun env' => ws r env' q | _ => False
theorem dgs_nil : DGs X [] gNil wgNil [] := ⟨pgs_nil, fun c G H env σ vs ds Q q f r hw k => by
  unfold wgNil at hw
  split at hw
  · exact ⟨r.nilE, k env σ G H f (Gr.refl f) (fun _ _ => rfl) hw⟩
  · exact hw.elim⟩
theorem dgs_cons {g : TG} {gs : TGs} {w : WG} {ws : WGs} {s1 s2 : List Nat} (h1 : DG X e g w s1) (h2 : DGs X es gs ws s2) (hs : (assignEach (e :: es) X.env).map (·.2) = assign e X.env :: (assignEach es X.env).map (·.2) := by rfl) :
    DGs X (e :: es) (gCons g gs) (wgCons w ws) (s1 ++ s2) := ⟨pgs_cons h1.pg h2.pg hs, fun c G H env σ vs ds Q q f r hw k => by
  unfold wgCons at hw
  split at hw
  · obtain ⟨v, us, rfl, r1, r2⟩ := r.consE
    refine ⟨v, us, rfl, h1.snd c G H env σ v _ _ _ f r1 hw fun env' σ' G' H' f' st wp hq => ?_⟩
    exact h2.snd c G' H' env' σ' us _ Q q f' (RL.mono st.gg _ _ r2) hq fun env2 σ2 G2 H2 f2 st2 wp2 hq2 => k env2 σ2 G2 H2 f2 (st.trans st2) (fun vs h => (wp2 vs fun i hi => h i (List.mem_append_right _ hi)).trans (wp vs fun i hi => h i (List.mem_append_left _ hi))) hq2
  · exact hw.elim⟩
def wgTup (n : Nat) (ws : WGs) : WG := fun d env q => match d with | .tup ds => ds.length = n ∧ ws ds env q | _ => False
theorem dg_tup {k : Nat} {gs : TGs} {ws : WGs} {ss : List Nat} {n : Nat} (hc : X.calm = true) (h : DGs X es gs ws ss) (hn : (assignEach es X.env).length = n := by rfl) (hst : (assignEach es X.env).findIdx? (·.1) = none := by rfl) :
    DG X (.Tuple es k pos) (gTup X.K n gs) (wgTup n ws) ss := ⟨pg_tup hc h.pg hn hst, fun c G H env σ v d Q q f r hw k => by
  unfold wgTup at hw
  split at hw
  · obtain ⟨a, vs, rfl, h1, h2⟩ := r.tupE
    exact ⟨a, vs, rfl, sqt_same f.gh h1, by rw [h2.length]; exact hw.1, h.snd c G H env σ vs _ Q q f h2 hw.2 k⟩
  · exact hw.elim⟩

/-! ### what is walked -/
/-- the items ds, one by one, while P holds of the heaps -/
structure Wk (K : PySem.W.Frag) (da : Option Addr) (P : Hp → Hp → Prop) (J : It) (ds : List D) : Prop where
  go : ∀ G1 H1, P G1 H1 → ∀ i d, ds[i]? = some d → J.go i H1 ∧ ∀ x H2, J.yld i H1 x H2 → ∃ G2, Gr K da G1 H1 G2 H2 ∧ R K G2 d x
  stop : ∀ G1 H1, P G1 H1 → J.stop ds.length H1
/-- any state behind; the same frame behind -/
def PAny (K : PySem.W.Frag) (c : Ctx) (G : Hp) : Hp → Hp → Prop := fun G1 H1 => Same G G1 ∧ ∃ env1 σ1, Fr K c G1 H1 env1 σ1
def PFix (K : PySem.W.Frag) (c : Ctx) (G : Hp) (env : List Sl) (σ : L2.St) : Hp → Hp → Prop := fun G1 H1 => Same G G1 ∧ Fr K c G1 H1 env σ
structure DI (X : Cx) (tg iter : Expr) (wi : TI) (w : WA) : Prop where
  pi : PI X tg iter wi
  snd : ∀ (c : Ctx) (G H : Hp) (env : List Sl) (σ : L2.St) (Rr : It → Hp → Prop) (q : List D → Prop), Fr X.K c G H env σ → w env q →
    (∀ J ds G' H', Fr X.K c G' H' env σ → Gr X.K c.da G H G' H' → Wk X.K c.da (PAny X.K c G') J ds → q ds → Rr J H') → wi σ H Rr
structure DIB (X : Cx) (tg iter : Expr) (wi : TI) (w : WA) : Prop where
  pi : PI X tg iter wi
  snd : ∀ (c : Ctx) (G H : Hp) (env : List Sl) (σ : L2.St) (Rr : It → Hp → Prop) (q : List D → Prop), Fr X.K c G H env σ → w env q →
    (∀ J ds G' H', Fr X.K c G' H' env σ → Gr X.K c.da G H G' H' → Wk X.K c.da (PFix X.K c G' env σ) J ds → q ds → Rr J H') → wi σ H Rr
theorem Wk.imp {da : Option Addr} {P P' : Hp → Hp → Prop} {J : It} {ds : List D} (w : Wk K da P J ds) (h : ∀ G H, P' G H → P G H) : Wk K da P' J ds := ⟨fun G1 H1 p => w.go G1 H1 (h _ _ p), fun G1 H1 p => w.stop G1 H1 (h _ _ p)⟩
theorem DI.toB {wi : TI} (h : DI X tg iter wi wA) : DIB X tg iter wi wA := ⟨h.pi, fun c G H env σ Rr q f hw k => h.snd c G H env σ Rr q f hw fun J ds G' H' f' s wk hq => k J ds G' H' f' s (wk.imp fun _ _ ⟨a, b⟩ => ⟨a, env, σ, b⟩) hq⟩
/-- a list or a tuple as it is -/
def wSeq (w : WE) : WA := fun env q => w env fun d => match d with | .lst ds => q ds | .tup ds => q ds | _ => False
theorem wk_lst {c : Ctx} {P : Hp → Hp → Prop} {ds : List D} {a : Addr} (hP : ∀ G H, P G H → (∃ env σ, Fr K c G H env σ) ∧ ∃ vs, H a = some (.lst vs) ∧ RL K G ds vs) : Wk K c.da P (Itl K a) ds := by
  refine ⟨fun G1 H1 p i d hd => ?_, fun G1 H1 p => ?_⟩
  · obtain ⟨⟨env, σ, f⟩, vs, h1, h2⟩ := hP G1 H1 p
    obtain ⟨v, h3, h4⟩ := h2.get hd
    refine ⟨⟨vs, v, SqL.of h1, h3⟩, fun x H2 y => ?_⟩
    obtain ⟨rfl, y⟩ := y
    have := y vs (SqL.of h1)
    rw [h3] at this; cases this
    exact ⟨G1, Gr.refl f, h4⟩
  · obtain ⟨_, vs, h1, h2⟩ := hP G1 H1 p
    exact ⟨vs, SqL.of h1, by rw [h2.length]; exact Nat.le_refl _⟩
theorem wk_tup {c : Ctx} {P : Hp → Hp → Prop} {ds : List D} {a : Addr} (hP : ∀ G H, P G H → (∃ env σ, Fr K c G H env σ) ∧ ∃ vs, SqT K G a vs ∧ RL K G ds vs) : Wk K c.da P (Itt K a) ds := by
  refine ⟨fun G1 H1 p i d hd => ?_, fun G1 H1 p => ?_⟩
  · obtain ⟨⟨env, σ, f⟩, vs, h1, h2⟩ := hP G1 H1 p
    obtain ⟨v, h3, h4⟩ := h2.get hd
    have h1' := sqt_same f.gh h1
    refine ⟨⟨vs, v, h1', h3⟩, fun x H2 y => ?_⟩
    obtain ⟨rfl, y⟩ := y
    have := y vs h1'
    rw [h3] at this; cases this
    exact ⟨G1, Gr.refl f, h4⟩
  · obtain ⟨⟨env, σ, f⟩, vs, h1, h2⟩ := hP G1 H1 p
    exact ⟨vs, sqt_same f.gh h1, by rw [h2.length]; exact Nat.le_refl _⟩
def iSeq (K : PySem.W.Frag) (t : TE) : TI := fun σ H R => t σ H fun x H1 => ∃ a, x = .ref a ∧ (((∃ xs, SqL K H1 a xs) ∧ R (Itl K a) H1) ∨ ((∃ xs, SqT K H1 a xs) ∧ R (Itt K a) H1))
theorem pi_seq (hp : PE X iter t) : PI X tg iter (iSeq X.K t) := by
  refine ⟨fun pins s σ H R I h => ?_⟩
  refine thn (hp.run pins s σ H _ I h) fun v s1 ⟨x, H1, I1, r1, q1⟩ => ?_
  obtain ⟨a, e, q1⟩ := q1
  subst e
  cases r1
  rcases q1 with ⟨⟨xs, hq⟩, q⟩ | ⟨⟨xs, hq⟩, q⟩
  · obtain ⟨its, rv, p, hz⟩ := I1.list hq
    refine wpAny_pyIter_list p.isList ?_
    refine ⟨s1.heap.objs.size, [s1.heap.objs.size], _, _, H1, rfl, I1.kept (t' := s1.toks) fun b o e => Heap.get?_push_of_some _ e, turn_list a _, ⟨_, Heap.get?_push_size _ rfl, rfl, rfl⟩, fun b hb => ?_, q⟩
    have e : b = s1.heap.objs.size := by simpa using hb
    subst e
    exact I1.fpOk (Nat.le_refl _) (I1.hok.fresh (Nat.le_refl _))
  · obtain ⟨its, rv, p, hz⟩ := I1.tuple hq
    refine wpAny_pyIter_tuple (show s1.heap.IsTuple a its.toArray from p) ?_
    refine ⟨s1.heap.objs.size, [s1.heap.objs.size], _, _, H1, rfl, I1.kept (t' := s1.toks) fun b o e => Heap.get?_push_of_some _ e, turn_tuple a _, ⟨_, Heap.get?_push_size _ rfl, rfl, rfl⟩, fun b hb => ?_, q⟩
    have e : b = s1.heap.objs.size := by simpa using hb
    subst e
    exact I1.fpOk (Nat.le_refl _) (I1.hok.fresh (Nat.le_refl _))
theorem di_seq (h : DE X iter t w) : DI X tg iter (iSeq X.K t) (wSeq w) := ⟨pi_seq h.pe, fun c G H env σ Rr q f hw k => h.snd c G H env σ _ _ f hw fun v d G' H' f' s r hq => by
  split at hq
  · obtain ⟨a, vs, rfl, h1, h2⟩ := r.lstE
    refine ⟨a, rfl, .inl ⟨⟨vs, SqL.of (f'.gh _ _ h1)⟩, k _ _ G' H' f' s (wk_lst fun G1 H1 p => ?_) hq⟩⟩
    obtain ⟨s1, env1, σ1, f1⟩ := p
    exact ⟨⟨env1, σ1, f1⟩, vs, f1.gh _ _ (s1 _ _ h1), RL.mono s1 _ _ h2⟩
  · obtain ⟨a, vs, rfl, h1, h2⟩ := r.tupE
    refine ⟨a, rfl, .inr ⟨⟨vs, sqt_same f'.gh h1⟩, k _ _ G' H' f' s (wk_tup fun G1 H1 p => ?_) hq⟩⟩
    obtain ⟨s1, env1, σ1, f1⟩ := p
    exact ⟨⟨env1, σ1, f1⟩, vs, sqt_same s1 h1, RL.mono s1 _ _ h2⟩
  · exact hq.elim⟩
/-- .. be it a list of ours (within a comprehension) -/
theorem dib_seq (h : DB X iter t w) : DIB X tg iter (iSeq X.K t) (wSeq w) := ⟨pi_seq h.pe, fun c G H env σ Rr q f hw k => h.snd c G H env σ _ _ f hw fun v d G' H' f' s r hq => by
  have rh := r G' H' f' (Same.refl _)
  split at hq
  · obtain ⟨a, vs, rfl, h1, h2⟩ := rh.lst
    refine ⟨a, rfl, .inl ⟨⟨vs, SqL.of h1⟩, k _ _ G' H' f' s (wk_lst fun G1 H1 p => ?_) hq⟩⟩
    obtain ⟨s1, f1⟩ := p
    obtain ⟨a', us, e, g1, g2⟩ := (r G1 H1 f1 s1).lst
    cases e
    exact ⟨⟨env, σ, f1⟩, us, g1, g2⟩
  · obtain ⟨a, vs, rfl, h1, h2⟩ := rh.tup
    refine ⟨a, rfl, .inr ⟨⟨vs, sqt_same f'.gh h1⟩, k _ _ G' H' f' s (wk_tup fun G1 H1 p => ?_) hq⟩⟩
    obtain ⟨s1, f1⟩ := p
    exact ⟨⟨env, σ, f1⟩, vs, sqt_same s1 h1, RL.mono s1 _ _ h2⟩
  · exact hq.elim⟩
/-- lo, lo + 1, .. -/
def intsFrom (lo : Int) (n : Nat) : List D := (List.range n).map fun i => D.int (lo + (i : Nat))
theorem wk_range {c : Ctx} {P : Hp → Hp → Prop} {lo : Int} {n : Nat} (hP : ∀ G H, P G H → ∃ env σ, Fr K c G H env σ) : Wk K c.da P (Itr lo n) (intsFrom lo n) := by
  have hl : (intsFrom lo n).length = n := by unfold intsFrom; rw [List.length_map, List.length_range]
  refine ⟨fun G1 H1 p i d hd => ?_, fun G1 H1 p => by rw [hl]; exact Nat.le_refl _⟩
  have hi : i < n := by have := (List.getElem?_eq_some_iff.mp hd).1; rwa [hl] at this
  have e : d = .int (lo + (i : Nat)) := by
    unfold intsFrom at hd
    rw [List.getElem?_map, List.getElem?_range hi] at hd
    exact (Option.some.inj hd).symm
  subst e
  refine ⟨hi, fun x H2 y => ?_⟩
  obtain ⟨rfl, rfl⟩ := y
  obtain ⟨env, σ, f⟩ := hP G1 _ p
  exact ⟨G1, Gr.refl f, R.int_⟩
def wRange1 (wA : WA) : WA := fun env q => wA env fun ds => match ds with | [.int j] => (-(2 ^ 62) ≤ j ∧ j < 2 ^ 62) ∧ q (intsFrom 0 j.toNat) | _ => False
def wRange2 (wA : WA) : WA := fun env q => wA env fun ds => match ds with | [.int i, .int j] => (-(2 ^ 62) ≤ i ∧ i < 2 ^ 62 ∧ -(2 ^ 62) ≤ j ∧ j < 2 ^ 62) ∧ q (intsFrom i (j - i).toNat) | _ => False
theorem di_range1 {p : Pos} (hg : Gl X "range") (hm : X.mg "range" = none) (ha : DA X [a] tA wA) (hs : starEach [a] X.env = [(false, eval a X.env)] := by rfl) : DI X tg (.Call (.Name "range" p) [a] [] pos) (iRng1 tA) (wRange1 wA) := ⟨pi_range1 hg hm ha.pa hs, fun c G H env σ Rr q f hw k => ha.snd c G H env σ _ _ f hw fun vs ds G' H' f' s r hq => by
  split at hq
  · obtain ⟨v, us, rfl, r1, r2⟩ := r.consE
    rw [r2.nilE]
    exact ⟨_, by rw [show v = .int _ from r1], hq.1.1, hq.1.2, k _ _ G' H' f' s (wk_range fun _ _ p => p.2) hq.2⟩
  · exact hq.elim⟩
theorem di_range2 {p : Pos} (hg : Gl X "range") (hm : X.mg "range" = none) (ha : DA X [a, b] tA wA) (hs : starEach [a, b] X.env = [(false, eval a X.env), (false, eval b X.env)] := by rfl) (hs2 : starEach [b] X.env = [(false, eval b X.env)] := by rfl) : DI X tg (.Call (.Name "range" p) [a, b] [] pos) (iRng2 tA) (wRange2 wA) := ⟨pi_range2 hg hm ha.pa hs hs2, fun c G H env σ Rr q f hw k => ha.snd c G H env σ _ _ f hw fun vs ds G' H' f' s r hq => by
  split at hq
  · obtain ⟨v, us, rfl, r1, r2⟩ := r.consE
    obtain ⟨u, us2, rfl, r3, r4⟩ := r2.consE
    rw [r4.nilE]
    exact ⟨_, _, by rw [show v = .int _ from r1, show u = .int _ from r3], hq.1, k _ _ G' H' f' s (wk_range fun _ _ p => p.2) hq.2⟩
  · exact hq.elim⟩
/-- pairs -/
def zipD : List D → List D → List D
  | x :: xs, y :: ys => .tup [x, y] :: zipD xs ys
  | _, _ => []
theorem zipD_len : ∀ xs ys : List D, (zipD xs ys).length = min xs.length ys.length
  | [], _ => by simp [zipD]
  | _ :: _, [] => by simp [zipD]
  | x :: xs, y :: ys => by simp only [zipD, List.length_cons, zipD_len xs ys]; omega
theorem zipD_get : ∀ {xs ys : List D} {i : Nat} {d : D}, (zipD xs ys)[i]? = some d → ∃ x y, xs[i]? = some x ∧ ys[i]? = some y ∧ d = .tup [x, y]
  | [], _, _, _, h => by simp [zipD] at h
  | _ :: _, [], _, _, h => by simp [zipD] at h
  | x :: xs, y :: ys, 0, d, h => by simp [zipD] at h; exact ⟨x, y, rfl, rfl, h.symm⟩
  | x :: xs, y :: ys, i + 1, d, h => by
    simp only [zipD, List.getElem?_cons_succ] at h
    obtain ⟨a, b, h1, h2, h3⟩ := zipD_get h
    exact ⟨a, b, by simpa using h1, by simpa using h2, h3⟩
/-- a new pair is given -/
theorem gr_pair {c : Ctx} {G H : Hp} {env : List Sl} {σ : L2.St} (f : Fr K c G H env σ) {T : Addr} {u v : V} {x y : D} (hT : H T = none) (hx : R K G x u) (hy : R K G y v) : ∃ G2, Gr K c.da G H G2 (upd H T (.tup [u, v])) ∧ R K G2 (.tup [x, y]) (.ref T) := by
  have g := f.newG (o := .tup [u, v]) hT
  exact ⟨_, g, .tup (SqT.of upd_same) (.cons (hx.mono g.gg) (.one (hy.mono g.gg)))⟩
theorem one_of {xs : List V} {i : Nat} {u v : V} (h : xs[i]? = some u) (h' : xs[i]? = some v) : u = v := by rw [h] at h'; exact Option.some.inj h'
theorem wk_zipL {c : Ctx} {P : Hp → Hp → Prop} {ds es : List D} {a b : Addr} (hP : ∀ G H, P G H → (∃ env σ, Fr K c G H env σ) ∧ ∃ vs us, H a = some (.lst vs) ∧ RL K G ds vs ∧ H b = some (.lst us) ∧ RL K G es us) : Wk K c.da P (Itz K a b) (zipD ds es) := by
  refine ⟨fun G1 H1 p i d hd => ?_, fun G1 H1 p => ?_⟩
  · obtain ⟨⟨env, σ, f⟩, vs, us, h1, h2, h3, h4⟩ := hP G1 H1 p
    obtain ⟨x, y, e1, e2, rfl⟩ := zipD_get hd
    obtain ⟨v, g1, g2⟩ := h2.get e1
    obtain ⟨u, g3, g4⟩ := h4.get e2
    refine ⟨⟨vs, us, v, u, SqL.of h1, SqL.of h3, g1, g3⟩, fun x H2 yy => ?_⟩
    obtain ⟨T, v', u', rfl, hT, rfl, k1, k2⟩ := yy
    have e3 := one_of g1 (k1 _ (SqL.of h1))
    have e4 := one_of g3 (k2 _ (SqL.of h3))
    subst e3; subst e4
    exact gr_pair f hT g2 g4
  · obtain ⟨_, vs, us, h1, h2, h3, h4⟩ := hP G1 H1 p
    refine ⟨vs, us, SqL.of h1, SqL.of h3, ?_⟩
    rw [zipD_len, h2.length, h4.length]
    omega
theorem wk_zipT {c : Ctx} {P : Hp → Hp → Prop} {ds es : List D} {a b : Addr} (hP : ∀ G H, P G H → (∃ env σ, Fr K c G H env σ) ∧ ∃ vs us, SqT K G a vs ∧ RL K G ds vs ∧ SqT K G b us ∧ RL K G es us) : Wk K c.da P (RZ.ItzT K a b) (zipD ds es) := by
  refine ⟨fun G1 H1 p i d hd => ?_, fun G1 H1 p => ?_⟩
  · obtain ⟨⟨env, σ, f⟩, vs, us, h1, h2, h3, h4⟩ := hP G1 H1 p
    obtain ⟨x, y, e1, e2, rfl⟩ := zipD_get hd
    obtain ⟨v, g1, g2⟩ := h2.get e1
    obtain ⟨u, g3, g4⟩ := h4.get e2
    refine ⟨⟨vs, us, v, u, sqt_same f.gh h1, sqt_same f.gh h3, g1, g3⟩, fun x H2 yy => ?_⟩
    obtain ⟨T, v', u', rfl, hT, rfl, k1, k2⟩ := yy
    have e3 := one_of g1 (k1 _ (sqt_same f.gh h1))
    have e4 := one_of g3 (k2 _ (sqt_same f.gh h3))
    subst e3; subst e4
    exact gr_pair f hT g2 g4
  · obtain ⟨⟨env, σ, f⟩, vs, us, h1, h2, h3, h4⟩ := hP G1 H1 p
    refine ⟨vs, us, sqt_same f.gh h1, sqt_same f.gh h3, ?_⟩
    rw [zipD_len, h2.length, h4.length]
    omega
/-- zip of two lists or of two tuples -/
def wZip (wA : WA) : WA := fun env q => wA env fun ds => match ds with | [.lst xs, .lst ys] => q (zipD xs ys) | [.tup xs, .tup ys] => q (zipD xs ys) | _ => False
theorem di_zip {elts : List Expr} {kk : Nat} {p tpos : Pos} (hg : Gl X "zip") (hm : X.mg "zip" = none) (ha : DA X [a, b] tA wA) (hs : starEach [a, b] X.env = (false, eval a X.env) :: starEach [b] X.env := by rfl) (hpl : (backTo pos (starEach [b] X.env)).any (·.1) = false := by rfl) :
    DI X (.Tuple elts kk tpos) (.Call (.Name "zip" p) [a, b] [] pos) (RZ.iZipA X.K tA) (wZip wA) := ⟨RZ.pi_zipA hg hm ha.pa hs hpl, fun c G H env σ Rr q f hw k => ha.snd c G H env σ _ _ f hw fun vs ds G' H' f' s r hq => by
  split at hq
  · obtain ⟨v, us, rfl, r1, r2⟩ := r.consE
    obtain ⟨u, us2, rfl, r3, r4⟩ := r2.consE
    rw [r4.nilE]
    obtain ⟨a, vs, rfl, h1, h2⟩ := r1.lstE
    obtain ⟨b, us, rfl, h3, h4⟩ := r3.lstE
    refine ⟨a, b, vs, us, rfl, .inl ⟨SqL.of (f'.gh _ _ h1), SqL.of (f'.gh _ _ h3), k _ _ G' H' f' s (wk_zipL fun G1 H1 p => ?_) hq⟩⟩
    obtain ⟨s1, env1, σ1, f1⟩ := p
    exact ⟨⟨env1, σ1, f1⟩, vs, us, f1.gh _ _ (s1 _ _ h1), RL.mono s1 _ _ h2, f1.gh _ _ (s1 _ _ h3), RL.mono s1 _ _ h4⟩
  · obtain ⟨v, us, rfl, r1, r2⟩ := r.consE
    obtain ⟨u, us2, rfl, r3, r4⟩ := r2.consE
    rw [r4.nilE]
    obtain ⟨a, vs, rfl, h1, h2⟩ := r1.tupE
    obtain ⟨b, us, rfl, h3, h4⟩ := r3.tupE
    refine ⟨a, b, vs, us, rfl, .inr ⟨sqt_same f'.gh h1, sqt_same f'.gh h3, k _ _ G' H' f' s (wk_zipT fun G1 H1 p => ?_) hq⟩⟩
    obtain ⟨s1, env1, σ1, f1⟩ := p
    exact ⟨⟨env1, σ1, f1⟩, vs, us, sqt_same s1 h1, RL.mono s1 _ _ h2, sqt_same s1 h3, RL.mono s1 _ _ h4⟩
  · exact hq.elim⟩
end
end Y

namespace Y
open PySem L2
section
variable {X : Cx} {K : PySem.W.Frag} {e a b cnd tg iter elt : Expr} {es : List Expr} {t ta tb tc te : TE} {w wa wb wc we : WE} {tA : TA} {wA : WA} {tt tt' : TT} {wt wt' : WT} {pos : Pos}
/-! ### comprehensions -/
structure DTs (X : Cx) (ifs : List Expr) (t : TT) (w : WT) : Prop where
  pt : PTs X ifs t
  snd : SndT X.K t w
def wYes : WT := fun _ q => q true
theorem dts_nil : DTs X [] tYes wYes := ⟨pts_nil, fun c G H env σ Q q f hw k => k true G H f (Gr.refl f) hw⟩
theorem dts_one (h : DT X cnd tt wt) : DTs X [cnd] tt wt := ⟨pts_one h.pt, h.snd⟩
def wipeE (env : List Sl) : List Nat → List Sl
  | [] => env
  | v :: vs => (wipeE env vs).set v .no
theorem Fr.wipe {c : Ctx} {G H : Hp} {env : List Sl} {σ : L2.St} (f : Fr K c G H env σ) : ∀ vs : List Nat, Fr K c G H (wipeE env vs) (wipe σ vs)
  | [] => f
  | v :: vs => (Fr.wipe f vs).setNo v none
theorem wipe_wipe {σ : L2.St} {vs : List Nat} : ∀ us : List Nat, (∀ u ∈ us, u ∈ vs) → L2.wipe (L2.wipe σ us) vs = L2.wipe σ vs
  | [], _ => rfl
  | u :: us, hu => by
    show L2.wipe ((L2.wipe σ us).set u none) vs = L2.wipe σ vs
    rw [wipe_set (hu u List.mem_cons_self)]
    exact wipe_wipe us fun v hv => hu v (List.mem_cons_of_mem _ hv)
/-- I k acc holds behind k items, with the list acc made so far -/
def kLc' (wg : WG) (wt : WT) (we : WE) (vs : List Nat) (env : List Sl) (ql : List D → Prop) (ds : List D) : Prop := ∃ I : Nat → List D → Prop, I 0 [] ∧
  (∀ k d acc, ds[k]? = some d → I k acc → wg d (wipeE env vs) fun env2 => wt env2 fun b => match b with | true => we env2 fun z => acc.length < sizeLine ∧ I (k + 1) (acc ++ [z]) | false => I (k + 1) acc) ∧
  ∀ acc, I ds.length acc → ql acc
@[irreducible] def kLc (wg : WG) (wt : WT) (we : WE) (vs : List Nat) (env : List Sl) (ql : List D → Prop) (ds : List D) : Prop := kLc' wg wt we vs env ql ds
theorem kLc_i {wg : WG} {wt : WT} {we : WE} {vs : List Nat} {env : List Sl} {ql : List D → Prop} {ds : List D} (h : kLc' wg wt we vs env ql ds) : kLc wg wt we vs env ql ds := by unfold kLc; exact h
theorem kLc_e {wg : WG} {wt : WT} {we : WE} {vs : List Nat} {env : List Sl} {ql : List D → Prop} {ds : List D} (h : kLc wg wt we vs env ql ds) : kLc' wg wt we vs env ql ds := by unfold kLc at h; exact h
def wLc (wi : WA) (wg : WG) (wt : WT) (we : WE) (vs : List Nat) : WA := fun env q => wi env (kLc wg wt we vs env q)
theorem snd_lc {wi : TI} {wI : WA} {g : TG} {wg : WG} {ss : List Nat} {vs : List Nat}
    (hi : ∀ (c : Ctx) (G H : Hp) (env : List Sl) (σ : L2.St) (Rr : It → Hp → Prop) (q : List D → Prop), Fr K c G H env σ → wI env q → (∀ J ds G' H', Fr K c G' H' env σ → Gr K c.da G H G' H' → Wk K c.da (PFix K c G' env σ) J ds → q ds → Rr J H') → wi σ H Rr)
    (hg : ∀ (c : Ctx) (G H : Hp) (env : List Sl) (σ : L2.St) (v : V) (d : D) (Q : L2.St → Hp → Prop) (q : List Sl → Prop), Fr K c G H env σ → R K G d v → wg d env q → (∀ env' σ' G' H', Fr K c G' H' env' σ' → Gr K c.da G H G' H' → (∀ vs, (∀ i ∈ ss, i ∈ vs) → L2.wipe σ' vs = L2.wipe σ vs) → q env' → Q σ' H') → g v σ H Q)
    (ht : SndT K tt wt) (he : Snd K te we) (hs : ∀ i ∈ ss, i ∈ vs) : SndN K (tLc wi g tt te vs) (wLc wI wg wt we vs) := fun c G H env σ Q q f hw k => by
  refine hi c G H env σ _ _ f hw fun J ds G1 H1 f1 s1 wk hI => ?_
  obtain ⟨I, h0, hstep, hend⟩ := kLc_e hI
  intro D hD
  have nD : H D = none := s1.fresh hD
  have nDown : NoOwn env σ D := f1.noOwn hD
  have nD0 : c.H0 D = none := f1.h0none hD
  have nda : c.da ≠ some D := f1.own_ne nD0
  let Pv : Nat → Hp → Prop := fun k H' => ∃ G' acc us, Gr K c.da G1 H1 G' H' ∧ H' D = some (.lst us) ∧ RL K G' acc us ∧ G' D = none ∧ I k acc
  have start : Pv 0 (upd H1 D (.lst [])) := ⟨G1, [], [], f1.newH hD, upd_same, .nil, f1.gnone hD, h0⟩
  refine ⟨fun i m H' => m = ds.length - i ∧ i ≤ ds.length ∧ Pv i H', ⟨ds.length, by simp, Nat.zero_le _, start⟩, ?_⟩
  rintro i m H2 ⟨rfl, hi2, G2, acc, us, g2, eD, r2, gD, hI2⟩
  have f2 := f1.step g2
  by_cases hlt : i < ds.length
  · refine .inr ?_
    have hd : ds[i]? = some ds[i] := List.getElem?_eq_getElem hlt
    obtain ⟨go, yl⟩ := wk.go G2 H2 ⟨g2.gg, f2⟩ i _ hd
    refine ⟨go, Pv (i + 1), fun H' p' => ⟨ds.length - (i + 1), by omega, rfl, hlt, p'⟩, fun x H3 y => ?_⟩
    obtain ⟨G3, g3, rx⟩ := yl x H3 y
    have f3 := f2.step g3
    refine hg c G3 H3 (wipeE env vs) (L2.wipe σ vs) x _ _ _ (f3.wipe vs) rx (hstep i _ acc hd hI2) fun env4 σ4 G4 H4 f4 g4 wp hq4 => ⟨?_, ?_⟩
    · rw [wp vs hs]
      exact wipe_wipe vs fun _ h => h
    · refine ht c G4 H4 env4 σ4 _ _ f4 hq4 fun b G5 H5 f5 g5 hq5 => ?_
      have g35 := (g3.trans g4).trans g5
      have eD5 : H5 D = some (.lst us) := g35.hh _ _ eD nda
      have gD5 : G5 D = none := g35.old _ _ eD gD
      cases b with
      | true =>
        refine iteT (he c G5 H5 env4 σ4 _ _ f5 hq5 fun z d G6 H6 f6 g6 r6 hq6 => ?_)
        have g26 := g35.trans g6
        have eD6 : H6 D = some (.lst us) := g6.hh _ _ eD5 nda
        have gD6 : G6 D = none := g6.old _ _ eD5 gD5
        have ra := RL.mono g26.gg _ _ r2
        refine ⟨us, eD6, by rw [r2.length]; exact hq6.1, G6, acc ++ [d], us ++ [z], ?_, upd_same, ra.snoc r6, gD6, hq6.2⟩
        have gt := g2.trans g26
        refine ⟨gt.gg, fun b o hb => by rw [upd_ne (ne_of_none hb gD6)]; exact gt.gh b o hb, fun b o hb n => by rw [upd_ne (ne_of_none hb hD)]; exact gt.hh b o hb n, gt.old, fun b e => ?_⟩
        have nb : b ≠ D := fun z => nda (z ▸ e)
        exact (gt.dr b e).same (Same.refl _) (gt.dr b e).1 fun o q => by rw [upd_ne nb]; exact q
      | false => exact iteF ⟨G5, acc, us, g2.trans g35, eD5, RL.mono g35.gg _ _ r2, gD5, hq5⟩
  · have e : i = ds.length := by omega
    subst e
    exact .inl ⟨wk.stop G2 H2 ⟨g2.gg, f2⟩, k D us acc G2 H2 (f.step (s1.trans g2)) (s1.trans g2) eD r2 gD nD0 nD nDown (hend acc hI2)⟩
theorem dn_lc {ifs : List Expr} {scope : Scope} {own : List (Str × Nat)} {wi : TI} {wI : WA} {g : TG} {wg : WG} {ss : List Nat} (hc : X.calm = true) (hN : X.N.Nodup) (hi : DIB X tg iter wi wI) (ok : BlkOk X.N X.env.scope scope own)
    (hg : ∀ (s : Shared) (H : Hp) (C : Addr) (cl : List (Str × Addr)) (fp : List Addr), DG (X.blk s H scope (compEnvC scope cl C X.env) fp) tg g wg ss) (ht : ∀ (s : Shared) (H : Hp) (C : Addr) (cl : List (Str × Addr)) (fp : List Addr), DTs (X.blk s H scope (compEnvC scope cl C X.env) fp) ifs tt wt)
    (he : ∀ (s : Shared) (H : Hp) (C : Addr) (cl : List (Str × Addr)) (fp : List Addr), DE (X.blk s H scope (compEnvC scope cl C X.env) fp) elt te we) (hss : ∀ i ∈ ss, i ∈ own.map (·.2) := by decide) (hs : ∀ x, foldedSetIterable iter X.env x = pure x := by intro _; rfl) :
    DN X (.ListComp elt [⟨tg, iter, ifs, 0⟩] scope pos) (tLc wi g tt te (own.map (·.2))) (wLc wI wg wt we (own.map (·.2))) :=
  ⟨pe_lc hc hN hi.pi ok (fun s H C cl fp => (hg s H C cl fp).pg) (fun s H C cl fp => (ht s H C cl fp).pt) (fun s H C cl fp => (he s H C cl fp).pe) hs,
    snd_lc hi.snd (hg X.s_0 X.H_0 0 [] []).snd (ht X.s_0 X.H_0 0 [] []).snd (he X.s_0 X.H_0 0 [] []).snd hss⟩

/-! ### statements -/
structure DEnds where
  nx : List Sl → Prop
  rt : D → Prop
  bk : List Sl → Prop := fun _ => False
  ct : List Sl → Prop := fun _ => False
abbrev WS := List Sl → DEnds → Prop
structure Lift (K : PySem.W.Frag) (c : Ctx) (E : DEnds) (D : Ends) : Prop where
  nx : ∀ G H env σ, Fr K c G H env σ → E.nx env → D.nx σ H
  rt : ∀ v d G H env σ, Fr K c G H env σ → R K G d v → E.rt d → D.rt v H
  bk : ∀ G H env σ, Fr K c G H env σ → E.bk env → D.bk σ H
  ct : ∀ G H env σ, Fr K c G H env σ → E.ct env → D.ct σ H
def SndS (K : PySem.W.Frag) (t : TS) (w : WS) : Prop := ∀ (c : Ctx) (G H : Hp) (env : List Sl) (σ : L2.St) (D : Ends) (E : DEnds), Fr K c G H env σ → w env E → Lift K c E D → t D σ H
structure DS (X : Cx) (st : Stmt) (t : TS) (w : WS) : Prop where
  ps : PS X st t
  snd : SndS X.K t w
structure DSs (X : Cx) (st : List Stmt) (t : TS) (w : WS) : Prop where
  ps : PSs X st t
  snd : SndS X.K t w
variable {st : Stmt} {rest body : List Stmt} {tS uS : TS} {wS vS : WS}
def wNext : WS := fun env E => E.nx env
def wThen (w v : WS) : WS := fun env E => w env { E with nx := fun env' => v env' E }
theorem dss_nil : DSs X [] tNext wNext := ⟨pss_nil, fun c G H env σ D E f hw L => L.nx G H env σ f hw⟩
theorem dss_one (h : DS X st tS wS) : DSs X [st] tS wS := ⟨pss_one h.ps, h.snd⟩
theorem dss_cons (h1 : DS X st tS wS) (h2 : DSs X rest uS vS) : DSs X (st :: rest) (tSeq tS uS) (wThen wS vS) := ⟨pss_cons h1.ps h2.ps, fun c G H env σ D E f hw L =>
  h1.snd c G H env σ { D with nx := uS D } { E with nx := fun env' => vS env' E } f hw ⟨fun G' H' env' σ' f' hw' => h2.snd c G' H' env' σ' D E f' hw' L, L.rt, L.bk, L.ct⟩⟩
theorem ds_pass : DS X (.Pass pos) tNext wNext := ⟨ps_pass, fun c G H env σ D E f hw L => L.nx G H env σ f hw⟩
theorem ds_continue : DS X (.Continue pos) tCont (fun env E => E.ct env) := ⟨ps_continue, fun c G H env σ D E f hw L => L.ct G H env σ f hw⟩
theorem ds_break : DS X (.Break pos) tBreak (fun env E => E.bk env) := ⟨ps_break, fun c G H env σ D E f hw L => L.bk G H env σ f hw⟩
theorem ds_never : DS X st tNever (fun _ _ => False) := ⟨ps_never, fun _ _ _ _ _ _ _ _ hw _ => hw⟩
def wExpr (w : WE) : WS := fun env E => w env fun _ => E.nx env
theorem ds_expr (h : DE X e t w) (hs : swapsWith e none pos.line X.env = pure false := by rfl) : DS X (.Expr e pos) (tDrop t) (wExpr w) := ⟨ps_expr h.pe hs, fun c G H env σ D E f hw L => h.snd c G H env σ _ _ f hw fun v d G' H' f' s r hq => L.nx G' H' env σ f' hq⟩
def wRet (w : WE) : WS := fun env E => w env E.rt
theorem ds_ret (h : DE X e t w) : DS X (.Return (some e) pos) (tRet t) (wRet w) := ⟨ps_ret h.pe, fun c G H env σ D E f hw L => h.snd c G H env σ _ _ f hw fun v d G' H' f' s r hq => L.rt v d G' H' env σ f' r hq⟩
theorem ds_retN : DS X (.Return none pos) tRetN (fun _ E => E.rt .non) := ⟨ps_retN, fun c G H env σ D E f hw L => L.rt .non .non G H env σ f R.non_ hw⟩
/-- return x, x's list ours (or not) -/
def wRetO (i : Nat) : WS := fun env E => match env[i]? with | some (.ol ds) => E.rt (.lst ds) | some (.d d) => E.rt d | _ => False
theorem ds_retO (i : Nat) {x : Str} {p : Pos} (hN : X.N[i]? = some x := by rfl) (hv : Vis X.env.scope x := by first | exact Or.inl rfl | exact Or.inr (Or.inl rfl) | exact Or.inr (Or.inr rfl)) (hd : (x == ("__debug__" : Str)) = false := by decide)
    (hcd : (x == ("__classdict__" : Str)) = false := by decide) : DS X (.Return (some (.Name x p)) pos) (tRet (tVar i)) (wRetO i) := ⟨ps_ret (pe_var hN hv hd hcd), fun c G H env σ D E f hw L => by
  unfold wRetO at hw
  split at hw
  · rename_i ds e
    obtain ⟨a, vs, e1, h1, h2, sm, f'⟩ := f.freeze e
    exact ⟨.ref a, e1, L.rt _ _ _ H _ σ f' (.lst upd_same (RL.mono sm _ _ h2)) hw⟩
  · rename_i d e
    obtain ⟨v, e1, r⟩ := f.getD e
    exact ⟨v, e1, L.rt v d G H env σ f r hw⟩
  · exact hw.elim⟩
def wSet (i : Nat) (w : WE) : WS := fun env E => w env fun d => E.nx (env.set i (.d d))
def wSetN (i : Nat) (w : WA) : WS := fun env E => w env fun ds => E.nx (env.set i (.ol ds))
theorem Fr.setOl {c : Ctx} {G H : Hp} {env : List Sl} {σ : L2.St} (f : Fr K c G H env σ) (i : Nat) {a : Addr} {vs : List V} {ds : List D} (h1 : H a = some (.lst vs)) (h2 : RL K G ds vs) (h3 : G a = none) (h4 : c.H0 a = none) (no : NoOwn env σ a) : Fr K c G H (env.set i (.ol ds)) (σ.set i (some (.ref a))) :=
  f.set i ⟨a, vs, rfl, h1, h2, h3, h4⟩ fun b e => by rw [List.mem_singleton.mp e]; exact no
theorem ds_set {i : Nat} {x : Str} {p : Pos} (hN : X.N.Nodup) (hi : X.N[i]? = some x) (hx : Loc X.env.scope x) (h : DE X e t w) (hs : swapsWith e (some (.Name x p)) pos.line X.env = pure false := by rfl) (hf : X.fn x = true ∨ X.env.scope.names.lookup x = some .local := by first | exact .inl rfl | exact .inr rfl | assumption) :
    DS X (.Assign [.Name x p] e pos) (tAsg t (gName i)) (wSet i w) := ⟨ps_set hN hi hx h.pe hs hf, fun c G H env σ D E f hw L => h.snd c G H env σ _ _ f hw fun v d G' H' f' s r hq => L.nx G' H' _ _ (f'.setD i r) hq⟩
theorem ds_setN {i : Nat} {x : Str} {p : Pos} (hN : X.N.Nodup) (hi : X.N[i]? = some x) (hx : Loc X.env.scope x) (h : DN X e t wA) (hs : swapsWith e (some (.Name x p)) pos.line X.env = pure false := by rfl) (hf : X.fn x = true ∨ X.env.scope.names.lookup x = some .local := by first | exact .inl rfl | exact .inr rfl | assumption) :
    DS X (.Assign [.Name x p] e pos) (tAsg t (gName i)) (wSetN i wA) := ⟨ps_set hN hi hx h.pe hs hf, fun c G H env σ D E f hw L => h.snd c G H env σ _ _ f hw fun a vs ds G' H' f' s h1 h2 h3 h4 _ no hq => L.nx G' H' _ _ (f'.setOl i h1 h2 h3 h4 no) hq⟩
/-- x = [.. for ..] on one line, x a local that the block does not have -/
theorem ps_lc {i : Nat} {y : Str} {py : Pos} {ifs : List Expr} {scope : Scope} {own : List (Str × Nat)} {spos : Pos} {wi : TI} {wI : WA} {g : TG} {wg : WG} {ss : List Nat} (hc : X.calm = true) (hN : X.N.Nodup) (hy : X.N[i]? = some y) (hyl : X.env.scope.names.lookup y = some .local)
    (hsw : swapsWith (.ListComp elt [⟨tg, iter, ifs, 0⟩] scope pos) (some (.Name y py)) spos.line X.env = pure true) (hi : DIB X tg iter wi wI) (ok : BlkOk X.N X.env.scope scope own)
    (hg : ∀ (s : Shared) (H : Hp) (C : Addr) (cl : List (Str × Addr)) (fp : List Addr), DG (X.blk s H scope (compEnvC scope cl C X.env) fp) tg g wg ss) (ht : ∀ (s : Shared) (H : Hp) (C : Addr) (cl : List (Str × Addr)) (fp : List Addr), DTs (X.blk s H scope (compEnvC scope cl C X.env) fp) ifs tt wt)
    (he : ∀ (s : Shared) (H : Hp) (C : Addr) (cl : List (Str × Addr)) (fp : List Addr), DE (X.blk s H scope (compEnvC scope cl C X.env) fp) elt te we) (hss : ∀ i ∈ ss, i ∈ own.map (·.2)) (hs : ∀ x, foldedSetIterable iter X.env x = pure x) :
    PS X (.Assign [.Name y py] (.ListComp elt [⟨tg, iter, ifs, 0⟩] scope pos) spos) (tAsg (tLc wi g tt te (own.map (·.2))) (gName i)) ∧ SndN X.K (tLc wi g tt te (own.map (·.2))) (wLc wI wg wt we (own.map (·.2))) :=
  ⟨ps_setLc hc hN hy hyl hsw hi.pi ok (fun s H C cl fp => (hg s H C cl fp).pg) (fun s H C cl fp => (ht s H C cl fp).pt) (fun s H C cl fp => (he s H C cl fp).pe) hs,
    snd_lc hi.snd (hg X.s_0 X.H_0 0 [] []).snd (ht X.s_0 X.H_0 0 [] []).snd (he X.s_0 X.H_0 0 [] []).snd hss⟩
theorem ds_lcN {i : Nat} {y : Str} {py : Pos} {ifs : List Expr} {scope : Scope} {own : List (Str × Nat)} {spos : Pos} {wi : TI} {wI : WA} {g : TG} {wg : WG} {ss : List Nat} (hc : X.calm = true) (hN : X.N.Nodup) (hy : X.N[i]? = some y) (hyl : X.env.scope.names.lookup y = some .local)
    (hsw : swapsWith (.ListComp elt [⟨tg, iter, ifs, 0⟩] scope pos) (some (.Name y py)) spos.line X.env = pure true) (hi : DIB X tg iter wi wI) (ok : BlkOk X.N X.env.scope scope own)
    (hg : ∀ (s : Shared) (H : Hp) (C : Addr) (cl : List (Str × Addr)) (fp : List Addr), DG (X.blk s H scope (compEnvC scope cl C X.env) fp) tg g wg ss) (ht : ∀ (s : Shared) (H : Hp) (C : Addr) (cl : List (Str × Addr)) (fp : List Addr), DTs (X.blk s H scope (compEnvC scope cl C X.env) fp) ifs tt wt)
    (he : ∀ (s : Shared) (H : Hp) (C : Addr) (cl : List (Str × Addr)) (fp : List Addr), DE (X.blk s H scope (compEnvC scope cl C X.env) fp) elt te we) (hss : ∀ i ∈ ss, i ∈ own.map (·.2) := by decide) (hs : ∀ x, foldedSetIterable iter X.env x = pure x := by intro _; rfl) :
    DS X (.Assign [.Name y py] (.ListComp elt [⟨tg, iter, ifs, 0⟩] scope pos) spos) (tAsg (tLc wi g tt te (own.map (·.2))) (gName i)) (wSetN i (wLc wI wg wt we (own.map (·.2)))) :=
  have z := ps_lc hc hN hy hyl hsw hi ok hg ht he hss hs
  ⟨z.1, fun c G H env σ D E f hw L => z.2 c G H env σ _ _ f hw fun a vs ds G' H' f' s h1 h2 h3 h4 _ no hq => L.nx G' H' _ _ (f'.setOl i h1 h2 h3 h4 no) hq⟩
theorem ds_lc {i : Nat} {y : Str} {py : Pos} {ifs : List Expr} {scope : Scope} {own : List (Str × Nat)} {spos : Pos} {wi : TI} {wI : WA} {g : TG} {wg : WG} {ss : List Nat} (hc : X.calm = true) (hN : X.N.Nodup) (hy : X.N[i]? = some y) (hyl : X.env.scope.names.lookup y = some .local)
    (hsw : swapsWith (.ListComp elt [⟨tg, iter, ifs, 0⟩] scope pos) (some (.Name y py)) spos.line X.env = pure true) (hi : DIB X tg iter wi wI) (ok : BlkOk X.N X.env.scope scope own)
    (hg : ∀ (s : Shared) (H : Hp) (C : Addr) (cl : List (Str × Addr)) (fp : List Addr), DG (X.blk s H scope (compEnvC scope cl C X.env) fp) tg g wg ss) (ht : ∀ (s : Shared) (H : Hp) (C : Addr) (cl : List (Str × Addr)) (fp : List Addr), DTs (X.blk s H scope (compEnvC scope cl C X.env) fp) ifs tt wt)
    (he : ∀ (s : Shared) (H : Hp) (C : Addr) (cl : List (Str × Addr)) (fp : List Addr), DE (X.blk s H scope (compEnvC scope cl C X.env) fp) elt te we) (hss : ∀ i ∈ ss, i ∈ own.map (·.2) := by decide) (hs : ∀ x, foldedSetIterable iter X.env x = pure x := by intro _; rfl) :
    DS X (.Assign [.Name y py] (.ListComp elt [⟨tg, iter, ifs, 0⟩] scope pos) spos) (tAsg (tLc wi g tt te (own.map (·.2))) (gName i)) (wSet i (wN (wLc wI wg wt we (own.map (·.2))))) :=
  have z := ps_lc hc hN hy hyl hsw hi ok hg ht he hss hs
  ⟨z.1, fun c G H env σ D E f hw L => z.2 c G H env σ _ _ f hw fun a vs ds G' H' f' s h1 h2 h3 h4 na no hq => by
    have f2 := f'.setOl i h1 h2 h3 h4 no
    by_cases hi : i < env.length
    · obtain ⟨a', vs', e1, e2, e3, sm, f3⟩ := f2.freeze (i := i) (ds := ds) (by rw [List.getElem?_set_self hi])
      rw [List.set_set] at f3
      exact L.nx _ H' _ _ f3 hq
    · have e1 : ∀ s : Sl, env.set i s = env := fun s => List.set_eq_of_length_le (by omega)
      rw [e1] at f2
      have hq' : E.nx (env.set i (.d (.lst ds))) := hq
      rw [e1] at hq'
      exact L.nx G' H' _ _ f2 hq'⟩
theorem ds_asg {g : TG} {wg : WG} {ss : List Nat} (h : DE X e t w) (hg : DG X tg g wg ss) (hs : swapsWithSole [tg] e pos.line X.env = pure false := by rfl) (hw : swappedStores [tg] e X.env = pure none := by rfl) (h1 : (assignEach [tg] X.env).map (·.2) = [assign tg X.env] := by rfl) :
    DS X (.Assign [tg] e pos) (tAsg t g) (fun env E => w env fun d => wg d env E.nx) := ⟨ps_asg h.pe hg.pg hs hw h1, fun c G H env σ D E f hw L => h.snd c G H env σ _ _ f hw fun v d G' H' f' s r hq => hg.snd c G' H' env σ v d _ _ f' r hq fun env2 σ2 G2 H2 f2 s2 _ hq2 => L.nx G2 H2 env2 σ2 f2 hq2⟩
def wPar (i j : Nat) (wA : WA) : WS := fun env E => wA env fun ds => match ds with | [d, e] => E.nx ((env.set i (.d d)).set j (.d e)) | _ => False
theorem ds_par {i j : Nat} {x y : Str} {px py pt : Pos} {kt k2 pt2} (hc : X.calm = true) (hN : X.N.Nodup) (hi : X.N[i]? = some x) (hj : X.N[j]? = some y) (hij : i ≠ j)
    (hx : X.env.scope.names.lookup x = some .local) (hy : X.env.scope.names.lookup y = some .local) (ha : DA X [a, b] tA wA)
    (hw : swappedStores [.Tuple [.Name x px, .Name y py] kt pt] (.Tuple [a, b] k2 pt2) X.env = pure (some [x, y]))
    (hs : swapsWithSole [.Tuple [.Name x px, .Name y py] kt pt] (.Tuple [a, b] k2 pt2) pos.line X.env = pure false := by rfl) :
    DS X (.Assign [.Tuple [.Name x px, .Name y py] kt pt] (.Tuple [a, b] k2 pt2) pos) (tPar i j tA) (wPar i j wA) := ⟨ps_par hc hN hi hj hij hx hy ha.pa hw hs, fun c G H env σ D E f hw L => ha.snd c G H env σ _ _ f hw fun vs ds G' H' f' s r hq => by
  split at hq
  · obtain ⟨v, us, rfl, r1, r2⟩ := r.consE
    obtain ⟨u, us2, rfl, r3, r4⟩ := r2.consE
    rw [r4.nilE]
    exact ⟨v, u, rfl, L.nx G' H' _ _ ((f'.setD i r1).setD j r3) hq⟩
  · exact hq.elim⟩
def wIf (wt : WT) (w v : WS) : WS := fun env E => wt env fun b => match b with | true => w env E | false => v env E
theorem ds_if {A B : List Stmt} (hc : DT X cnd tt wt) (ha : DSs X A tS wS) (hb : DSs X B uS vS) : DS X (.If cnd A B pos) (tIfS tt tS uS) (wIf wt wS vS) := ⟨ps_if hc.pt ha.ps hb.ps, fun c G H env σ D E f hw L => hc.snd c G H env σ _ _ f hw fun b G' H' f' s hq => by
  cases b with
  | true => exact iteT (ha.snd c G' H' env σ D E f' hq L)
  | false => exact iteF (hb.snd c G' H' env σ D E f' hq L)⟩
/-- I i holds ahead of the item number i -/
def kFor' (wg : WG) (wb : WS) (env : List Sl) (E : DEnds) (ds : List D) : Prop := ∃ I : Nat → List Sl → Prop, I 0 env ∧
  (∀ i d env', ds[i]? = some d → I i env' → wg d env' fun env2 => wb env2 { nx := I (i + 1), rt := E.rt, bk := E.nx, ct := I (i + 1) }) ∧ ∀ env', I ds.length env' → E.nx env'
@[irreducible] def kFor (wg : WG) (wb : WS) (env : List Sl) (E : DEnds) (ds : List D) : Prop := kFor' wg wb env E ds
theorem kFor_i {wg : WG} {wb : WS} {env : List Sl} {E : DEnds} {ds : List D} (h : kFor' wg wb env E ds) : kFor wg wb env E ds := by unfold kFor; exact h
theorem kFor_e {wg : WG} {wb : WS} {env : List Sl} {E : DEnds} {ds : List D} (h : kFor wg wb env E ds) : kFor' wg wb env E ds := by unfold kFor at h; exact h
def wFor (wI : WA) (wg : WG) (wb : WS) : WS := fun env E => wI env (kFor wg wb env E)
theorem ds_for {wi : TI} {wI : WA} {g : TG} {wg : WG} {ss : List Nat} (hp : PassesOwn (model X.prog X.w) X.A X.env X.xe) (hc : X.calm = true) (hi : DI X tg iter wi wI) (hg : DG X tg g wg ss) (hb : DSs X body tS wS) (hs : ∀ x, foldedSetIterable iter X.env x = pure x := by intro _; rfl) :
    DS X (.For tg iter body [] pos) (tFor wi g tS) (wFor wI wg wS) := ⟨ps_for hp hc hi.pi hg.pg hb.ps hs, fun c G H env σ D E f hw L => hi.snd c G H env σ _ _ f hw fun J ds G1 H1 f1 s1 wk hI => by
  obtain ⟨I, h0, hstep, hend⟩ := kFor_e hI
  refine ⟨fun i m σ' H' => m = ds.length - i ∧ i ≤ ds.length ∧ ∃ G' env', Fr X.K c G' H' env' σ' ∧ Same G1 G' ∧ I i env', ⟨ds.length, by simp, Nat.zero_le _, G1, env, f1, Same.refl _, h0⟩, ?_⟩
  rintro i m σ2 H2 ⟨rfl, hi2, G2, env2, f2, s2, hI2⟩
  by_cases hlt : i < ds.length
  · refine .inr ?_
    have hd : ds[i]? = some ds[i] := List.getElem?_eq_getElem hlt
    obtain ⟨go, yl⟩ := wk.go G2 H2 ⟨s2, env2, σ2, f2⟩ i _ hd
    refine ⟨go, fun σ' H' => ∃ G' env', Fr X.K c G' H' env' σ' ∧ Same G1 G' ∧ I (i + 1) env', fun σ' H' p' => ⟨ds.length - (i + 1), by omega, rfl, hlt, p'⟩, fun x H3 y => ?_⟩
    obtain ⟨G3, g3, rx⟩ := yl x H3 y
    have f3 := f2.step g3
    refine hg.snd c G3 H3 env2 σ2 x _ _ _ f3 rx (hstep i _ env2 hd hI2) fun env4 σ4 G4 H4 f4 g4 _ hq4 => ?_
    have s4 : Same G1 G4 := s2.trans (g3.gg.trans g4.gg)
    exact hb.snd { c with G0 := G4 } G4 H4 env4 σ4 _ _ f4.rebase hq4
      ⟨fun G' H' env' σ' f' hI' => ⟨G', env', f4.unbase f', s4.trans f'.gg, hI'⟩, fun v d G' H' env' σ' f' r hr => L.rt v d G' H' env' σ' (f4.unbase f') r hr,
        fun G' H' env' σ' f' hn => L.nx G' H' env' σ' (f4.unbase f') hn, fun G' H' env' σ' f' hI' => ⟨G', env', f4.unbase f', s4.trans f'.gg, hI'⟩⟩
  · have e : i = ds.length := by omega
    subst e
    exact .inl ⟨wk.stop G2 H2 ⟨s2, env2, σ2, f2⟩, L.nx G2 H2 env2 σ2 f2 (hend env2 hI2)⟩⟩
/-- .. over a list of ours, which is frozen with that -/
def wForO (n : Nat) (wg : WG) (wb : WS) : WS := fun env E => match env[n]? with | some (.ol ds) => kFor wg wb (env.set n (.d (.lst ds))) E ds | some (.d (.lst ds)) => kFor wg wb env E ds | _ => False
theorem ds_forO (n : Nat) {x : Str} {p : Pos} {g : TG} {wg : WG} {ss : List Nat} (hp : PassesOwn (model X.prog X.w) X.A X.env X.xe) (hc : X.calm = true) (hN : X.N[n]? = some x) (hv : Vis X.env.scope x) (hd : (x == ("__debug__" : Str)) = false) (hcd : (x == ("__classdict__" : Str)) = false)
    (hg : DG X tg g wg ss) (hb : DSs X body tS wS) (hs : ∀ y, foldedSetIterable (.Name x p) X.env y = pure y := by intro _; rfl) : DS X (.For tg (.Name x p) body [] pos) (tFor (iSeq X.K (tVar n)) g tS) (wForO n wg wS) :=
  have base := ds_for (iter := .Name x p) (wI := wSeq (wVar n)) hp hc (di_seq (de_var n hN hv hd hcd)) hg hb hs
  ⟨base.ps, fun c G H env σ D E f hw L => by
    unfold wForO at hw
    split at hw
    · rename_i ds he
      obtain ⟨a, vs, e1, h1, h2, sm, f'⟩ := f.freeze he
      refine base.snd c _ H _ σ D E f' ?_ L
      show wVar n (env.set n (.d (.lst ds))) _
      unfold wVar
      rw [List.getElem?_set_self (List.getElem?_eq_some_iff.mp he).1]
      exact hw
    · rename_i ds he
      refine base.snd c G H env σ D E f ?_ L
      show wVar n env _
      unfold wVar
      rw [he]
      exact hw
    · exact hw.elim⟩
def kWhile' (wc : WT) (wb : WS) (env : List Sl) (E : DEnds) : Prop := ∃ (I : List Sl → Prop) (μ : List Sl → Nat), I env ∧
  ∀ env', I env' → wc env' fun b => match b with | true => wb env' { nx := fun e => I e ∧ μ e < μ env', rt := E.rt, bk := E.nx, ct := fun e => I e ∧ μ e < μ env' } | false => E.nx env'
@[irreducible] def wWhile (wc : WT) (wb : WS) : WS := fun env E => kWhile' wc wb env E
theorem while_i {wc : WT} {wb : WS} {env : List Sl} {E : DEnds} (h : kWhile' wc wb env E) : wWhile wc wb env E := by unfold wWhile; exact h
theorem while_e {wc : WT} {wb : WS} {env : List Sl} {E : DEnds} (h : wWhile wc wb env E) : kWhile' wc wb env E := by unfold wWhile at h; exact h
theorem ds_while (hp : PassesOwn (model X.prog X.w) X.A X.env X.xe) (hc : DT X cnd tt wt) (hb : DSs X body tS wS) : DS X (.While cnd body [] pos) (tWhile tt tS) (wWhile wt wS) := ⟨ps_while hp hc.pt hb.ps, fun c G H env σ D E f hw L => by
  obtain ⟨I, μ, h0, step⟩ := while_e hw
  refine ⟨fun m σ' H' => ∃ G' env', Fr X.K c G' H' env' σ' ∧ I env' ∧ μ env' = m, ⟨_, G, env, f, h0, rfl⟩, ?_⟩
  rintro m σ2 H2 ⟨G2, env2, f2, hI2, rfl⟩
  refine hc.snd c G2 H2 env2 σ2 _ _ f2 (step env2 hI2) fun b G3 H3 f3 g3 hq => ?_
  cases b with
  | true =>
    refine iteT ⟨fun σ' H' => ∃ m', m' < μ env2 ∧ ∃ G' env', Fr X.K c G' H' env' σ' ∧ I env' ∧ μ env' = m', fun σ' H' h => h, ?_⟩
    exact hb.snd c G3 H3 env2 σ2 _ _ f3 hq ⟨fun G' H' env' σ' f' h => ⟨μ env', h.2, G', env', f', h.1, rfl⟩, L.rt, fun G' H' env' σ' f' h => L.nx G' H' env' σ' f' h, fun G' H' env' σ' f' h => ⟨μ env', h.2, G', env', f', h.1, rfl⟩⟩
  | false => exact iteF (L.nx G3 H3 env2 σ2 f3 hq)⟩
/-! ### lists of ours are written -/
def wApp (i : Nat) (w : WE) : WS := fun env E => match env[i]? with | some (.ol ds) => w env fun d => ds.length < sizeLine ∧ E.nx (env.set i (.ol (ds ++ [d]))) | _ => False
theorem ds_append (i : Nat) {x : Str} {p apos cpos : Pos} (hv : PE X (.Name x p) (tVar i)) (ha : DE X e t w) (hs : swapsWith (.Call (.Attribute (.Name x p) "append" apos) [e] [] cpos) none pos.line X.env = pure false := by rfl)
    (hbase : attributeBase (.Name x p) "append" X.env (eval (.Name x p) X.env) = eval (.Name x p) X.env := by rfl)
    (hfew : ((backTo cpos (starEach [e] X.env)).all (fun x => !x.1) && (backToKw cpos (keywordEach [] X.env)).all (fun x => x.1.isSome)
      && decide ([e].length + ([] : List Keyword).length + (if ([] : List Keyword).isEmpty then 0 else 1) < 30)) = true := by rfl)
    (hline : (apos.endLine == cpos.line) = true := by rfl) (hse : starEach [e] X.env = (false, eval e X.env) :: starEach [] X.env := by rfl) (hplain : (backTo cpos (starEach [] X.env)).any (·.1) = false := by rfl) :
    DS X (.Expr (.Call (.Attribute (.Name x p) "append" apos) [e] [] cpos) pos) (tDrop (tBM X.K "list" rAppend (tVar i) (tCons t tNil))) (wApp i w) :=
  ⟨ps_expr (pe_bm PySem.F.plainAttrs_list PySem.F.slot_list_append PySem.F.type_list_append mt_append hv (pa_cons ha.pe pa_nil hse) hbase hfew hline hse hplain) hs, fun c G H env σ D E f hw L => by
    unfold wApp at hw
    split at hw
    · rename_i ds e1
      obtain ⟨a, vs, ea, h1, h2, h3, h4⟩ := f.getO e1
      refine ⟨.ref a, ea, .inl ⟨rfl, _, SqL.of h1⟩, ?_⟩
      refine ha.snd c G H env σ _ _ f hw fun v d G' H' f' g' r hq => ?_
      have h1' : H' a = some (.lst vs) := g'.hh _ _ h1 (f.own_ne h4)
      have h2' := RL.mono g'.gg _ _ h2
      exact ⟨a, vs, v, rfl, rfl, h1', by rw [h2.length]; exact hq.1, L.nx G' _ _ σ (f'.write e1 ea (h2'.snoc r)) hq.2⟩
    · exact hw.elim⟩
/-- x.extend(e), e a list -/
def wExt (i : Nat) (w : WE) : WS := fun env E => match env[i]? with | some (.ol ds) => w env fun d => (match d with | .lst es => ds.length + es.length ≤ sizeLine ∧ E.nx (env.set i (.ol (ds ++ es))) | _ => False) | _ => False
theorem ds_extend (i : Nat) {x : Str} {p apos cpos : Pos} (hv : PE X (.Name x p) (tVar i)) (ha : DE X e t w) (hs : swapsWith (.Call (.Attribute (.Name x p) "extend" apos) [e] [] cpos) none pos.line X.env = pure false := by rfl)
    (hbase : attributeBase (.Name x p) "extend" X.env (eval (.Name x p) X.env) = eval (.Name x p) X.env := by rfl)
    (hfew : ((backTo cpos (starEach [e] X.env)).all (fun x => !x.1) && (backToKw cpos (keywordEach [] X.env)).all (fun x => x.1.isSome)
      && decide ([e].length + ([] : List Keyword).length + (if ([] : List Keyword).isEmpty then 0 else 1) < 30)) = true := by rfl)
    (hline : (apos.endLine == cpos.line) = true := by rfl) (hse : starEach [e] X.env = (false, eval e X.env) :: starEach [] X.env := by rfl) (hplain : (backTo cpos (starEach [] X.env)).any (·.1) = false := by rfl) :
    DS X (.Expr (.Call (.Attribute (.Name x p) "extend" apos) [e] [] cpos) pos) (tDrop (tBM X.K "list" rExtend (tVar i) (tCons t tNil))) (wExt i w) :=
  ⟨ps_expr (pe_bm PySem.F.plainAttrs_list PySem.F.slot_list_extend PySem.F.type_list_extend mt_extend hv (pa_cons ha.pe pa_nil hse) hbase hfew hline hse hplain) hs, fun c G H env σ D E f hw L => by
    unfold wExt at hw
    split at hw
    · rename_i ds e1
      obtain ⟨a, vs, ea, h1, h2, h3, h4⟩ := f.getO e1
      refine ⟨.ref a, ea, .inl ⟨rfl, _, SqL.of h1⟩, ?_⟩
      refine ha.snd c G H env σ _ _ f hw fun v d G' H' f' g' r hq => ?_
      have h1' : H' a = some (.lst vs) := g'.hh _ _ h1 (f.own_ne h4)
      have h2' := RL.mono g'.gg _ _ h2
      split at hq
      · obtain ⟨b, us, rfl, e2, e3⟩ := r.lstE
        exact ⟨a, b, vs, us, rfl, rfl, h1', f'.gh _ _ e2, by rw [h2.length, e3.length]; exact hq.1, L.nx G' _ _ σ (f'.write e1 ea (h2'.append e3)) hq.2⟩
      · exact hq.elim
    · exact hw.elim⟩
/-- x[j] = e, x's list ours -/
def wIxSet (i : Nat) (wj w : WE) : WS := fun env E => match env[i]? with | some (.ol ds) => w env fun d => wj env fun k => (match k with | .int j => (match ixN ds.length j with | some n => E.nx (env.set i (.ol (ds.set n d))) | none => False) | _ => False) | _ => False
theorem RL.setI {H : Hp} {ds : List D} {vs : List V} {d : D} {v : V} (h : RL K H ds vs) (r : R K H d v) (n : Nat) : RL K H (ds.set n d) (vs.set n v) := RL.set r n h
theorem ds_ixset (i : Nat) {x : Str} {p : Pos} {ix : Expr} {tix : TE} {wix : WE} {spos : Pos} (hv : PE X (.Name x p) (tVar i)) (hj : DE X ix tix wix) (ha : DE X e t w)
    (hsub : ∀ v, assign (.Subscript (.Name x p) ix spos) X.env v = (do
      let ov ← holding [v] (eval (.Name x p) X.env)
      let iv ← holding [v, ov] (eval ix X.env)
      standAt spos
      holding [v, ov, iv] (setItem ov iv v)
      release [v, ov, iv] []) := by intro _; rfl)
    (hs : swapsWithSole [.Subscript (.Name x p) ix spos] e pos.line X.env = pure false := by rfl) (hw : swappedStores [.Subscript (.Name x p) ix spos] e X.env = pure none := by rfl) (h1 : (assignEach [.Subscript (.Name x p) ix spos] X.env).map (·.2) = [assign (.Subscript (.Name x p) ix spos) X.env] := by rfl) :
    DS X (.Assign [.Subscript (.Name x p) ix spos] e pos) (tAsg t (gSub (tVar i) tix rSetL)) (wIxSet i wix w) := ⟨ps_asg ha.pe (pg_sub hv hj.pe set_list hsub) hs hw h1, fun c G H env σ D E f hw L => by
    unfold wIxSet at hw
    split at hw
    · rename_i ds e1
      obtain ⟨a, vs, ea, h1, h2, h3, h4⟩ := f.getO e1
      refine ha.snd c G H env σ _ _ f hw fun v d G' H' f' g' r hq => ⟨.ref a, ea, ?_⟩
      refine hj.snd c G' H' env σ _ _ f' hq fun k dk G2 H2 f2 g2 rk hq2 => ?_
      have g := g'.trans g2
      have h1' : H2 a = some (.lst vs) := g.hh _ _ h1 (f.own_ne h4)
      have h2' := RL.mono g.gg _ _ h2
      split at hq2
      · rename_i j
        split at hq2
        · rename_i n hn
          refine ⟨a, vs, j, n, rfl, rk, h1', by rw [h2.length]; exact hn, L.nx G2 _ _ σ (f2.write e1 ea (h2'.setI (r.mono g2.gg) n)) hq2⟩
        · exact hq2.elim
      · exact hq2.elim
    · exact hw.elim⟩
/-- x += e of ints (texts) -/
def wAug (i : Nat) (wo : WO) (w : WE) : WS := fun env E => match env[i]? with | some (.d d) => w env fun z => wo d z fun r => E.nx (env.set i (.d r)) | _ => False
def wAddI : WO := fun d e q => match d, e with | .int i, .int j => q (.int (i + j)) | .str s, .str t => s.length + t.length ≤ sizeLine ∧ q (.str (s ++ t)) | _, _ => False
def rIAdd : R2 := fun x y H Q => (rI0 (fun i j => .int (i + j))) x y H Q ∨ (fun x y (H : Hp) (Q : VK) => ∃ i j, x = .str i ∧ y = .str j ∧ i.length + j.length ≤ sizeLine ∧ Q (.str (i ++ j)) H) x y H Q
theorem ip_addU : PIp X .Add rIAdd := (iop_add.or iop_add_str : OpR X (inplaceOp .Add) _)
theorem so_addI : SndO K rIAdd wAddI := fun c G H env σ x y d e Q q f hx hy hw k => by
  unfold wAddI at hw
  split at hw
  · exact .inl ⟨_, _, hx.int, hy.int, k _ _ G H f (Gr.refl f) R.int_ hw⟩
  · exact .inr ⟨_, _, hx.str, hy.str, hw.1, k _ _ G H f (Gr.refl f) R.str_ hw.2⟩
  · exact hw.elim
theorem ds_aug {i : Nat} {x : Str} {p : Pos} (hN : X.N.Nodup) (hi : X.N[i]? = some x) (hx : Loc X.env.scope x) (h : DE X e t w) (hf : X.fn x = true ∨ X.env.scope.names.lookup x = some .local := by first | exact .inl rfl | exact .inr rfl | assumption) :
    DS X (.AugAssign (.Name x p) .Add e pos) (tAug i t rIAdd) (wAug i wAddI w) := ⟨ps_aug hN hi hx h.pe ip_addU hf, fun c G H env σ D E f hw L => by
    unfold wAug at hw
    split at hw
    · rename_i d e1
      obtain ⟨v, ev, r⟩ := f.getD e1
      refine ⟨v, ev, h.snd c G H env σ _ _ f hw fun u z G' H' f' g' ru hq => ?_⟩
      exact so_addI c G' H' env σ v u d z _ _ f' (.of f'.gh (r.mono g'.gg)) (.of f'.gh ru) hq fun y z2 G2 H2 f2 g2 r2 hq2 => L.nx G2 H2 _ _ (f2.setD i r2) hq2
    · exact hw.elim⟩
end

/-! ### a def -/
def env0 (n : Nat) (ds : List D) : List Sl := ds.map Sl.d ++ List.replicate (n - ds.length) .no
theorem fr_start {K : PySem.W.Frag} {G H : Hp} {ds : List D} {vs : List V} (N : List Str) (s : Same G H) (r : RL K G ds vs) (hl : ds.length ≤ N.length) : Fr K ⟨G, H, none⟩ G H (env0 N.length ds) (L2.start N vs) := by
  have hv := r.length
  refine ⟨fun a o h _ => h, Same.refl G, s, fun _ _ _ n => n, fun a e => (nomatch e), fun a e => (nomatch e), ?_, fun i sl o h1 h2 => ?_, fun i j a si sj oi oj h1 h2 h3 h4 h5 h6 => ?_⟩
  · unfold env0 L2.start
    rw [List.length_append, List.length_append, List.length_map, List.length_map, List.length_replicate, List.length_replicate, hv]
  · unfold env0 at h1
    unfold L2.start at h2
    by_cases hi : i < ds.length
    · rw [List.getElem?_append_left (by rw [List.length_map]; exact hi), List.getElem?_map, List.getElem?_eq_getElem hi] at h1
      rw [List.getElem?_append_left (by rw [List.length_map, hv]; exact hi), List.getElem?_map] at h2
      obtain ⟨v, g1, g2⟩ := r.get (List.getElem?_eq_getElem hi)
      rw [g1] at h2
      cases h1; cases h2
      exact ⟨v, rfl, g2⟩
    · rw [List.getElem?_append_right (by rw [List.length_map]; omega), List.getElem?_replicate] at h1
      split at h1
      · cases h1; trivial
      · cases h1
  · have no : ∀ (i : Nat) (si : Sl) (oi : Option V), (env0 N.length ds)[i]? = some si → a ∉ ownL si oi := by
      intro i si oi h
      unfold env0 at h
      by_cases hi : i < ds.length
      · rw [List.getElem?_append_left (by rw [List.length_map]; exact hi), List.getElem?_map, List.getElem?_eq_getElem hi] at h
        cases h
        intro z; cases z
      · rw [List.getElem?_append_right (by rw [List.length_map]; omega), List.getElem?_replicate] at h
        split at h
        · cases h; intro z; cases z
        · cases h
    exact absurd h5 (no i si oi h1)
section
variable {P : Program} {w : World} {K : PySem.W.Frag} {mg : Str → Option Value} {base : Heap}
theorem fn_d {x qual : Str} {st : Stmt} {f : Addr} {fd : FuncData} {N ps : List Str} {k : Nat} {W : List D → (D → Prop) → Prop} (F : Fun K x qual st f fd) (S : FnScope N ps (defScope st)) (hW : ∀ ds q, W ds q → ds.length = ps.length)
    (h : ∀ (cdv : Value) (A : Around) (outer : List Env) (s : Shared) (H : Hp) (E : XK), Room k (A.deeper (PyProof.Rows.envOfC qual (defScope st) s.heap.objs.size f cdv)) →
      ∃ t wS, DSs (cxOf CX0 P w K mg base N qual (defScope st) f cdv A outer s H E).nox (defBody st) t wS ∧ ∀ ds q, W ds q → wS (env0 N.length ds) { nx := fun _ => q .non, rt := q }) : FnOk P w K mg base CX0 (k + 1) f fd ps (spD K W) := by
  refine F.ok S (fun vs H Q E hsp => ?_) (fun cdv A outer s H vs Q E hr hsp => ?_)
  · obtain ⟨G, ds, q, _, r, hw, _⟩ := hsp
    rw [r.length]; exact hW ds q hw
  · obtain ⟨G, ds, q, sg, r, hw, fin⟩ := hsp
    obtain ⟨t, wS, D, hD⟩ := h cdv A outer s H E hr
    refine ⟨t, D.ps, ?_⟩
    have hl : ds.length ≤ N.length := by
      rw [hW ds q hw]
      have := congrArg List.length S.pre
      rw [List.length_take] at this
      omega
    have f0 := fr_start N sg r hl
    exact D.snd _ G H _ _ _ _ f0 (hD ds q hw) ⟨fun G' H' env σ f' hq => fin _ _ G' H' (fun a o e => f'.hb a o e (by intro z; cases z)) f'.gg f'.gh f'.old R.non_ hq,
      fun v d G' H' env σ f' r' hq => fin v d G' H' (fun a o e => f'.hb a o e (by intro z; cases z)) f'.gg f'.gh f'.old r' hq, fun _ _ _ _ _ z => z.elim, fun _ _ _ _ _ z => z.elim⟩
/-- a def whose first argument is the draw -/
def envR (n : Nat) (ds : List D) : List Sl := .dr :: (ds.map Sl.d ++ List.replicate (n - 1 - ds.length) .no)
theorem fr_startR {K : PySem.W.Frag} {G H : Hp} {a : Addr} {ds : List D} {vs : List V} (N : List Str) (s : Same G H) (dr : DrC K G H a) (r : RL K G ds vs) (hl : ds.length + 1 ≤ N.length) : Fr K ⟨G, H, some a⟩ G H (envR N.length ds) (L2.start N (.ref a :: vs)) := by
  have hv := r.length
  obtain ⟨n0, s0, k0, ns0, hda, _⟩ := id dr
  have es : L2.start N (.ref a :: vs) = some (V.ref a) :: (vs.map some ++ List.replicate (N.length - 1 - vs.length) none) := by
    unfold L2.start
    rw [List.map_cons, List.cons_append, List.length_cons]
    congr 3
    omega
  rw [es]
  refine ⟨fun a o h _ => h, Same.refl G, s, fun _ _ _ n => n, fun b e => (by cases e; exact ⟨_, hda⟩), fun b e => (by cases e; exact dr), ?_, fun i sl o h1 h2 => ?_, fun i j b si sj oi oj h1 h2 h3 h4 h5 h6 => ?_⟩
  · unfold envR
    rw [List.length_cons, List.length_cons, List.length_append, List.length_append, List.length_map, List.length_map, List.length_replicate, List.length_replicate, hv]
  · unfold envR at h1
    cases i with
    | zero => cases h1; cases h2; exact ⟨a, rfl, rfl⟩
    | succ i =>
      rw [List.getElem?_cons_succ] at h1 h2
      by_cases hi : i < ds.length
      · rw [List.getElem?_append_left (by rw [List.length_map]; exact hi), List.getElem?_map, List.getElem?_eq_getElem hi] at h1
        rw [List.getElem?_append_left (by rw [List.length_map, hv]; exact hi), List.getElem?_map] at h2
        obtain ⟨v, g1, g2⟩ := r.get (List.getElem?_eq_getElem hi)
        rw [g1] at h2
        cases h1; cases h2
        exact ⟨v, rfl, g2⟩
      · rw [List.getElem?_append_right (by rw [List.length_map]; omega), List.getElem?_replicate] at h1
        split at h1
        · cases h1; trivial
        · cases h1
  · have no : ∀ (i : Nat) (si : Sl) (oi : Option V), (envR N.length ds)[i]? = some si → b ∉ ownL si oi := by
      intro i si oi h
      unfold envR at h
      cases i with
      | zero => cases h; intro z; cases z
      | succ i =>
        rw [List.getElem?_cons_succ] at h
        by_cases hi : i < ds.length
        · rw [List.getElem?_append_left (by rw [List.length_map]; exact hi), List.getElem?_map, List.getElem?_eq_getElem hi] at h
          cases h
          intro z; cases z
        · rw [List.getElem?_append_right (by rw [List.length_map]; omega), List.getElem?_replicate] at h
          split at h
          · cases h; intro z; cases z
          · cases h
    exact absurd h5 (no i si oi h1)
theorem fn_r {x qual : Str} {st : Stmt} {f : Addr} {fd : FuncData} {N ps : List Str} {k : Nat} {W : List D → (D → Prop) → Prop} (F : Fun K x qual st f fd) (S : FnScope N ps (defScope st)) (hW : ∀ ds q, W ds q → ds.length + 1 = ps.length)
    (h : ∀ (cdv : Value) (A : Around) (outer : List Env) (s : Shared) (H : Hp) (E : XK), Room k (A.deeper (PyProof.Rows.envOfC qual (defScope st) s.heap.objs.size f cdv)) →
      ∃ t wS, DSs (cxOf CX0 P w K mg base N qual (defScope st) f cdv A outer s H E).nox (defBody st) t wS ∧ ∀ ds q, W ds q → wS (envR N.length ds) { nx := fun _ => q .non, rt := q }) : FnOk P w K mg base CX0 (k + 1) f fd ps (spR K W) := by
  refine F.ok S (fun vs H Q E hsp => ?_) (fun cdv A outer s H vs Q E hr hsp => ?_)
  · obtain ⟨G, a, us, ds, q, rfl, _, _, r, hw, _⟩ := hsp
    rw [List.length_cons, r.length]; exact hW ds q hw
  · obtain ⟨G, a, us, ds, q, rfl, sg, dr, r, hw, fin⟩ := hsp
    obtain ⟨t, wS, D, hD⟩ := h cdv A outer s H E hr
    refine ⟨t, D.ps, ?_⟩
    have hl : ds.length + 1 ≤ N.length := by
      rw [hW ds q hw]
      have := congrArg List.length S.pre
      rw [List.length_take] at this
      omega
    have f0 := fr_startR N sg dr r hl
    have hh : ∀ {G' H' : Hp} {env : List Sl} {σ : L2.St}, Fr K ⟨G, H, some a⟩ G' H' env σ → ∀ b o, H b = some o → b ≠ a → H' b = some o := fun f' b o e n => f'.hb b o e (by intro z; cases z; exact n rfl)
    exact D.snd _ G H _ _ _ _ f0 (hD ds q hw) ⟨fun G' H' env σ f' hq => fin _ _ G' H' (hh f') f'.gg f'.gh f'.old (f'.dr a rfl) R.non_ hq,
      fun v d G' H' env σ f' r' hq => fin v d G' H' (hh f') f'.gg f'.gh f'.old (f'.dr a rfl) r' hq, fun _ _ _ _ _ z => z.elim, fun _ _ _ _ _ z => z.elim⟩
end
end Y

namespace Y
open PySem L2 PyProof.Rows
/-! ### a def of one tuple that a sort calls: (0, 0) if its first item is None, else (1, that item) -/
def lowKey (o : Option Int) : PyData := match o with | none => .tuple [.int 0, .int 0] | some i => .tuple [.int 1, .int i]
/-- v is a tuple whose first item is o -/
def FirstIs (h : Heap) (v : Value) (o : Option Int) : Prop := ∃ t its, v = .ref t ∧ IsTup h t its ∧ (match o with | none => its[0]? = some Value.none | some i => ∃ k, its[0]? = some (Value.int i k))
theorem isTup_keep {h h' : Heap} {t : Addr} {its : Array Value} (k : ∀ b o, h.get? b = some o → h'.get? b = some o) (x : IsTup h t its) : IsTup h' t its := by
  obtain ⟨o, e, c, n, d⟩ := x
  exact ⟨o, k _ _ e, c, n, d⟩
theorem FirstIs.keep {h h' : Heap} {v : Value} {o : Option Int} (k : ∀ b o, h.get? b = some o → h'.get? b = some o) (x : FirstIs h v o) : FirstIs h' v o := by
  obtain ⟨t, its, e, a, b⟩ := x
  exact ⟨t, its, e, isTup_keep k a, b⟩
section
variable {P : Program} {w : World} {K : PySem.W.Frag} {A : Around} {E : Value → Shared → Prop} {s : Shared} {env : Env} {t : Addr} {its : Array Value} {v : Value} {p p2 p3 : Pos} {j : Nat}
theorem low_sub {Q : Value → Shared → Prop} (hk : env.scope.kind = .function) (hl : env.kindOf "pair" = some .local) (hn : s.heap.Ns env.locals (fun y => if y = "pair" then some (Value.ref t) else none)) (ht : IsTup s.heap t its) (h0 : its[0]? = some v)
    (h : ∀ tk, Q v { s with toks := tk }) : wpAny (model P w) A (eval (.Subscript (.Name "pair" p) (.Constant (.int 0) j p2) p3) env) Q E s := by
  refine Subscript_ (wpAny_Name (wpAny_loadName_local hk hl hn (if_pos rfl) (wpAny_Constant_int ?_)))
  have hs : 0 < its.size := by
    rcases Nat.lt_or_ge 0 its.size with h | h
    · exact h
    · rw [Array.getElem?_eq_none (by omega)] at h0; cases h0
  refine item_tuple (k := 0) (j := 0) (isTup_keep (fun _ _ e => e) ht) (by decide) (by decide) ?_ h0 (h _)
  have e : seqIndex? 0 its.size = some 0 := by
    unfold seqIndex?
    have h1 : ((0 : Int) < (its.size : Int)) := by omega
    simp only [show ¬((0:Int) < 0) from by decide, if_false, decide_eq_true h1, show decide ((0:Int) ≤ 0) = true from rfl, Bool.and_self, if_true]
    rfl
  exact e
end
section
variable {P : Program} {w : World} {K : PySem.W.Frag}
abbrev lowBody (p1 p2 p3 p4 p5 p6 p7 p8 p9 p10 p11 p12 p13 p14 p15 : Pos) (j1 j2 j3 j4 j5 j6 k1 k2 : Nat) : List Stmt := [.Return (some (.IfExp (.Compare (.Subscript (.Name "pair" p1) (.Constant (.int 0) j1 p2) p3) [.Is] [.Constant .none j2 p4] p5) (.Tuple [.Constant (.int 0) j3 p6, .Constant (.int 0) j4 p7] k1 p8) (.Tuple [.Constant (.int 1) j5 p9, .Subscript (.Name "pair" p10) (.Constant (.int 0) j6 p11) p12] k2 p13) p14)) p15]
theorem low_pure {f : Addr} {x qual : Str} {params : Arguments} {scope : Scope} {dV kV doc pm cdv ct oc : Value} {an od : Option Addr} {osl : Array (Option Value)} {A : Around} {s : Shared} {v : Value} {o : Option Int}
    {p1 p2 p3 p4 p5 p6 p7 p8 p9 p10 p11 p12 p13 p14 p15 : Pos} {j1 j2 j3 j4 j5 j6 k1 k2 : Nat}
    (lk : K.lookup f = some ⟨oc, od, .func (PySem.W.fnOf x qual params (lowBody p1 p2 p3 p4 p5 p6 p7 p8 p9 p10 p11 p12 p13 p14 p15 j1 j2 j3 j4 j5 j6 k1 k2) scope dV kV doc pm an cdv ct), osl⟩)
    (hcd : PySem.W.codeIn K cdv qual = true) (hk : scope.kind = .function) (hco : scope.isCoroutine = false) (hgen : scope.isGenerator = false) (hnm : scope.names = [(("pair" : Str), .local)])
    (hb : bindArgs (PySem.W.fnOf x qual params (lowBody p1 p2 p3 p4 p5 p6 p7 p8 p9 p10 p11 p12 p13 p14 p15 j1 j2 j3 j4 j5 j6 k1 k2) scope dV kV doc pm an cdv ct) ⟨[v], []⟩ = pure [(("pair" : Str), v)])
    (hd : A.depth < recursionLimit) (KX : K.In s.heap) (lim : s.heap.NoLimit) (hv : FirstIs s.heap v o) :
    wpAny (model P w) A (call (.ref f) [v]) (PySem.W.KeyPure (lowKey o) s) (fun _ _ => False) s := by
  obtain ⟨t, its, rfl, ht, ho⟩ := hv
  refine wpAny_call (codeAny_call_function hd (KX _ _ lk) rfl hco hgen rfl (PySem.W.codeRec_of KX hcd) ?_)
  rw [hb]
  refine wpAny_pure ?_
  refine wpAny_newFunctionEnv (by rw [show (PySem.W.fnOf x qual params (lowBody p1 p2 p3 p4 p5 p6 p7 p8 p9 p10 p11 p12 p13 p14 p15 j1 j2 j3 j4 j5 j6 k1 k2) scope dV kV doc pm an cdv ct).scope = scope from rfl, hnm]; decide) (by rw [show (PySem.W.fnOf x qual params (lowBody p1 p2 p3 p4 p5 p6 p7 p8 p9 p10 p11 p12 p13 p14 p15 j1 j2 j3 j4 j5 j6 k1 k2) scope dV kV doc pm an cdv ct).scope = scope from rfl, hnm]; intro x hx; rw [List.mem_singleton] at hx; subst hx; rfl) (fun h1 hns sb => ?_) hk
  have kp : ∀ b o, s.heap.get? b = some o → h1.get? b = some o := fun b o e => by
    rw [sb.2 b (Nat.ne_of_lt (Heap.lt_size e))]
    exact Heap.get?_push_of_some _ e
  refine ⟨lim.keeps kp, codeAny_func ?_⟩
  have hns' : h1.Ns s.heap.objs.size (fun y => if y = "pair" then some (Value.ref t) else none) := by
    have e : (fun y => ([(("pair" : Str), Value.ref t)].reverse).lookup y) = (fun y : Str => if y = "pair" then some (Value.ref t) else none) := by
      funext y
      show (List.lookup y [(("pair" : Str), Value.ref t)]) = _
      by_cases h : y = "pair"
      · subst h; rfl
      · rw [if_neg h]
        show (match y == "pair" with | true => some (Value.ref t) | false => none) = none
        rw [show (y == "pair") = false from by simpa using h]
    rw [← e]; exact hns
  have ht1 := isTup_keep kp ht
  have hl : Env.kindOf (newEnv (PySem.W.fnOf x qual params (lowBody p1 p2 p3 p4 p5 p6 p7 p8 p9 p10 p11 p12 p13 p14 p15 j1 j2 j3 j4 j5 j6 k1 k2) scope dV kV doc pm an cdv ct).scope s.heap.objs.size mainGlobals [] (qual ++ ".<locals>.") (some f) cdv none 0) "pair" = some .local := by
    show scope.names.lookup ("pair" : Str) = some .local
    rw [hnm]; rfl
  have push : ∀ (b : Addr) (ob nb : Obj), h1.get? b = some ob → (h1.push nb).get? b = some ob := fun b ob nb e => Heap.get?_push_of_some _ e
  refine wpAny_execs_cons (wpAny_Return_some (wpAny_IfExp (wpAny_isTrue_Compare1 ?_)))
  cases o with
  | none =>
    refine low_sub hk hl hns' ht1 ho fun tk1 => wpAny_Constant_none (is_none_gen (wpAny_truthy_bool ?_))
    refine wpAny_Tuple (wpAny_items_cons (wpAny_Constant_int (wpAny_items_cons (wpAny_Constant_int (wpAny_items_nil ⟨by show 2 ≤ sizeLine; decide, ?_⟩)))))
    exact ⟨_, _, rfl, fun b ob e => push _ _ _ (kp b ob e), .tuple (Heap.get?_push_size _ rfl) rfl rfl (.cons (.int 0 _) (.cons (.int 0 _) .nil))⟩
  | some i =>
    obtain ⟨k, ho⟩ := ho
    refine low_sub hk hl hns' ht1 ho fun tk1 => wpAny_Constant_none (is_none_gen (wpAny_truthy_bool ?_))
    refine wpAny_Tuple (wpAny_items_cons (wpAny_Constant_int (wpAny_items_cons (low_sub hk hl hns' ht1 ho fun tk2 => (wpAny_items_nil ⟨by show 2 ≤ sizeLine; decide, ?_⟩)))))
    exact ⟨_, _, rfl, fun b ob e => push _ _ _ (kp b ob e), .tuple (Heap.get?_push_size _ rfl) rfl rfl (.cons (.int 1 _) (.cons (.int i _) .nil))⟩
end

/-! ### sorted(xs, key=low_of) -/
def kA (o : Option Int) : Int := match o with | none => 0 | some _ => 1
def kB (o : Option Int) : Int := match o with | none => 0 | some i => i
theorem lowKey_eq (o : Option Int) : lowKey o = .tuple [.int (kA o), .int (kB o)] := by cases o <;> rfl
def kLe (o u : Option Int) : Prop := kA o < kA u ∨ (kA o = kA u ∧ kB o ≤ kB u)
def rSortLow (K : PySem.W.Frag) (f : Addr) : List V → List V → Hp → VK → Prop := fun vs zs H Q => ∃ (a : Addr) (β : Type) (bs : List β) (fv : β → V) (fk : β → Option Int), vs = [.ref a] ∧ zs = [.ref f] ∧ SqL K H a (bs.map fv) ∧
  (∀ b ∈ bs, ∃ t x xs, fv b = .ref t ∧ SqT K H t (x :: xs) ∧ (match fk b with | none => x = .non | some i => x = .int i)) ∧
  ∀ (bs' : List β) (p : Addr), bs'.Perm bs → bs'.Pairwise (fun x y => kLe (fk x) (fk y)) → H p = none → Q (.ref p) (upd H p (.lst (bs'.map fv)))
theorem valsZip {β : Type} (fv : β → V) : ∀ (bs : List β) (us : List Value), Vals (bs.map fv) us → ∃ ts : List (Value × β), us = ts.map (·.1) ∧ bs = ts.map (·.2) ∧ ∀ t ∈ ts, RelV (fv t.2) t.1
  | [], us, h => by cases h; exact ⟨[], rfl, rfl, fun t ht => absurd ht List.not_mem_nil⟩
  | b :: bs, us, h => by
    cases h with
    | cons r t =>
      obtain ⟨ts, e1, e2, e3⟩ := valsZip fv bs _ t
      refine ⟨(_, b) :: ts, by rw [e1]; rfl, by rw [List.map_cons, ← e2], fun t ht => ?_⟩
      rcases List.mem_cons.mp ht with rfl | ht
      · exact r
      · exact e3 t ht
theorem eachIs_map {β : Type} {R : Value → β → Prop} (fu : β → Value) : ∀ bs : List β, (∀ b ∈ bs, R (fu b) b) → PySem.W.EachIs R (bs.map fu) bs
  | [], _ => .nil
  | b :: bs, h => .cons (h b List.mem_cons_self) (eachIs_map fu bs fun x hx => h x (List.mem_cons_of_mem _ hx))
theorem eachIs_eq {β : Type} {fu : β → Value} {S : β → Prop} : ∀ {us : List Value} {bs : List β}, PySem.W.EachIs (fun v b => v = fu b ∧ S b) us bs → us = bs.map fu
  | _, _, .nil => rfl
  | _, _, .cons h t => by rw [h.1, eachIs_eq t]; rfl
section
variable {X : Cx} {pos : Pos}
theorem cr_sortLow {f : Addr} {x qual : Str} {params : Arguments} {scope : Scope} {dV kV doc pm cdv ct oc : Value} {an od : Option Addr} {osl : Array (Option Value)}
    {p1 p2 p3 p4 p5 p6 p7 p8 p9 p10 p11 p12 p13 p14 p15 : Pos} {j1 j2 j3 j4 j5 j6 k1 k2 : Nat}
    (lk : X.K.lookup f = some ⟨oc, od, .func (PySem.W.fnOf x qual params (lowBody p1 p2 p3 p4 p5 p6 p7 p8 p9 p10 p11 p12 p13 p14 p15 j1 j2 j3 j4 j5 j6 k1 k2) scope dV kV doc pm an cdv ct), osl⟩)
    (hcd : PySem.W.codeIn X.K cdv qual = true) (hk : scope.kind = .function) (hco : scope.isCoroutine = false) (hgen : scope.isGenerator = false) (hnm : scope.names = [(("pair" : Str), .local)])
    (hb : ∀ v, bindArgs (PySem.W.fnOf x qual params (lowBody p1 p2 p3 p4 p5 p6 p7 p8 p9 p10 p11 p12 p13 p14 p15 j1 j2 j3 j4 j5 j6 k1 k2) scope dV kV doc pm an cdv ct) ⟨[v], []⟩ = pure [(("pair" : Str), v)])
    {k : Nat} (hr : Room k X.A) : CallRK X (.builtin "sorted") [Str.ofString "key"] (rSortLow X.K f) := by
  intro pins s σ H vs zs us ws Q I r rz h
  obtain ⟨a, β, bs, fv, fk, rfl, rfl, hs, hit, q⟩ := h
  obtain rfl := Vals.ref1 r
  obtain ⟨w1, rfl, e1⟩ := vals1 rz
  obtain rfl : w1 = Value.ref f := e1
  obtain ⟨its, rv, hl, hz⟩ := I.list hs
  obtain ⟨ts, rfl, rfl, hts⟩ := valsZip fv bs its rv
  have hz' : ts.length ≤ sizeLine := by simpa using hz
  have hfst : ∀ b ∈ ts, FirstIs s.heap b.1 (fk b.2) := by
    intro b hm
    obtain ⟨t, y, ys, ev, ht, hy⟩ := hit b.2 (List.mem_map_of_mem hm)
    have r1 := hts b hm
    rw [ev] at r1
    obtain ⟨its', r', pl, _⟩ := I.tuple ht
    cases r' with
    | cons ry _ =>
      refine ⟨t, _, r1, pl, ?_⟩
      split <;> rename_i e <;> rw [e] at hy
      · subst hy
        rw [show _ = Value.none from ry]; rfl
      · subst hy
        obtain ⟨k, rfl⟩ := ry
        exact ⟨k, rfl⟩
  refine PySem.W.sorted_key_data (b := false) (R := fun v b => v = b.1 ∧ (RelV (fv b.2) b.1 ∧ FirstIs s.heap b.1 (fk b.2))) (bs := ts) (fun b : Value × β => lowKey (fk b.2)) hl.isList (eachIs_map (·.1) ts fun b hm => ⟨rfl, hts b hm, hfst b hm⟩) (PySem.W.AllAlike.of fun b b' => ?_) (PySem.W.Sortable.tuples fun b => by rw [lowKey_eq]; exact ⟨_, _, rfl⟩) hz' (fun b _ => ?_)
    (PyProof.Rows.ksk_s1 _ _) (fun _ => PyProof.Rows.ksk_l1 _ _) (fun _ => PyProof.Rows.ksk_t1 _ _) (fun v b hR hm h1 tk kp => ?_) fun out c h' tk kp hn hD hlen eo => ?_
  · rw [lowKey_eq, lowKey_eq]
    simp [PySem.W.alike, PySem.W.alikeAll]
  · have hd : (lowKey (fk b.2)).depth = 1 := by rw [lowKey_eq]; simp [PyData.depth, PyData.depthAll]
    have := hr.units
    show X.A.units + 2 + (lowKey (fk b.2)).depth < cLine
    omega
  · obtain ⟨rfl, _, h2⟩ := hR
    exact low_pure lk hcd hk hco hgen hnm (hb _) hr.depth (I.kIn.keeps kp) (I.ok.mod.nolimit.keeps fun b o e => kp b o (I.bk b o e)) (h2.keep kp)
  · have le : (fun b : Value × β => lowKey (fk b.2)) = fun b => .tuple [.int (kA (fk b.2)), .int (kB (fk b.2))] := by funext b; rw [lowKey_eq]
    rw [le, PySem.W.dataLe_ii] at eo
    have tl : ∀ b b' : Value × β, (decide (kA (fk b.2) < kA (fk b'.2) ∨ (kA (fk b.2) = kA (fk b'.2) ∧ kB (fk b.2) ≤ kB (fk b'.2))) || decide (kA (fk b'.2) < kA (fk b.2) ∨ (kA (fk b'.2) = kA (fk b.2) ∧ kB (fk b'.2) ≤ kB (fk b.2)))) = true := by
      intro b b'
      rw [Bool.or_eq_true, decide_eq_true_eq, decide_eq_true_eq]
      omega
    have tr : ∀ b b' b'' : Value × β, decide (kA (fk b.2) < kA (fk b'.2) ∨ (kA (fk b.2) = kA (fk b'.2) ∧ kB (fk b.2) ≤ kB (fk b'.2))) = true → decide (kA (fk b'.2) < kA (fk b''.2) ∨ (kA (fk b'.2) = kA (fk b''.2) ∧ kB (fk b'.2) ≤ kB (fk b''.2))) = true → decide (kA (fk b.2) < kA (fk b''.2) ∨ (kA (fk b.2) = kA (fk b''.2) ∧ kB (fk b.2) ≤ kB (fk b''.2))) = true := by
      intro b b' b''
      rw [decide_eq_true_eq, decide_eq_true_eq, decide_eq_true_eq]
      omega
    have hp := List.mergeSort_perm ts (fun p q => decide (kA (fk p.2) < kA (fk q.2) ∨ (kA (fk p.2) = kA (fk q.2) ∧ kB (fk p.2) ≤ kB (fk q.2))))
    have hw := List.pairwise_mergeSort (le := fun p q : Value × β => decide (kA (fk p.2) < kA (fk q.2) ∨ (kA (fk p.2) = kA (fk q.2) ∧ kB (fk p.2) ≤ kB (fk q.2)))) tr tl ts
    generalize (ts.mergeSort fun p q => decide (kA (fk p.2) < kA (fk q.2) ∨ (kA (fk p.2) = kA (fk q.2) ∧ kB (fk p.2) ≤ kB (fk q.2)))) = ts' at eo hp hw
    have eu := eachIs_eq eo
    subst eu
    have hv : ∀ l : List (Value × β), (∀ t ∈ l, RelV (fv t.2) t.1) → Vals ((l.map (·.2)).map fv) (l.map (·.1)) := by
      intro l
      induction l with
      | nil => intro _; exact .nil
      | cons b l ih => intro h; exact .cons (h b List.mem_cons_self) (ih fun x hx => h x (List.mem_cons_of_mem _ hx))
    have hl2 : ((ts'.map (·.2)).map fv).length ≤ sizeLine := by rw [List.length_map, List.length_map, hp.length_eq]; exact hz'
    have hw' : (ts'.map (·.2)).Pairwise (fun x y => kLe (fk x) (fk y)) := by
      refine List.pairwise_map.mpr (hw.imp ?_)
      intro x y h
      rw [decide_eq_true_eq] at h
      exact h
    exact ⟨.ref _, upd H (s.heap.objs.size + 1) (.lst ((ts'.map (·.2)).map fv)), I.laid (t' := tk) kp (Nat.le_succ _) ⟨hl2, _, c, hv ts' fun t ht => hts t (hp.mem_iff.mp ht), hD⟩, rfl, q _ _ (hp.map _) hw' (I.hok.fresh (Nat.le_succ _))⟩
end
/-- the pair's first item -/
def fst? (d : D) : Option Int := match d with | .tup (.int i :: _) => some i | _ => none
def isPr (d : D) : Prop := ∃ x r, d = .tup (x :: r) ∧ (x = .non ∨ ∃ i, x = .int i)
def wSortLow (w : WE) : WA := fun env q => w env fun d => match d with | .lst ds => (∀ z ∈ ds, isPr z) ∧ ∀ ds' : List D, ds'.Perm ds → ds'.Pairwise (fun x y => kLe (fst? x) (fst? y)) → q ds' | _ => False
theorem RL.zip {K : PySem.W.Frag} {G : Hp} : ∀ {ds : List D} {vs : List V}, RL K G ds vs → ∃ bs : List (V × D), vs = bs.map (·.1) ∧ ds = bs.map (·.2) ∧ ∀ b ∈ bs, R K G b.2 b.1
  | [], vs, h => ⟨[], h.nilE, rfl, fun b hb => absurd hb List.not_mem_nil⟩
  | d :: ds, vs, h => by
    obtain ⟨v, r, rfl, h1, h2⟩ := h.consE
    obtain ⟨bs, e1, e2, e3⟩ := RL.zip h2
    refine ⟨(v, d) :: bs, by rw [e1]; rfl, by rw [e2]; rfl, fun b hb => ?_⟩
    rcases List.mem_cons.mp hb with rfl | hb
    · exact h1
    · exact e3 b hb
theorem RL.unzip {K : PySem.W.Frag} {G : Hp} : ∀ bs : List (V × D), (∀ b ∈ bs, R K G b.2 b.1) → RL K G (bs.map (·.2)) (bs.map (·.1))
  | [], _ => .nil
  | b :: bs, h => .cons (h b List.mem_cons_self) (RL.unzip bs fun x hx => h x (List.mem_cons_of_mem _ hx))
section
variable {X : Cx} {e : Expr} {t : TE} {w : WE} {pos p p0 pk : Pos} {fx : Str} {f : Addr}
theorem dn_sortLow (hc : CallRK X (.builtin "sorted") [Str.ofString "key"] (rSortLow X.K f)) (hg : Gl X "sorted") (hm : X.mg "sorted" = none) (hgf : Gl X fx) (hmf : X.mg fx = some (.ref f)) (hdf : (fx == ("__debug__" : Str)) = false) (ha : DE X e t w)
    (he : backTo pos (starEach [e] X.env) = (false, eval e X.env) :: backTo pos (starEach [] X.env) := by rfl) (hpl : (backTo pos (starEach [e] X.env)).any (·.1) = false := by rfl) (hs : starEach [e] X.env = (false, eval e X.env) :: starEach [] X.env := by rfl)
    (hall : (backToKw pos (keywordEach [⟨some (Str.ofString "key"), .Name fx p0, pk⟩] X.env)).all (·.1.isSome) = true := by rfl) (hnone : (backToKw pos (keywordEach [⟨some (Str.ofString "key"), .Name fx p0, pk⟩] X.env)).any (·.1.isNone) = false := by rfl) (hks : (backToKw pos (keywordEach [⟨some (Str.ofString "key"), .Name fx p0, pk⟩] X.env)).filterMap (·.1) = [Str.ofString "key"] := by rfl) :
    DN X (.Call (.Name "sorted" p) [e] [⟨some (Str.ofString "key"), .Name fx p0, pk⟩] pos) (tCKw (rSortLow X.K f) (tCons t tNil) (tCons (tC (.ref f)) tNil)) (wSortLow w) :=
  ⟨pe_callBK hc hg hm (by with_unfolding_all rfl) (pa_cons ha.pe pa_nil hs) (pk_cons (pe_glob hgf hmf rfl hdf) pk_nil) (by decide) (by decide) he hpl hall hnone hks, fun c G H env σ Q q fr hw k => by
    refine ha.snd c G H env σ _ _ fr hw fun v d G1 H1 f1 s1 r1 hq => ?_
    split at hq
    · rename_i ds
      obtain ⟨hp, hq⟩ := hq
      obtain ⟨a, vs, rfl, h1, h2⟩ := r1.lstE
      obtain ⟨bs, rfl, rfl, hb⟩ := h2.zip
      refine ⟨a, V × D, bs, (·.1), fun b => fst? b.2, rfl, rfl, SqL.of (f1.gh _ _ h1), fun b hm => ?_, fun bs' p hpm hpw hn => ?_⟩
      · obtain ⟨x, r, e1, e2⟩ := hp b.2 (List.mem_map_of_mem hm)
        have rb := hb b hm
        rw [e1] at rb
        obtain ⟨t, us, e3, h3, h4⟩ := rb.tupE
        obtain ⟨u, us', rfl, h5, h6⟩ := h4.consE
        refine ⟨t, u, us', e3, sqt_same f1.gh h3, ?_⟩
        show match fst? b.2 with | none => u = V.non | some i => u = V.int i
        rw [e1]
        rcases e2 with rfl | ⟨i, rfl⟩
        · exact h5
        · exact h5
      · have g := f1.newH (o := .lst (bs'.map (·.1))) hn
        exact k p _ (bs'.map (·.2)) G1 _ (f1.step g) (s1.trans g) upd_same (RL.unzip bs' fun b hm => hb b (hpm.mem_iff.mp hm)) (f1.gnone hn) (f1.h0none hn) (s1.fresh hn) (f1.noOwn hn) (hq _ (hpm.map _) (List.pairwise_map.mpr hpw))
    · exact hq.elim⟩
end
end Y

namespace Y
open PySem L2
section
variable {X : Cx} {K : PySem.W.Frag} {e a b : Expr} {es tes : List Expr} {t ta tb : TE} {w wa wb : WE} {tA : TA} {wA wN0 : WA} {pos p : Pos}
def wNeg (w : WE) : WE := fun env q => w env fun d => match d with | .int i => q (.int (-i)) | _ => False
theorem de_neg (ha : DE X a ta wa) : DE X (.UnaryOp .USub a pos) (tUn (rU fun i => .int (-i)) ta) (wNeg wa) := ⟨pe_un un_neg ha.pe, fun c G H env σ Q q f hw k => ha.snd c G H env σ _ _ f hw fun v d G' H' f' s r hq => by
  cases d with
  | int i => exact ⟨i, r, k _ _ G' H' f' s R.int_ hq⟩
  | _ => exact hq.elim⟩
/-! ### == and != , truth values too -/
def wEqU : WO := fun d e q => match d, e with | .bl i, .bl j => q (.bl (i == j)) | _, _ => wEq d e q
def wNeU : WO := fun d e q => match d, e with | .bl i, .bl j => q (.bl (i != j)) | _, _ => wNe d e q
theorem so_eqU : SndO K (rEqD K) wEqU := fun c G H env σ x y d e Q q f hx hy hw k => by
  unfold wEqU at hw
  split at hw
  · rename_i i j
    refine ⟨.bool i, .bool j, by rw [hx.bl]; exact .bl i, by rw [hy.bl]; exact .bl j, by cases i <;> decide, by cases j <;> decide, ?_⟩
    have e : PyData.eqv (.bool i) (.bool j) = (i == j) := by cases i <;> cases j <;> decide
    rw [e]
    exact k _ _ G H f (Gr.refl f) R.bl_ hw
  · exact so_eq c G H env σ x y d e Q q f hx hy hw k
theorem so_neU : SndO K (rNeD K) wNeU := fun c G H env σ x y d e Q q f hx hy hw k => by
  unfold wNeU at hw
  split at hw
  · rename_i i j
    refine ⟨.bool i, .bool j, by rw [hx.bl]; exact .bl i, by rw [hy.bl]; exact .bl j, by cases i <;> decide, by cases j <;> decide, ?_⟩
    have e : PyData.eqv (.bool i) (.bool j) = (i == j) := by cases i <;> cases j <;> decide
    rw [e]
    exact k _ _ G H f (Gr.refl f) R.bl_ hw
  · exact so_ne c G H env σ x y d e Q q f hx hy hw k
/-! ### x, y, .. = [..], e, .. : the first is a new list of ours -/
theorem ds_ownTup {i n k1 k2 : Nat} {x : Str} {px p1 p2 : Pos} {gs : TGs} {ws : WGs} {ss : List Nat} (hc : X.calm = true) (hN : X.N.Nodup) (hi : X.N[i]? = some x) (hx : Loc X.env.scope x) (hh : DN X e t wN0) (ha : DA X es tA wA) (hg : DGs X tes gs ws ss)
    (hes : starEach (e :: es) X.env = (false, eval e X.env) :: starEach es X.env := by rfl) (hf : X.fn x = true ∨ X.env.scope.names.lookup x = some .local := by first | exact .inl rfl | exact .inr rfl | assumption)
    (hpg : (assignEach (.Name x px :: tes) X.env).map (·.2) = assign (.Name x px) X.env :: (assignEach tes X.env).map (·.2) := by rfl) (hn : (assignEach (.Name x px :: tes) X.env).length = n := by rfl) (hst : (assignEach (.Name x px :: tes) X.env).findIdx? (·.1) = none := by rfl)
    (hs : swapsWithSole [.Tuple (.Name x px :: tes) k1 p1] (.Tuple (e :: es) k2 p2) pos.line X.env = pure false := by rfl) (hw : swappedStores [.Tuple (.Name x px :: tes) k1 p1] (.Tuple (e :: es) k2 p2) X.env = pure none := by rfl)
    (h1 : (assignEach [.Tuple (.Name x px :: tes) k1 p1] X.env).map (·.2) = [assign (.Tuple (.Name x px :: tes) k1 p1) X.env] := by rfl) :
    DS X (.Assign [.Tuple (.Name x px :: tes) k1 p1] (.Tuple (e :: es) k2 p2) pos) (tAsg (tTup (tCons t tA)) (gTup X.K n (gCons (gName i) gs)))
      (fun env E => wN0 env fun ds => wA env fun us => (us.length + 1 ≤ sizeLine ∧ us.length + 1 = n) ∧ ws us (env.set i (.ol ds)) E.nx) :=
  ⟨ps_asg (pe_tup (pa_cons hh.pe ha.pa hes)) (pg_tup hc (pgs_cons (pg_name hN hi hx hf) hg.pg hpg) hn hst) hs hw h1, fun c G H env σ D E f hw L => by
    refine hh.snd c G H env σ _ _ f hw fun o vs ds G1 H1 f1 g1 e1 e2 e3 e4 e5 no hq => ?_
    refine ha.snd c G1 H1 env σ _ _ f1 hq fun us zs G2 H2 f2 g2 r2 hq2 => ?_
    obtain ⟨⟨hl, hl2⟩, hq2⟩ := hq2
    have hu := r2.length
    refine ⟨by show (us.length + 1) ≤ _; omega, fun T hT => ?_⟩
    have eo : H2 o = some (.lst vs) := g2.hh _ _ e1 (f.own_ne e4)
    have g3 := f2.newH (o := .tup (.ref o :: us)) hT
    have f3 := f2.step g3
    have eo3 : (upd H2 T (.tup (.ref o :: us))) o = some (.lst vs) := by rw [upd_ne (ne_of_none eo hT)]; exact eo
    have no2 : NoOwn env σ o := no
    refine ⟨T, .ref o :: us, rfl, SqT.of upd_same, by show us.length + 1 = n; omega, .ref o, us, rfl, ?_⟩
    have f4 := f3.setOl i eo3 (RL.mono g2.gg _ _ e2) (g2.old _ _ e1 e3) e4 no2
    exact hg.snd c _ _ _ _ us zs _ _ f4 r2 hq2 fun env' σ' G' H' f' g' _ hq' => L.nx G' H' env' σ' f' hq'⟩
end
/-! ### a pass that takes some items -/
theorem lc_fm {wg : WG} {wt : WT} {we : WE} {vs : List Nat} {env : List Sl} {q : List D → Prop} {ds : List D} (p : D → Bool) (z : D → D) (hl : ds.length ≤ sizeLine)
    (step : ∀ (d : D) (acc : List D) (R : List D → Prop), d ∈ ds → acc.length < sizeLine → R (acc ++ if p d then [z d] else []) →
      wg d (wipeE env vs) fun env2 => wt env2 fun b => match b with | true => we env2 fun y => acc.length < sizeLine ∧ R (acc ++ [y]) | false => R acc)
    (hq : q ((ds.filter p).map z)) :
    ∃ I : Nat → List D → Prop, I 0 [] ∧
  (∀ k d acc, ds[k]? = some d → I k acc → wg d (wipeE env vs) fun env2 => wt env2 fun b => match b with | true => we env2 fun y => acc.length < sizeLine ∧ I (k + 1) (acc ++ [y]) | false => I (k + 1) acc) ∧
  ∀ acc, I ds.length acc → q acc := by
  refine ⟨fun k acc => acc = ((ds.take k).filter p).map z, rfl, fun k d acc hd ha => ?_, fun acc ha => ?_⟩
  · have hk : k < ds.length := (List.getElem?_eq_some_iff.mp hd).1
    refine step d acc (fun acc' => acc' = ((ds.take (k + 1)).filter p).map z) (List.mem_of_getElem? hd) ?_ ?_
    · rw [ha, List.length_map]
      have h1 : ((ds.take k).filter p).length ≤ (ds.take k).length := List.length_filter_le ..
      rw [List.length_take] at h1
      omega
    · rw [ha, List.take_succ, hd]
      simp only [Option.toList_some, List.filter_append, List.map_append, List.append_cancel_left_eq]
      cases hp : p d <;> simp [hp]
  · rw [ha, List.take_length]; exact hq
theorem lc_m {wg : WG} {we : WE} {vs : List Nat} {env : List Sl} {q : List D → Prop} {ds : List D} (z : D → D) (hl : ds.length ≤ sizeLine)
    (step : ∀ (d : D) (acc : List D) (R : List D → Prop), d ∈ ds → acc.length < sizeLine → R (acc ++ [z d]) → wg d (wipeE env vs) fun env2 => we env2 fun y => acc.length < sizeLine ∧ R (acc ++ [y]))
    (hq : q (ds.map z)) :
    ∃ I : Nat → List D → Prop, I 0 [] ∧
  (∀ k d acc, ds[k]? = some d → I k acc → wg d (wipeE env vs) fun env2 => wYes env2 fun b => match b with | true => we env2 fun y => acc.length < sizeLine ∧ I (k + 1) (acc ++ [y]) | false => I (k + 1) acc) ∧
  ∀ acc, I ds.length acc → q acc :=
  lc_fm (wt := wYes) (fun _ => true) z hl (fun d acc R hm ha hR => step d acc R hm ha hR) (by rw [List.filter_eq_self.mpr fun _ _ => rfl]; exact hq)
/-! ### the law's own start: the draw -/
theorem fr_law {K : PySem.W.Frag} {H : Hp} {s dr : Addr} {ns : List Int} {n : Nat} (hs : SqL K H s (ns.map V.int)) (hdr : H dr = none) :
    Fr K ⟨H, upd H dr (.lst [.ref s, .int 0]), some dr⟩ H (upd H dr (.lst [.ref s, .int 0])) (.no :: .dr :: List.replicate n .no) (some (.ref s) :: some (.ref dr) :: List.replicate n none) := by
  have sm : Same H (upd H dr (.lst [.ref s, .int 0])) := fun b u e => by rw [upd_ne (ne_of_none e hdr)]; exact e
  refine ⟨fun a o h _ => h, Same.refl H, sm, fun _ _ _ h => h, fun a e => (by cases e; exact ⟨_, upd_same⟩), fun a e => (by cases e; exact ⟨hdr, s, 0, ns, upd_same, hs⟩), by rw [List.length_cons, List.length_cons, List.length_cons, List.length_cons, List.length_replicate, List.length_replicate], fun i sl o h1 h2 => ?_, fun i j a si sj oi oj h1 h2 h3 h4 h5 h6 => ?_⟩
  · match i with
    | 0 => cases h1; trivial
    | 1 => cases h1; cases h2; exact ⟨dr, rfl, rfl⟩
    | i + 2 =>
      rw [List.getElem?_cons_succ, List.getElem?_cons_succ, List.getElem?_replicate] at h1
      split at h1
      · cases h1; trivial
      · cases h1
  · have no : ∀ (i : Nat) (si : Sl) (oi : Option V), (Sl.no :: Sl.dr :: List.replicate n Sl.no)[i]? = some si → a ∉ ownL si oi := by
      intro i si oi h z
      match i with
      | 0 => cases h; cases z
      | 1 => cases h; cases z
      | i + 2 =>
        rw [List.getElem?_cons_succ, List.getElem?_cons_succ, List.getElem?_replicate] at h
        split at h
        · cases h; cases z
        · cases h
    exact absurd h5 (no i si oi h1)

/-! ### defs in bundles -/
structure Df (P : Program) (w : World) (K : PySem.W.Frag) (mg : Str → Option Value) (base : Heap) (k : Nat) (x : Str) (ps : List Str) (W : List D → (D → Prop) → Prop) : Prop where
  ex : ∃ f fd, FnOk P w K mg base CX0 k f fd ps (spD K W) ∧ mg x = some (.ref f) ∧ PySem.W.keepIn K (.ref f) = true ∧ Binds K fd ps []
structure Dr (P : Program) (w : World) (K : PySem.W.Frag) (mg : Str → Option Value) (base : Heap) (k : Nat) (x : Str) (ps : List Str) (W : List D → (D → Prop) → Prop) : Prop where
  ex : ∃ f fd, FnOk P w K mg base CX0 k f fd ps (spR K W) ∧ mg x = some (.ref f) ∧ PySem.W.keepIn K (.ref f) = true ∧ Binds K fd ps []
structure Here (K : PySem.W.Frag) (mg : Str → Option Value) (x : Str) (ps : List Str) (st : Stmt) : Prop where
  ex : ∃ f fd, Fun K x x st f fd ∧ mg x = some (.ref f) ∧ Binds K fd ps []
section
variable {X : Cx} {e : Expr} {es : List Expr} {tA : TA} {wA : WA} {pos p p2 : Pos} {x y : Str} {k : Nat} {ps : List Str} {W : List D → (D → Prop) → Prop}
theorem de_cl (F : Df X.prog X.w X.K X.mg X.base k x ps W) (hr : Room k X.A) (hg : Gl X x) (ha : DA X (e :: es) tA wA) (hdb : (x == ("__debug__" : Str)) = false := by decide) (he : starEach (e :: es) X.env = (false, eval e X.env) :: starEach es X.env := by rfl) (hpl : (backTo pos (starEach es X.env)).any (·.1) = false := by rfl) :
    DE X (.Call (.Name x p) (e :: es) [] pos) (tCall (spD X.K W) [] E0 tA) (wCall W wA) := by
  obtain ⟨f, fd, F, hm, hk, hb⟩ := F.ex
  exact de_call F hr hg hm hk hb ha hdb he hpl
theorem de_clR (i : Nat) (F : Dr X.prog X.w X.K X.mg X.base k x ps W) (hr : Room k X.A) (hg : Gl X x) (hv : PE X (.Name y p2) (tVar i)) (ha : DA X es tA wA) (hdb : (x == ("__debug__" : Str)) = false := by decide) (he : starEach (.Name y p2 :: es) X.env = (false, eval (.Name y p2) X.env) :: starEach es X.env := by rfl) (hpl : (backTo pos (starEach es X.env)).any (·.1) = false := by rfl) :
    DE X (.Call (.Name x p) (.Name y p2 :: es) [] pos) (tCall (spR X.K W) [] E0 (tCons (tVar i) tA)) (wCallR W i wA) := by
  obtain ⟨f, fd, F, hm, hk, hb⟩ := F.ex
  exact de_callR i F hr hg hm hk hb hv ha hdb he hpl
end
section
variable {P : Program} {w : World} {K : PySem.W.Frag} {mg : Str → Option Value} {base : Heap}
theorem df_of {x : Str} {st : Stmt} {N ps : List Str} {k : Nat} {W : List D → (D → Prop) → Prop} (h0 : Here K mg x ps st) (S : FnScope N ps (defScope st)) (hW : ∀ ds q, W ds q → ds.length = ps.length)
    (h : ∀ (f : Addr) (cdv : Value) (A : Around) (outer : List Env) (s : Shared) (H : Hp) (E : XK), Room k (A.deeper (PyProof.Rows.envOfC x (defScope st) s.heap.objs.size f cdv)) →
      ∃ t wS, DSs (cxOf CX0 P w K mg base N x (defScope st) f cdv A outer s H E).nox (defBody st) t wS ∧ ∀ ds q, W ds q → wS (env0 N.length ds) { nx := fun _ => q .non, rt := q }) : Df P w K mg base (k + 1) x ps W := by
  obtain ⟨f, fd, F, hm, hb⟩ := h0.ex
  exact ⟨f, fd, fn_d F S hW (h f), hm, F.kp, hb⟩
theorem dr_of {x : Str} {st : Stmt} {N ps : List Str} {k : Nat} {W : List D → (D → Prop) → Prop} (h0 : Here K mg x ps st) (S : FnScope N ps (defScope st)) (hW : ∀ ds q, W ds q → ds.length + 1 = ps.length)
    (h : ∀ (f : Addr) (cdv : Value) (A : Around) (outer : List Env) (s : Shared) (H : Hp) (E : XK), Room k (A.deeper (PyProof.Rows.envOfC x (defScope st) s.heap.objs.size f cdv)) →
      ∃ t wS, DSs (cxOf CX0 P w K mg base N x (defScope st) f cdv A outer s H E).nox (defBody st) t wS ∧ ∀ ds q, W ds q → wS (envR N.length ds) { nx := fun _ => q .non, rt := q }) : Dr P w K mg base (k + 1) x ps W := by
  obtain ⟨f, fd, F, hm, hb⟩ := h0.ex
  exact ⟨f, fd, fn_r F S hW (h f), hm, F.kp, hb⟩
end
/-- what a draw gives: any number there is -/
def wTake : List D → (D → Prop) → Prop := fun ds q => ∃ m : Int, ds = [.int m] ∧ 0 < m ∧ ∀ v : Int, 0 ≤ v → v < m → q (.int v)

/-! ### a list of ours is frozen ahead of a statement -/
def wFrz (i : Nat) (w : WS) : WS := fun env E => match env[i]? with | some (.ol ds) => w (env.set i (.d (.lst ds))) E | some (.d d) => w env E | _ => False
theorem ds_frz {X : Cx} {st : Stmt} {t : TS} {w : WS} (i : Nat) (h : DS X st t w) : DS X st t (wFrz i w) := ⟨h.ps, fun c G H env σ D E f hw L => by
  unfold wFrz at hw
  split at hw
  · rename_i ds e
    obtain ⟨a, vs, e1, h1, h2, sm, f'⟩ := f.freeze e
    exact h.snd c _ H _ σ D E f' hw L
  · exact h.snd c G H env σ D E f hw L
  · exact hw.elim⟩

/-- x, y, z = [..], e, e2, plain locals: the first is a list of ours -/
theorem ds_ownPar3 {X : Cx} {a b c3 : Expr} {t : TE} {tA : TA} {wn wA : WA} {i j l : Nat} {x y z : Str} {px py pz pt pos : Pos} {kt k2 pt2} (hc : X.calm = true) (hN : X.N.Nodup) (hi : X.N[i]? = some x) (hj : X.N[j]? = some y) (hl : X.N[l]? = some z) (hij : i ≠ j) (hil : i ≠ l) (hjl : j ≠ l)
    (hx : X.env.scope.names.lookup x = some .local) (hy : X.env.scope.names.lookup y = some .local) (hz : X.env.scope.names.lookup z = some .local) (hh : DN X a t wn) (ha : DA X [b, c3] tA wA)
    (hw : swappedStores [.Tuple [.Name x px, .Name y py, .Name z pz] kt pt] (.Tuple [a, b, c3] k2 pt2) X.env = pure (some [x, y, z]))
    (hes : starEach [a, b, c3] X.env = (false, eval a X.env) :: starEach [b, c3] X.env := by rfl)
    (hs : swapsWithSole [.Tuple [.Name x px, .Name y py, .Name z pz] kt pt] (.Tuple [a, b, c3] k2 pt2) pos.line X.env = pure false := by rfl) :
    DS X (.Assign [.Tuple [.Name x px, .Name y py, .Name z pz] kt pt] (.Tuple [a, b, c3] k2 pt2) pos) (tPar3 i j l (tCons t tA)) (fun env E => wn env fun ds => wA env fun us => match us with | [d, e] => E.nx (((env.set i (.ol ds)).set j (.d d)).set l (.d e)) | _ => False) :=
  ⟨ps_par3 hc hN hi hj hl hij hil hjl hx hy hz (pa_cons hh.pe ha.pa hes) hw hs, fun c G H env σ D E f hw L => by
    refine hh.snd c G H env σ _ _ f hw fun o vs ds G1 H1 f1 g1 e1 e2 e3 e4 e5 no hq => ?_
    refine ha.snd c G1 H1 env σ _ _ f1 hq fun us zs G2 H2 f2 g2 r2 hq2 => ?_
    split at hq2
    · obtain ⟨v, us, rfl, r3, r4⟩ := r2.consE
      obtain ⟨u, us2, rfl, r5, r6⟩ := r4.consE
      rw [r6.nilE]
      have eo : H2 o = some (.lst vs) := g2.hh _ _ e1 (f.own_ne e4)
      have f4 := f2.setOl i eo (RL.mono g2.gg _ _ e2) (g2.old _ _ e1 e3) e4 no
      exact ⟨.ref o, v, u, rfl, L.nx _ H2 _ _ ((f4.setD j r3).setD l r5) hq2⟩
    · exact hq2.elim⟩
end Y

namespace Y
open PySem L2
/-! the same rules, K named: for the inside of a comprehension -/
section
variable {X : Cx} {K : PySem.W.Frag} {e a b : Expr} {es : List Expr} {t ta tb : TE} {w wa wb : WE} {tA : TA} {wA : WA} {pos p p2 : Pos} {x y : Str}
theorem call_lenK (hK : X.K = K := by rfl) : CallR X (.builtin "len") (fun xs H Q => ∃ x n, xs = [x] ∧ LenV K x H n ∧ Q (.int n) H) := by subst hK; exact call_len
theorem call_tupleK (hK : X.K = K := by rfl) : CallR X (.type "tuple") (fun xs H Q => ∃ p ys, xs = [.ref p] ∧ ((SqL K H p ys ∧ ∀ l, H l = none → Q (.ref l) (upd H l (.tup ys))) ∨ (SqT K H p ys ∧ Q (.ref p) H))) := by subst hK; exact call_tuple_of
theorem cr_sumK (hc : X.calm = true) (hK : X.K = K := by rfl) : CallR X (.builtin "sum") (rSum K) := by subst hK; exact cr_sum hc
theorem cr_maxK (hc : X.calm = true) (hK : X.K = K := by rfl) : CallR X (.builtin "max") (rMax K) := by subst hK; exact cr_max hc
theorem cr_minK1 (hc : X.calm = true) (hK : X.K = K := by rfl) : CallR X (.builtin "min") (rMin K) := by subst hK; exact cr_min hc
theorem cr_anyK (hc : X.calm = true) (hK : X.K = K := by rfl) : CallR X (.builtin "any") (rAny K) := by subst hK; exact cr_any hc
theorem cr_allK (hc : X.calm = true) (hK : X.K = K := by rfl) : CallR X (.builtin "all") (rAll K) := by subst hK; exact cr_all hc
theorem op_addUK (hK : X.K = K := by rfl) : OpR X (binaryOp .Add) (rAddU K) := by subst hK; exact op_addU
theorem op_eqDK (hu : X.A.units + 64 < cLine) (hK : X.K = K := by rfl) : OpR X (compareOp .Eq) (rEqD K) := by subst hK; exact op_eqD hu
theorem op_neDK (hu : X.A.units + 64 < cLine) (hK : X.K = K := by rfl) : OpR X (compareOp .NotEq) (rNeD K) := by subst hK; exact op_neD hu
theorem op_inK (hK : X.K = K := by rfl) : OpR X (compareOp .In) (rIn K false) := by subst hK; exact op_in_seq
theorem op_notInK (hK : X.K = K := by rfl) : OpR X (compareOp .NotIn) (rIn K true) := by subst hK; exact op_notIn_seq
theorem de_ixK (ha : DB X a ta wa) (hb : DB X b tb wb) (hs : PlainIx b) (hK : X.K = K := by rfl) : DE X (.Subscript a b pos) (tOp (rIx K) ta tb) (wOp2 wIx wa wb) := by subst hK; exact de_ix ha hb hs
theorem de_sliceK {lo hi : Option Expr} {tl th : TO} {w1 w2 : WP} (ha : DB X a ta wa) (hl : DO X lo tl w1) (hh : DO X hi th w2) (hK : X.K = K := by rfl) : DE X (.Subscript a (.Slice lo hi none p2) pos) (tSl (rSlU K) ta tl th) (wSl wa w1 w2) := by subst hK; exact de_slice ha hl hh
theorem dg_tupK {k : Nat} {gs : TGs} {ws : WGs} {ss : List Nat} {n : Nat} (hc : X.calm = true) (h : DGs X es gs ws ss) (hn : (assignEach es X.env).length = n := by rfl) (hst : (assignEach es X.env).findIdx? (·.1) = none := by rfl) (hK : X.K = K := by rfl) :
    DG X (.Tuple es k pos) (gTup K n gs) (wgTup n ws) ss := by subst hK; exact dg_tup hc h hn hst
theorem de_clK {k : Nat} {ps : List Str} {W : List D → (D → Prop) → Prop} (F : Df X.prog X.w K X.mg X.base k x ps W) (hr : Room k X.A) (hg : Gl X x) (ha : DA X (e :: es) tA wA) (hK : X.K = K := by rfl) (hdb : (x == ("__debug__" : Str)) = false := by decide) (he : starEach (e :: es) X.env = (false, eval e X.env) :: starEach es X.env := by rfl) (hpl : (backTo pos (starEach es X.env)).any (·.1) = false := by rfl) :
    DE X (.Call (.Name x p) (e :: es) [] pos) (tCall (spD K W) [] E0 tA) (wCall W wA) := by subst hK; exact de_cl F hr hg ha hdb he hpl
theorem de_clRK (i : Nat) {k : Nat} {ps : List Str} {W : List D → (D → Prop) → Prop} (F : Dr X.prog X.w K X.mg X.base k x ps W) (hr : Room k X.A) (hg : Gl X x) (hv : PE X (.Name y p2) (tVar i)) (ha : DA X es tA wA) (hK : X.K = K := by rfl) (hdb : (x == ("__debug__" : Str)) = false := by decide) (he : starEach (.Name y p2 :: es) X.env = (false, eval (.Name y p2) X.env) :: starEach es X.env := by rfl) (hpl : (backTo pos (starEach es X.env)).any (·.1) = false := by rfl) :
    DE X (.Call (.Name x p) (.Name y p2 :: es) [] pos) (tCall (spR K W) [] E0 (tCons (tVar i) tA)) (wCallR W i wA) := by subst hK; exact de_clR i F hr hg hv ha hdb he hpl
end
end Y

namespace Y
open PySem L2
theorem g_lcm {wg : WG} {we : WE} {vs : List Nat} {env : List Sl} {ql : List D → Prop} {ds : List D} (z : D → D) (hl : ds.length ≤ sizeLine)
    (step : ∀ (d : D) (L : Prop) (R : D → Prop), d ∈ ds → L → R (z d) → wg d (wipeE env vs) fun env2 => we env2 fun y => L ∧ R y) (hq : ql (ds.map z)) : kLc wg wYes we vs env ql ds :=
  kLc_i (lc_m z hl (fun d acc R hm ha hR => step d _ (fun y => R (acc ++ [y])) hm ha hR) hq)
def kIt (we : WE) (env : List Sl) (L : Prop) (R : D → Prop) (n : Prop) (b : Bool) : Prop := match b with | true => we env fun y => L ∧ R y | false => n
theorem g_lcf {wg : WG} {wt : WT} {we : WE} {vs : List Nat} {env : List Sl} {ql : List D → Prop} {ds : List D} (p : D → Bool) (z : D → D) (hl : ds.length ≤ sizeLine)
    (step : ∀ (d : D) (L n : Prop) (R : D → Prop), d ∈ ds → L → (p d = true → R (z d)) → (p d = false → n) → wg d (wipeE env vs) fun env2 => wt env2 (kIt we env2 L R n)) (hq : ql ((ds.filter p).map z)) : kLc wg wt we vs env ql ds :=
  kLc_i (lc_fm p z hl (fun d acc R hm ha hR => step d _ _ (fun y => R (acc ++ [y])) hm ha (fun e => by rw [e] at hR; exact hR) (fun e => by rw [e] at hR; simpa using hR)) hq)
/-- a for: I holds ahead of each item -/
theorem g_for {wg : WG} {wb : WS} {env : List Sl} {E : DEnds} {ds : List D} (I : Nat → List Sl → Prop) (h0 : I 0 env) (step : ∀ i d env', ds[i]? = some d → I i env' → wg d env' fun env2 => wb env2 { nx := I (i + 1), rt := E.rt, bk := E.nx, ct := I (i + 1) })
    (fin : ∀ env', I ds.length env' → E.nx env') : kFor wg wb env E ds := kFor_i ⟨I, h0, step, fin⟩
def kWh (wb : WS) (env : List Sl) (n r : DEnds) (x : Prop) (b : Bool) : Prop := match b with | true => wb env n | false => x
theorem g_while {wc : WT} {wb : WS} {env : List Sl} {E : DEnds} (I : List Sl → Prop) (μ : List Sl → Nat) (h0 : I env)
    (step : ∀ env', I env' → wc env' fun b => match b with | true => wb env' { nx := fun e => I e ∧ μ e < μ env', rt := E.rt, bk := E.nx, ct := fun e => I e ∧ μ e < μ env' } | false => E.nx env') : wWhile wc wb env E := while_i ⟨I, μ, h0, step⟩
theorem lz0 : ([] : List D).length ≤ sizeLine := by show 0 ≤ sizeLine; decide
theorem lz1 {a : D} : [a].length ≤ sizeLine := by show 1 ≤ sizeLine; decide
theorem lz2 {a b : D} : [a, b].length ≤ sizeLine := by show 2 ≤ sizeLine; decide
theorem lz3 {a b c : D} : [a, b, c].length ≤ sizeLine := by show 3 ≤ sizeLine; decide
theorem lz5 {a b c d e : D} : [a, b, c, d, e].length ≤ sizeLine := by show 5 ≤ sizeLine; decide
abbrev oD (o : Option Int) : D := match o with | none => .non | some i => .int i
def kSeq (q : List D → Prop) (d : D) : Prop := match d with | .lst ds => q ds | .tup ds => q ds | _ => False
theorem d_ni {i : Int} (h : D.int i = .non) : False := by cases h
theorem d_nt {ds : List D} (h : D.tup ds = .non) : False := by cases h
theorem d_nl {ds : List D} (h : D.lst ds = .non) : False := by cases h
theorem d_ns {s : Str} (h : D.str s = .non) : False := by cases h
theorem lq1 {a : D} : [a].length = 1 := rfl
theorem lq2 {a b : D} : [a, b].length = 2 := rfl
theorem lq3 {a b c : D} : [a, b, c].length = 3 := rfl
theorem lq4 {a b c d : D} : [a, b, c, d].length = 4 := rfl
theorem lq5 {a b c d e : D} : [a, b, c, d, e].length = 5 := rfl
theorem g_any {q : D → Prop} {bs : List Bool} (k : q (.bl (bs.any id))) : wAny [.lst (bs.map D.bl)] q := by show match bllsOf (bs.map D.bl) with | some bs => q (.bl (bs.any id)) | none => False; rw [bllsOf_map]; exact k
theorem g_all {q : D → Prop} {bs : List Bool} (k : q (.bl (bs.all id))) : wAll [.lst (bs.map D.bl)] q := by show match bllsOf (bs.map D.bl) with | some bs => q (.bl (bs.all id)) | none => False; rw [bllsOf_map]; exact k
theorem g_sum {q : D → Prop} {ns : List Int} (k : q (.int ns.sum)) : wSum [.lst (ns.map D.int)] q := by show match intsOf (ns.map D.int) with | some bs => q (.int bs.sum) | none => False; rw [intsOf_map]; exact k
theorem g_min1 {q : D → Prop} {ns : List Int} (k0 : 0 < ns.length) (k : ∀ m, m ∈ ns → (∀ y, y ∈ ns → m ≤ y) → q (.int m)) : wMin1 [.lst (ns.map D.int)] q := by show match intsOf (ns.map D.int) with | some ns => 0 < ns.length ∧ ∀ m, m ∈ ns → (∀ y, y ∈ ns → m ≤ y) → q (.int m) | none => False; rw [intsOf_map]; exact ⟨k0, k⟩
theorem d_tc {x : D} {xs : List D} (h : D.tup (x :: xs) = .tup []) : False := by cases h
theorem d_lc {x : D} {xs : List D} (h : D.lst (x :: xs) = .lst []) : False := by cases h
theorem dr_t {env : List Sl} {i : Nat} (h : env[i]? = some .dr) : isDr env i := by unfold isDr; rw [h]; trivial
end Y

namespace Y
open PySem L2
/-! ### texts -/
def chars (s : Str) : List D := s.cps.toList.map fun c => D.str ⟨#[c]⟩
section
variable {X : Cx} {K : PySem.W.Frag} {tg iter e a b : Expr} {t ta tb : TE} {w wa wb : WE} {tA : TA} {wA : WA} {pos p : Pos} {x : Str}
def wStrI (w : WE) : WA := fun env q => w env fun d => match d with | .str s => q (chars s) | _ => False
theorem wk_str {c : Ctx} {P : Hp → Hp → Prop} {s : Str} (hP : ∀ G H, P G H → ∃ env σ, Fr K c G H env σ) : Wk K c.da P (Its s) (chars s) := by
  refine ⟨fun G1 H1 p i d hi => ?_, fun G1 H1 p => ?_⟩
  · unfold chars at hi
    rw [List.getElem?_map] at hi
    cases e : s.cps.toList[i]? with
    | none => rw [e] at hi; cases hi
    | some c0 =>
      rw [e] at hi
      cases hi
      obtain ⟨env, σ, f⟩ := hP _ _ p
      have hi' : i < s.cps.size := by have := (List.getElem?_eq_some_iff.mp e).1; rwa [Array.length_toList] at this
      refine ⟨hi', fun v H' y => ?_⟩
      obtain ⟨rfl, c1, h1, rfl⟩ := y
      have : c1 = c0 := by
        rw [Array.getElem?_toList, h1] at e
        exact Option.some.inj e
      subst this
      exact ⟨G1, Gr.refl f, R.str_⟩
  · show s.cps.size ≤ (chars s).length
    unfold chars
    rw [List.length_map, Array.length_toList]; exact Nat.le_refl _
theorem di_str (h : DE X iter t w) : DI X tg iter (iStr t) (wStrI w) := ⟨pi_str h.pe, fun c G H env σ Rr q f hw k => h.snd c G H env σ _ _ f hw fun v d G' H' f' s r hq => by
  split at hq
  · exact ⟨_, r, k _ _ G' H' f' s (wk_str fun _ _ p => p.2) hq⟩
  · exact hq.elim⟩
def wStrOf : WC := fun ds q => match ds with | [.int i] => i.natAbs.log2 < 1920 ∧ q (.str (toString i)) | _ => False
theorem sc_strOf : SndC K (fun xs H Q => ∃ i, xs = [.int i] ∧ i.natAbs.log2 < 1920 ∧ Q (.str (toString i)) H) wStrOf := fun c G H env σ xs ds Q q f hx hw k => by
  unfold wStrOf at hw
  split at hw
  · obtain ⟨v, rfl, r⟩ := hx.one
    exact ⟨_, by rw [r.int], hw.1, k _ _ G H f (Gr.refl f) R.str_ hw.2⟩
  · exact hw.elim
def wIntOf : WC := fun ds q => match ds with | [.str s] => (match PySem.intText? s with | some n => s.length ≤ 640 ∧ q (.int n) | none => False) | _ => False
theorem sc_intOf : SndC K (fun xs H Q => ∃ a n, xs = [.str a] ∧ PySem.intText? a = some n ∧ a.length ≤ 640 ∧ Q (.int n) H) wIntOf := fun c G H env σ xs ds Q q f hx hw k => by
  unfold wIntOf at hw
  split at hw
  · obtain ⟨v, rfl, r⟩ := hx.one
    split at hw
    · rename_i n e
      exact ⟨_, n, by rw [r.str], e, hw.1, k _ _ G H f (Gr.refl f) R.int_ hw.2⟩
    · exact hw.elim
  · exact hw.elim
/-! a sign in a text -/
def wInU : WO := fun d e q => match d, e with | .str s, .str z => (match s.cps.toList with | [c] => q (.bl (decide (c ∈ z.cps.toList))) | _ => False) | _, _ => wIn d e q
/-! split -/
def kSplit2 (q : List D → Prop) (a : Str) (e : D) : Prop := match e with | .str b => ((b.length == 0) = false ∧ a.length + 2 ≤ sizeLine ∧ (Txt.split a b).length ≤ sizeLine) ∧ q ((Txt.split a b).map D.str) | _ => False
def kSplit1 (wb : WE) (env : List Sl) (q : List D → Prop) (d : D) : Prop := match d with | .str a => wb env (kSplit2 q a) | _ => False
def wSplitN (wa wb : WE) : WA := fun env q => wa env (kSplit1 wb env q)
theorem rl_strs {G : Hp} : ∀ ys : List Str, RL K G (ys.map D.str) (ys.map V.str)
  | [] => .nil
  | y :: ys => .cons R.str_ (rl_strs ys)
theorem dn_split {apos : Pos} (ha : DE X a ta wa) (hb : DE X b tb wb) (hs : starEach [b] X.env = [(false, eval b X.env)] := by rfl) (hbase : attributeBase a "split" X.env (eval a X.env) = eval a X.env := by rfl) (hline : (apos.endLine == pos.line) = true := by rfl) :
    DN X (.Call (.Attribute a "split" apos) [b] [] pos) (tM1 (fun x xs H Q => ∃ a b, x = .str a ∧ xs = [.str b] ∧ (b.length == 0) = false ∧ a.length + 2 ≤ sizeLine ∧ rNewStrs (Txt.split a b) H Q) ta tb) (wSplitN wa wb) :=
  ⟨pe_split ha.pe hb.pe hs hbase hline, fun c G H env σ Q q f hw k => by
    refine ha.snd c G H env σ _ _ f hw fun v d G1 H1 f1 g1 r1 hw1 => ?_
    unfold kSplit1 at hw1
    split at hw1
    · rename_i s
      refine ⟨⟨s, r1⟩, hb.snd c G1 H1 env σ _ _ f1 hw1 fun u e G2 H2 f2 g2 r2 hw2 => ?_⟩
      unfold kSplit2 at hw2
      split at hw2
      · obtain ⟨⟨h1, h2, h3⟩, hq⟩ := hw2
        refine ⟨_, _, r1, by rw [show u = _ from r2], h1, h2, fun p hp => ?_⟩
        exact k p _ _ G2 _ (f2.step (f2.newH hp)) ((g1.trans g2).trans (f2.newH hp)) upd_same (rl_strs _) (f2.gnone hp) (f2.h0none hp) ((g1.trans g2).fresh hp) (f2.noOwn hp) hq
      · exact hw2.elim
    · exact hw1.elim⟩
/-! ### isinstance(e, T), T built in -/
def tyName (d : D) : String := match d with | .non => "NoneType" | .bl _ => "bool" | .int _ => "int" | .str _ => "str" | .tup _ => "tuple" | .tupc _ => "tuple" | .lst _ => "list" | .dct _ => "dict" | .ins .. => "?"
inductive Tn where | int | str | bool | tup | lst
def Tn.name : Tn → String | .int => "int" | .str => "str" | .bool => "bool" | .tup => "tuple" | .lst => "list"
def isT : Tn → D → Bool
  | .int, .int _ => true | .int, .bl _ => true | .str, .str _ => true | .bool, .bl _ => true | .tup, .tup _ => true | .tup, .tupc _ => true | .lst, .lst _ => true | _, _ => false
def flatT (d : D) : Prop := match d with | .dct _ => False | .ins .. => False | _ => True
theorem tyx {H : Hp} {d : D} {v : V} (h : R K H d v) (f : flatT d) : TyX K H v (.type (tyName d)) := by
  cases d with
  | non => cases (show v = .non from h); exact .base .non
  | bl b => cases (show v = .bl b from h); exact .base (.bl b)
  | int i => cases (show v = .int i from h); exact .base (.int i)
  | str s => cases (show v = .str s from h); exact .base (.str s)
  | tup ds =>
    obtain ⟨a, vs, rfl, h1, _⟩ := h.tupE
    rcases h1 with (h1 | ⟨o, h1⟩) | ⟨o, its, n, h1, h2, _⟩
    · exact .base (.tup h1)
    · exact .fTuple h1
    · exact .kTuple h1 h2
  | tupc ds =>
    obtain ⟨a, vs, rfl, h1, _⟩ := h.wk.tupE
    rcases h1 with (h1 | ⟨o, h1⟩) | ⟨o, its, n, h1, h2, _⟩
    · exact .base (.tup h1)
    · exact .fTuple h1
    · exact .kTuple h1 h2
  | lst ds =>
    obtain ⟨a, vs, rfl, h1, _⟩ := h.lstE
    exact .base (.lst h1)
  | dct _ => exact f.elim
  | ins _ _ => exact f.elim
theorem kit_t {T : Tn} {d : D} (f : flatT d) : PySem.W.kitOne K (.type (tyName d)) (.type T.name) = some (isT T d) := by
  cases T <;> cases d <;> first | exact f.elim | rfl | (with_unfolding_all rfl) | kernel_rfl
def kIsi (T : Tn) (q : D → Prop) (d : D) : Prop := match d with | .dct _ => False | .ins .. => False | d => q (.bl (isT T d))
theorem kIsi_e {T : Tn} {q : D → Prop} {d : D} (h : kIsi T q d) : flatT d ∧ q (.bl (isT T d)) := by cases d <;> first | exact h.elim | exact ⟨True.intro, h⟩
def wIsi (T : Tn) (w : WE) : WE := fun env q => w env (kIsi T q)
theorem call_isiK' (hK : X.K = K := by rfl) : CallR X (.builtin "isinstance") (rIsi K) := by subst hK; exact call_isi
theorem de_isi (T : Tn) {y : Str} {p2 : Pos} (ha : DE X e t w) (hg : Gl X "isinstance") (hm : X.mg "isinstance" = none) (hgT : Gl X y) (hmT : X.mg y = none) (hvT : bootBuiltins y = some (.type T.name)) (hn : y ≠ "__name__" := by decide) (hdb : (y == ("__debug__" : Str)) = false := by decide)
    (he : starEach [e, .Name y p2] X.env = (false, eval e X.env) :: starEach [.Name y p2] X.env := by rfl) (he2 : starEach [.Name y p2] X.env = (false, eval (.Name y p2) X.env) :: starEach [] X.env := by rfl) (hpl : (backTo pos (starEach [.Name y p2] X.env)).any (·.1) = false := by rfl) (hK : X.K = K := by rfl) :
    DE X (.Call (.Name "isinstance" p) [e, .Name y p2] [] pos) (tCB (rIsi K) (tCons t (tCons (tC (.ty T.name)) tNil))) (wIsi T w) :=
  ⟨pe_callB (call_isiK' hK) hg hm (by with_unfolding_all rfl) (pa_cons ha.pe (pa_cons (pe_bltn hgT hmT hvT rfl hn hdb) pa_nil he2) he) (by decide) (by decide) he hpl, fun c G H env σ Q q f hw k => by
    subst hK
    refine ha.snd c G H env σ _ _ f hw fun v d G1 H1 f1 g1 r1 hw1 => ?_
    obtain ⟨h1, h2⟩ := kIsi_e hw1
    exact ⟨v, .ty T.name, _, _, _, rfl, .ty _, tyx (r1.mono f1.gh) h1, kit_t h1, k _ _ G1 H1 f1 g1 R.bl_ h2⟩⟩
end
/-! ### sorted and max of plain data -/
section
variable {X : Cx} {e : Expr} {t : TE} {w : WE} {pos p : Pos}
def rSortDat (K : PySem.W.Frag) : List V → Hp → VK → Prop := fun vs H Q => ∃ (a : Addr) (β : Type) (bs : List β) (fv : β → V) (fk : β → PyData), vs = [.ref a] ∧ SqL K H a (bs.map fv) ∧ (∀ b ∈ bs, Dp K H (fv b) (fk b)) ∧
  PySem.W.AllAlike (bs.map fk) ∧ PySem.W.Sortable (bs.map fk) ∧ (∀ b ∈ bs, (fk b).depth ≤ 32) ∧
  ∀ (p : Addr), H p = none → Q (.ref p) (upd H p (.lst ((bs.mergeSort (PySem.W.dataLe false fk)).map fv)))
theorem cr_sortDat (hu : X.A.units + 64 < cLine) : CallR X (.builtin "sorted") (rSortDat X.K) := by
  intro pins s σ H vs us Q I r h
  obtain ⟨a, β, bs, fv, fk, rfl, hs, hit, hal, hso, hdp, q⟩ := h
  obtain rfl := Vals.ref1 r
  obtain ⟨its, rv, hl, hz⟩ := I.list hs
  obtain ⟨ts, rfl, rfl, hts⟩ := valsZip fv bs its rv
  have hz' : ts.length ≤ sizeLine := by simpa using hz
  have em : (ts.map (·.2)).map fk = ts.map (fun b : Value × β => fk b.2) := List.map_map
  rw [em] at hal hso
  have hrd : ∀ b ∈ ts, ∃ as, Reads s.heap b.1 (fk b.2) as := fun b hm => Dp.reads I _ _ _ (hit b.2 (List.mem_map_of_mem hm)) (hts b hm)
  refine PySem.W.sorted_data (R := fun v b => v = b.1 ∧ RelV (fv b.2) b.1) (bs := ts) (enc := fun b : Value × β => fk b.2) hl.isList (eachIs_map (·.1) ts fun b hm => ⟨rfl, hts b hm⟩) (eachIs_map (R := fun v b => ∃ as, Reads s.heap v (fk b.2) as) (·.1) ts hrd) hal hso hz' (fun b hm => ?_) fun out hlen eo => ?_
  · have := hdp b.2 (List.mem_map_of_mem hm)
    show X.A.units + 2 + (fk b.2).depth < cLine
    omega
  · have eu := eachIs_eq eo
    subst eu
    have hp := List.mergeSort_perm ts (PySem.W.dataLe false fun b : Value × β => fk b.2)
    have eb : (ts.mergeSort (PySem.W.dataLe false fun b : Value × β => fk b.2)).map (·.2) = (ts.map (·.2)).mergeSort (PySem.W.dataLe false fk) := PySem.W.sort_maps (fun b : Value × β => b.2) fun _ _ _ _ => rfl
    generalize ts.mergeSort (PySem.W.dataLe false fun b : Value × β => fk b.2) = ts' at hp eb
    have hv : ∀ l : List (Value × β), (∀ t ∈ l, RelV (fv t.2) t.1) → Vals ((l.map (·.2)).map fv) (l.map (·.1)) := by
      intro l
      induction l with
      | nil => intro _; exact .nil
      | cons b l ih => intro h; exact .cons (h b List.mem_cons_self) (ih fun x hx => h x (List.mem_cons_of_mem _ hx))
    have hl2 : ((ts'.map (·.2)).map fv).length ≤ sizeLine := by rw [List.length_map, List.length_map, hp.length_eq]; exact hz'
    obtain ⟨ep, he'⟩ := PyProof.Rows.sortedAll_at s.heap (ts.map (·.1)) (List.toArray (ts'.map (·.1)))
    refine ⟨.ref _, upd H (s.heap.objs.size + 1) (.lst ((ts'.map (·.2)).map fv)), I.laid (t' := s.toks) (fun _ _ => PyProof.Rows.sortedAll_old) (Nat.le_succ _) ⟨hl2, _, ep, hv ts' fun t ht => hts t (hp.mem_iff.mp ht), he'⟩, rfl, ?_⟩
    rw [eb]
    exact q _ (I.hok.fresh (Nat.le_succ _))
/-- the order of plain data -/
def dLe (d e : D) : Bool := PySem.W.dataLe false D.py d e
def kSortD (q : List D → Prop) (d : D) : Prop := match d with | .lst ds => (PySem.W.AllAlike (ds.map D.py) ∧ PySem.W.Sortable (ds.map D.py) ∧ ∀ z ∈ ds, Pu 31 z) ∧ q (ds.mergeSort dLe) | _ => False
def wSortD (w : WE) : WA := fun env q => w env (kSortD q)
theorem dn_sortD (hu : X.A.units + 64 < cLine) (hg : Gl X "sorted") (hm : X.mg "sorted" = none) (ha : DE X e t w) (he : starEach [e] X.env = (false, eval e X.env) :: starEach [] X.env := by rfl) (hpl : (backTo pos (starEach [] X.env)).any (·.1) = false := by rfl) :
    DN X (.Call (.Name "sorted" p) [e] [] pos) (tCB (rSortDat X.K) (tCons t tNil)) (wSortD w) :=
  ⟨pe_callB (cr_sortDat hu) hg hm (by with_unfolding_all rfl) (pa_cons ha.pe pa_nil he) (by decide) (by decide) he hpl, fun c G H env σ Q q f hw k => by
    refine ha.snd c G H env σ _ _ f hw fun v d G1 H1 f1 g1 r1 hw1 => ?_
    unfold kSortD at hw1
    split at hw1
    · rename_i ds
      obtain ⟨⟨h1, h2, h3⟩, hq⟩ := hw1
      obtain ⟨a, vs, rfl, e1, e2⟩ := r1.lstE
      obtain ⟨bs, rfl, rfl, hb⟩ := e2.zip
      have em : (bs.map fun b : V × D => b.2.py) = (bs.map (·.2)).map D.py := List.map_map.symm
      have es : (bs.mergeSort (PySem.W.dataLe false fun b : V × D => b.2.py)).map (·.2) = (bs.map (·.2)).mergeSort dLe := PySem.W.sort_maps (fun b : V × D => b.2) fun _ _ _ _ => rfl
      have hp := List.mergeSort_perm bs (PySem.W.dataLe false fun b : V × D => b.2.py)
      refine ⟨a, V × D, bs, (·.1), fun b => b.2.py, rfl, SqL.of (f1.gh _ _ e1), fun b hm => R.dp 31 _ _ (h3 _ (List.mem_map_of_mem hm)) ((hb b hm).mono f1.gh), by rw [em]; exact h1, by rw [em]; exact h2, fun b hm => Nat.le_trans (Pu.lay 31 _ (h3 _ (List.mem_map_of_mem hm))).2 (by decide), fun p hn => ?_⟩
      have g := f1.newH (o := .lst ((bs.mergeSort (PySem.W.dataLe false fun b : V × D => b.2.py)).map (·.1))) hn
      exact k p _ _ G1 _ (f1.step g) (g1.trans g) upd_same (RL.unzip _ fun b hm => hb b (hp.mem_iff.mp hm)) (f1.gnone hn) (f1.h0none hn) (g1.fresh hn) (f1.noOwn hn) (by rw [es]; exact hq)
    · exact hw1.elim⟩
def rMaxDat (K : PySem.W.Frag) : List V → Hp → VK → Prop := fun vs H Q => ∃ (a : Addr) (β : Type) (b0 : β) (bs : List β) (fv : β → V) (fk : β → PyData), vs = [.ref a] ∧ SqL K H a ((b0 :: bs).map fv) ∧ (∀ b ∈ b0 :: bs, Dp K H (fv b) (fk b)) ∧
  PySem.W.AlikeAll ((b0 :: bs).map fk) ∧ PyData.depthAll ((b0 :: bs).map fk) ≤ 32 ∧ ∀ b ∈ b0 :: bs, fk b = PySem.W.maxD (fk b0) (bs.map fk) → Q (fv b) H
theorem dpAll_of {K : PySem.W.Frag} {H : Hp} {β : Type} (fv : β → V) (fk : β → PyData) : ∀ bs : List β, (∀ b ∈ bs, Dp K H (fv b) (fk b)) → DpAll K H (bs.map fv) (bs.map fk)
  | [], _ => .nil
  | b :: bs, h => .cons (h b List.mem_cons_self) (dpAll_of fv fk bs fun x hx => h x (List.mem_cons_of_mem _ hx))
theorem cr_maxDat (hc : X.calm = true) (hu : X.A.units + 64 < cLine) : CallR X (.builtin "max") (rMaxDat X.K) := by
  intro pins s σ H vs us Q I r h
  obtain ⟨a, β, b0, bs, fv, fk, rfl, hs, hit, hal, hdp, q⟩ := h
  obtain rfl := Vals.ref1 r
  obtain ⟨its, rv, hl, hz⟩ := I.list hs
  obtain ⟨as, hrd⟩ := Dp.readsAll I _ _ _ (dpAll_of fv fk (b0 :: bs) hit) rv
  refine PySem.W.max_list_data (x := fk b0) (xs := bs.map fk) (I.ok.hd hc) hl.isList (by rw [List.toList_toArray]; exact hrd) hal (by have e := hdp; simp only [List.map_cons] at e; omega) fun i v h' tk bs' hv hr kp => ?_
  obtain ⟨ts, e1, e2, hts⟩ := valsZip fv (b0 :: bs) its rv
  subst e1
  have hv' : (ts.map (·.1))[i]? = some v := by simpa using hv
  rw [List.getElem?_map] at hv'
  cases et : ts[i]? with
  | none => rw [et] at hv'; cases hv'
  | some tb =>
    rw [et] at hv'
    cases hv'
    have hm := List.mem_of_getElem? et
    have hb : tb.2 ∈ b0 :: bs := by rw [e2]; exact List.mem_map_of_mem hm
    obtain ⟨as2, r2⟩ := Dp.reads I _ _ _ (hit tb.2 hb) (hts tb hm)
    have e3 := (PyProof.Rows.reads_det (fun b o e _ => kp b o e) r2 hr).1
    exact ⟨fv tb.2, H, I.kept (t' := tk) kp, hts tb hm, q tb.2 hb e3.symm⟩
def kMaxD (q : D → Prop) (d : D) : Prop := match d with | .lst (d :: ds) => (PySem.W.AlikeAll ((d :: ds).map D.py) ∧ PuL 31 (d :: ds)) ∧ ∀ z ∈ d :: ds, z.py = PySem.W.maxD d.py (ds.map D.py) → q z | _ => False
def wMaxD (w : WE) : WE := fun env q => w env (kMaxD q)
theorem pys_map : ∀ ds : List D, D.pys ds = ds.map D.py
  | [] => rfl
  | d :: ds => by unfold D.pys; rw [pys_map ds]; rfl
theorem de_maxD (hc : X.calm = true) (hu : X.A.units + 64 < cLine) (hg : Gl X "max") (hm : X.mg "max" = none) (ha : DE X e t w) (he : starEach [e] X.env = (false, eval e X.env) :: starEach [] X.env := by rfl) (hpl : (backTo pos (starEach [] X.env)).any (·.1) = false := by rfl) :
    DE X (.Call (.Name "max" p) [e] [] pos) (tCB (rMaxDat X.K) (tCons t tNil)) (wMaxD w) :=
  ⟨pe_callB (cr_maxDat hc hu) hg hm (by with_unfolding_all rfl) (pa_cons ha.pe pa_nil he) (by decide) (by decide) he hpl, fun c G H env σ Q q f hw k => by
    refine ha.snd c G H env σ _ _ f hw fun v d G1 H1 f1 g1 r1 hw1 => ?_
    unfold kMaxD at hw1
    split at hw1
    · rename_i d ds
      obtain ⟨⟨h1, h2⟩, hq⟩ := hw1
      obtain ⟨a, vs, rfl, e1, e2⟩ := r1.lstE
      obtain ⟨bs, rfl, eb, hb⟩ := e2.zip
      cases bs with
      | nil => cases eb
      | cons b0 bs =>
        have e3 : d = b0.2 ∧ ds = bs.map (·.2) := by simpa using eb
        obtain ⟨rfl, rfl⟩ := e3
        have em : (b0 :: bs).map (fun b : V × D => b.2.py) = (b0.2 :: bs.map (·.2)).map D.py := by rw [List.map_cons, List.map_cons, List.map_map]; rfl
        have em2 : bs.map (fun b : V × D => b.2.py) = (bs.map (·.2)).map D.py := List.map_map.symm
        have pu : ∀ b ∈ b0 :: bs, Pu 31 b.2 := fun b hm => by
          have : ∀ (l : List D), PuL 31 l → ∀ z ∈ l, Pu 31 z := by
            intro l
            induction l with
            | nil => intro _ z hz; cases hz
            | cons x l ih =>
              intro h z hz
              unfold PuL at h
              rcases List.mem_cons.mp hz with rfl | hz
              · exact h.1
              · exact ih h.2 z hz
          exact this _ h2 _ (by rw [← List.map_cons (f := fun b : V × D => b.2)]; exact List.mem_map_of_mem hm)
        refine ⟨a, V × D, b0, bs, (·.1), fun b => b.2.py, rfl, SqL.of (f1.gh _ _ e1), fun b hm => R.dp 31 _ _ (pu b hm) ((hb b hm).mono f1.gh), by rw [em]; exact h1, by rw [em, ← pys_map]; exact Nat.le_trans (PuL.lay 31 _ h2).2 (by decide), fun b hm e => ?_⟩
        rw [em2] at e
        exact k b.1 b.2 G1 H1 f1 g1 (hb b hm) (hq b.2 (by rw [← List.map_cons (f := fun b : V × D => b.2)]; exact List.mem_map_of_mem hm) e)
    · exact hw1.elim⟩
end
/-! ### a sign in a text -/
def wInS : WO := fun d e q => match d, e with | .str s, .str z => (match s.cps.toList with | [c] => q (.bl (decide (c ∈ z.cps.toList))) | _ => False) | _, _ => False
theorem so_inS {K : PySem.W.Frag} : SndO K (fun x y H Q => ∃ (c : Nat) (z : Str), x = .str ⟨#[c]⟩ ∧ y = .str z ∧ Q (.bl (decide (c ∈ z.cps.toList))) H) wInS := fun c G H env σ x y d e Q q f hx hy hw k => by
  unfold wInS at hw
  split at hw
  · rename_i s z
    split at hw
    · rename_i c0 e
      have es : s = ⟨#[c0]⟩ := by
        cases s with
        | mk cps => congr 1; exact Array.toList_inj.mp (by simpa using e)
      exact ⟨c0, z, by rw [hx.str, es], hy.str, k _ _ G H f (Gr.refl f) R.bl_ hw⟩
    · exact hw.elim
  · exact hw.elim
/-! ### == of texts: nothing more is asked -/
def wEqS : WO := fun d e q => match d, e with | .str a, .str b => (a = b → q (.bl true)) ∧ (a ≠ b → q (.bl false)) | _, _ => False
def wNeS : WO := fun d e q => match d, e with | .str a, .str b => (a ≠ b → q (.bl true)) ∧ (a = b → q (.bl false)) | _, _ => False
theorem so_eqS {K : PySem.W.Frag} : SndO K rEq wEqS := fun c G H env σ x y d e Q q f hx hy hw k => by
  unfold wEqS at hw
  split at hw
  · rename_i a b
    rw [hx.str, hy.str]
    refine ⟨rfl, ?_⟩
    by_cases h : a = b
    · subst h; rw [decide_eq_true rfl]; exact k _ _ G H f (Gr.refl f) R.bl_ (hw.1 rfl)
    · rw [decide_eq_false fun z => h (V.str.inj z)]; exact k _ _ G H f (Gr.refl f) R.bl_ (hw.2 h)
  · exact hw.elim
theorem so_neS {K : PySem.W.Frag} : SndO K rNe wNeS := fun c G H env σ x y d e Q q f hx hy hw k => by
  unfold wNeS at hw
  split at hw
  · rename_i a b
    rw [hx.str, hy.str]
    refine ⟨rfl, ?_⟩
    by_cases h : a = b
    · subst h; rw [decide_eq_true rfl]; exact k _ _ G H f (Gr.refl f) R.bl_ (hw.2 rfl)
    · rw [decide_eq_false fun z => h (V.str.inj z)]; exact k _ _ G H f (Gr.refl f) R.bl_ (hw.1 h)
  · exact hw.elim
end Y

/-! an exception class E(x) whose __init__ says super().__init__(text); self.x = x -/
namespace YX
open PySem PySem.W PySem.Calls PyProof.Rows PySem.Spec
abbrev exB : List Value := [.type "Exception", .type "BaseException", .type "object"]
theorem ns1_one {h : Heap} {dx : Addr} {fld : Str} {hsh : Int} {tk : Tok} {u : Value} {n : Nat} (e : h.get? dx = some (dictOf [⟨hsh, .str fld tk, u⟩] n)) : h.Ns1 dx (fun y => if y = fld then some u else none) := by
  refine ⟨_, _, _, e, rfl, fun x hx => ?_, ?_, fun name => ?_⟩
  · have : x = ⟨hsh, .str fld tk, u⟩ := by simpa using hx
    rw [this]; exact ⟨_, _, rfl⟩
  · exact List.pairwise_singleton _ _
  · unfold nsFind findBy
    by_cases h : name = fld
    · subst h; simp [Value.isStr]
    · simp [Value.isStr, h, Ne.symm h]
section
variable {P : Program} {w : World} {K : Frag} {mg : Str → Option Value} {base : Heap} {A : Around} {E : Value → Shared → Prop}
theorem x1_node {s : Shared} {h₀ : Heap} {L : Addr} {m : Str → Option Value} {news : List (Addr × Obj)} {x C D f cc cda : Addr} {ox : Obj} {odx : Option Obj} {body : List Stmt} {q : Str} {scope : Scope} {p0 p1 : Pos} {attr : Str} {whole : Sem Value} {fd : FuncData} {ar : Arg} {vs : Array Value} {file : Str} {tf : Tok} {oc ccl cl : Value} {od cdd cld : Option Addr} {osl ccs csl : Array (Option Value)} {cdD : ClassData} {Q : Value → Shared → Prop}
    (M : L2.Mod K mg base) (hb : ∀ b o, base.get? b = some o → h₀.get? b = some o) (F : Fr h₀ L s.heap m) (X₀ : K.In h₀) (N : News h₀ L s.heap news)
    (hf : K.lookup f = some ⟨oc, od, .func fd, osl⟩) (hp : (fd.params.posonlyargs ++ fd.params.args).head? = some ar) (hv : m ar.arg = some (.ref x)) (I : PySem.W.InstAt s.heap x ox C odx)
    (hcode : K.lookup cda = some ⟨ccl, cdd, .fields vs, ccs⟩) (hvs : vs[2]? = some (.str file tf)) (hfile : ((P.main.file : Str) == file) = true)
    (hcell : K.lookup cc = some ⟨cl, cld, .cell (some (.ref D)), csl⟩) (hD : clsIn K D = some cdD) (hsub : mroIn K C (.ref D) = some true) (hsuper : nsIn K mainGlobals "super" = some none)
    (hat : (attr == ("__class__" : Str)) = false) (hks : scope.names.lookup ("super" : Str) = some .globalImplicit) (hkc : scope.names.lookup ("__class__" : Str) = some .free) (hka : scope.names.lookup ar.arg = some .local) (hk : scope.kind = .function)
    (htop : (P.main.scope.names.lookup ("super" : Str)).isSome = false)
    (h : ∀ so h', Fr h₀ L h' m → News h₀ L h' ((so, ks_superObj D x C) :: news) → (∀ p ∈ news, p.1 < so) → Q (.ref so) { s with heap := h' }) :
    _root_.PySem.wpAt (model P w) A (.func body (ksEnv q scope L f (.ref cda) cc)) (attributeBase (.Call (.Name "super" p0) [] [] p1) attr (ksEnv q scope L f (.ref cda) cc) whole) Q E s := by
  have X : K.In s.heap := X₀.keeps F.keep
  obtain ⟨mb, hb1, hb2⟩ := M.blt
  have kk : ∀ b o, base.get? b = some o → s.heap.get? b = some o := fun b o e => F.keep b o (hb b o e)
  obtain ⟨hh, g, d, t, os⟩ := s
  obtain ⟨oD, hD1, hD2⟩ : ∃ oD, hh.get? D = some oD ∧ oD.data = .cls cdD := by
    unfold clsIn at hD
    split at hD
    · rename_i c d cd' sl ho
      cases hD
      exact ⟨_, X _ _ ho, rfl⟩
    · cases hD
  refine ks_wpAt_super_base (env := ksEnv q scope L f (.ref cda) cc) hks hkc hat rfl (X _ _ hf) rfl hp rfl (X _ _ hcode) rfl hvs hfile htop ?_
  refine ks_loadName_global hk hks (loadGlobal_builtin (env := ksEnv q scope L f (.ref cda) cc) (M.glob.keeps kk) (mg_none_of M.kin M.glob hsuper) (hb1.keeps kk) ((hb2 _ (by decide +kernel)).trans (show bootBuiltins "super" = some (.type "super") by first | rfl | kernel_rfl)) ⟨rfl, ?_⟩)
  refine wpAny_loadName_free hk hkc rfl ⟨_, X _ _ hcell, rfl⟩ ?_
  refine wpAny_loadName_local hk hka F.ns hv ?_
  refine ks_wpAny_isType_cls hD1 hD2 ⟨rfl, ?_⟩
  refine ks_wpAny_call_super hD1 hD2 I.at_ I.cls (fun c e => ?_) (looks_mroIn X hsub) (fun h' e k => ?_)
  · have := I.no
    unfold notCls at this
    rw [e] at this
    exact Bool.noConfusion this
  · obtain ⟨F', N', l'⟩ := ks_newsPush (s := ⟨hh, g, d, t, os⟩) F N rfl e k
    exact h _ _ F' N' l'
/-- def __init__(self, par): super().__init__(txt); self.fld = par -/
abbrev x1Body (self par fld txt : Str) (k : Nat) (p0 p1 p2 p3 p4 p5 p6 p7 p8 pe : Pos) : List Stmt :=
  [.Expr (.Call (.Attribute (.Call (.Name "super" p0) [] [] p1) "__init__" p2) [.Constant (.str txt) k pe] [] p3) p4, .Assign [.Attribute (.Name self p5) fld p6] (.Name par p7) p8]
/-- what the written part says of the class -/
structure X1 (P : Program) (K : Frag) (C : Addr) (fld : Str) : Prop where
  ex : ∃ (fI cda cc : Addr) (nm qual txt self par : Str) (params : Arguments) (scope : Scope) (k : Nat) (p0 p1 p2 p3 p4 p5 p6 p7 p8 pe : Pos) (dV kV doc pm ct oc ccl cl : Value) (an od cdd cld : Option Addr) (osl ccs csl : Array (Option Value)) (vs : Array Value) (file : Str) (tf : Tok) (cdD : ClassData) (ar : Arg),
    K.lookup fI = some ⟨oc, od, .func (ksFn nm qual params (x1Body self par fld txt k p0 p1 p2 p3 p4 p5 p6 p7 p8 pe) scope dV kV doc pm an (.ref cda) ct cc), osl⟩ ∧ codeIn K (.ref cda) qual = true ∧
    K.lookup cda = some ⟨ccl, cdd, .fields vs, ccs⟩ ∧ vs[2]? = some (.str file tf) ∧ ((P.main.file : Str) == file) = true ∧
    K.lookup cc = some ⟨cl, cld, .cell (some (.ref C)), csl⟩ ∧
    (∀ (s : Shared) (a b : Value), BindsTo s (ksFn nm qual params (x1Body self par fld txt k p0 p1 p2 p3 p4 p5 p6 p7 p8 pe) scope dV kV doc pm an (.ref cda) ct cc) ⟨[a, b], []⟩ [(self, a), (par, b)]) ∧
    (params.posonlyargs ++ params.args).head? = some ar ∧ ar.arg = self ∧ self ≠ par ∧
    scope.names.lookup ("super" : Str) = some .globalImplicit ∧ scope.names.lookup ("__class__" : Str) = some .free ∧ scope.names.lookup self = some .local ∧ scope.names.lookup par = some .local ∧
    (∀ x ∈ scope.names, x.2 ≠ .cell) ∧ scope.isCoroutine = false ∧ scope.isGenerator = false ∧ scope.kind = .function ∧
    (self == ("__debug__" : Str)) = false ∧ (par == ("__debug__" : Str)) = false ∧
    (∀ env : Env, ∃ pl : Sem Bool, eval (.Call (.Attribute (.Call (.Name "super" p0) [] [] p1) "__init__" p2) [.Constant (.str txt) k pe] [] p3) env = (do
      let ov ← attributeBase (.Call (.Name "super" p0) [] [] p1) "__init__" env (eval (.Call (.Name "super" p0) [] [] p1) env)
      standAt p2.atName
      let (f, first) ← holding [ov] (getMethod ov "__init__" pl)
      callWith p3 f first (backTo p3 (starEach [.Constant (.str txt) k pe] env)) [])) ∧
    (∀ env : Env, swapsWith (.Call (.Attribute (.Call (.Name "super" p0) [] [] p1) "__init__" p2) [.Constant (.str txt) k pe] [] p3) none p4.line env = pure false) ∧
    (∀ env : Env, swapsWith (.Name par p7) (some (.Attribute (.Name self p5) fld p6)) p8.line env = pure false) ∧
    (P.main.scope.names.lookup ("super" : Str)).isSome = false ∧ nsIn K mainGlobals "super" = some none ∧
    findIn K (.ref C) "__init__" = some (some (.ref fI)) ∧ isFn K (.ref fI) = true ∧ clsIn K C = some cdD
  q : excInitIn K C exB "Exception.__new__" = true
  sub : mroIn K C (.ref C) = some true
  sup : ks_superIn K C C "__init__" = some (some (.builtin "Exception.__init__"))
  subE : subIn K (.ref C) (.type "Exception") = some true
  any : nsIn K cStatics "thirdparty.any" = some none
  sa : findIn K (.ref C) "__setattr__" = some (some (.builtin "object.__setattr__"))
  over : excOver K C exB = true
  taker : takerIn K C fld = some none
  dict : hasDictIn K C = true
  subB : subIn K (.ref C) (.type "BaseException") = some true
  ty : typeIn K (.ref C) = some (.type "type")
  keep : keepIn K (.ref C) = true
theorem x1_call {s : Shared} {C : Addr} {fld : Str} {u : Value} {Q : Value → Shared → Prop} (M : L2.Mod K mg base) (hb : ∀ b o, base.get? b = some o → s.heap.get? b = some o) (T : X1 P K C fld)
    (hroom : A.depth + 1 < recursionLimit)
    (hq : ∀ e dx h' t' tk, s.heap.objs.size ≤ e → e < dx → (∀ b o, s.heap.get? b = some o → h'.get? b = some o) → h'.get? e = some (excObj C t' (some dx) .none) → h'.Ns1 dx (fun y => if y = fld then some u else none) →
      Q (.ref e) { s with heap := h', toks := tk }) : wpAny (model P w) A (call (.ref C) [u]) Q E s := by
  obtain ⟨fI, cda, cc, nm, qual, txt, self, par, params, scope, k, p0, p1, p2, p3, p4, p5, p6, p7, p8, pe, dV, kV, doc, pm, ct, oc, ccl, cl, an, od, cdd, cld, osl, ccs, csl, vs, file, tf, cdD, ar, lk, hcd, hc, hvs, hfile, hcell, hbind, hp, har, hne, hks, hkc, hself, hpar, hcells, hco, hgen, hk, dbs, dbp, hev, hs1, hs2, htop, hsup, hi, hf, hD⟩ := T.ex
  have X : K.In s.heap := M.kin.keeps hb
  obtain ⟨nm', N', qn, bs, bm, hdct, sn, sub, ab, col, dd, k0, k1, k2, k3, k5, hC, hT⟩ := excInit_of X T.q
  obtain ⟨hh, g, d, tk, os⟩ := s
  have hoI := X _ _ lk
  have hoc : oc = .type "function" := by
    have hf' : (K.lookup fI).map (·.cls) == some (.type "function") := hf
    rw [lk] at hf'
    simpa using hf'
  refine wpAny_call (PX.call_own F.excBase_Exception hT hC (looks_findIn X hi) (fun self => exc_bind hoI hoc self) (by rw [sizeLine_eq, List.length_singleton]; omega) ?_)
  have up : ∀ b o, hh.get? b = some o → ((hh.push (excTup [u])).push (excObj C hh.objs.size none .none)).get? b = some o := fun b o e => Heap.get?_push_of_some _ (Heap.get?_push_of_some _ e)
  have he : ((hh.push (excTup [u])).push (excObj C hh.objs.size none .none)).get? (hh.objs.size + 1) = some (excObj C hh.objs.size none .none) := Heap.get?_push_at (by rw [Heap.size_push]) rfl
  have X2 := X.keeps up
  show codeAny _ _ _ _ ⟨(hh.push (excTup [u])).push (excObj C hh.objs.size none .none), g, d, tk, os⟩
  generalize hH2 : (hh.push (excTup [u])).push (excObj C hh.objs.size none .none) = H2 at up he X2
  have hsz : H2.objs.size = hh.objs.size + 2 := by rw [← hH2, Heap.size_push, Heap.size_push]
  refine ks_codeAny_call_defAt (fd := ksFn nm qual params (x1Body self par fld txt k p0 p1 p2 p3 p4 p5 p6 p7 p8 pe) scope dV kV doc pm an (.ref cda) ct cc) (body := x1Body self par fld txt k p0 p1 p2 p3 p4 p5 p6 p7 p8 pe) (binds := [(self, .ref (hh.objs.size + 1)), (par, u)])
    (by rw [L2.make_depth]; exact hroom) (X2 _ _ lk) rfl (M.nolimit.keeps fun b o e => up b o (hb b o e)) (codeRec_of X2 hcd) rfl (hbind _ _ _) hcells (fun x hx => ?_) (fun h₁ hns hk₁ => ?_) hco hgen hk
  · rcases List.mem_cons.mp hx with rfl | hx
    · exact hself
    · rw [List.mem_singleton.mp hx]; exact hpar
  have nb : ∀ b o, hh.get? b = some o → b ∉ [hh.objs.size + 1] := fun b o e z => by
    have := Heap.lt_size e
    have z' : b = hh.objs.size + 1 := List.mem_singleton.mp z
    rw [z'] at this
    exact absurd this (Nat.not_lt.mpr (Nat.le_succ _))
  have st : ∀ b o, hh.get? b = some o → (hideAll H2 [hh.objs.size + 1]).get? b = some o := fun b o e => hideAll_get _ (up b o e) (nb b o e)
  have X0 : K.In (hideAll H2 [hh.objs.size + 1]) := X.keeps st
  have F0 : Fr (hideAll H2 [hh.objs.size + 1]) H2.objs.size h₁ (fun x => [(self, Value.ref (hh.objs.size + 1)), (par, u)].reverse.lookup x) := ⟨hns, fun b o e => hk₁ b o (of_hideAll _ e), Nat.le_of_eq (hideAll_size _ _)⟩
  have N0 : News (hideAll H2 [hh.objs.size + 1]) H2.objs.size h₁ [(hh.objs.size + 1, excObj C hh.objs.size none .none)] := fun p hp => by
    rw [List.mem_singleton.mp hp]
    exact ⟨hk₁ _ _ he, by show hh.objs.size + 1 ≠ H2.objs.size; omega, hideAll_none _ (by simp)⟩
  generalize hh0 : hideAll H2 [hh.objs.size + 1] = h0 at st X0 F0 N0
  have mself : (fun x => [(self, Value.ref (hh.objs.size + 1)), (par, u)].reverse.lookup x) self = some (.ref (hh.objs.size + 1)) := by
    show List.lookup self [(par, u), (self, Value.ref (hh.objs.size + 1))] = _
    rw [List.lookup_cons, show (self == par) = false from beq_false_of_ne hne]
    simp
  have mpar : (fun x => [(self, Value.ref (hh.objs.size + 1)), (par, u)].reverse.lookup x) par = some u := by
    show List.lookup par [(par, u), (self, Value.ref (hh.objs.size + 1))] = _
    rw [List.lookup_cons]; simp
  generalize (fun x => [(self, Value.ref (hh.objs.size + 1)), (par, u)].reverse.lookup x) = m at F0 mself mpar
  obtain ⟨pl, hpl⟩ := hev (ksEnv qual scope H2.objs.size fI (.ref cda) cc)
  refine ks_wpAt_execs_cons (ks_wpAt_Expr_any (hi := by first | rfl | (simp [interactive, callEnv, newEnv, hk]; done)) (hs := hs1 _) (ks_wpAt_MethodCall (he := hpl) (x1_node M (fun b o e => st b o (hb b o e)) F0 X0 N0 lk hp (by rw [har]; exact mself) (InstAt.of_exc0 N0 (.head _)) hc hvs hfile hcell hD T.sub hsup (by decide) hks hkc (by rw [har]; exact hself) hk htop fun so h' F1 N1 l1 => ?_)))
  have lso := l1 _ (.head _)
  refine kxs_method kxs_Exception F1 X0 N1 (.head _) (InstAt.of_exc0 N1 (.tail _ (.head _))) T.any T.sup T.subE (by decide) fun q h2 F2 N2 l2 => ?_
  have lq1 := l2 _ (.head _)
  have lq2 := l2 _ (.tail _ (.head _))
  refine kxs_callWith1 N2 (.head _) (PyProof.Rows.spliced_more (Calls.Constant_str (PyProof.Rows.spliced_none ⟨kxs_at N2 (.head _), ?_⟩)))
  refine kxs_call F2 X0 N2 F.excBase_Exception T.q (.head _) (.tail (by show q ≠ _; exact fun z => by rw [z] at lq2; exact absurd lq2 (Nat.lt_irrefl _)) (.tail (by show so ≠ _; exact fun z => by rw [z] at lso; exact absurd lso (Nat.lt_irrefl _)) (.head fun p hp => by cases hp))) (by rw [sizeLine_eq, List.length_singleton]; omega) fun t3 h3 F3 N3 l3 => ?_
  refine ks_wpAt_execs_cons (ks_wpAt_Assign_Attr (hs := hs2 _) (wpAt_of_wpAny (wpAny_Name (wpAny_loadName_local hk hpar F3.ns mpar (wpAny_Name (wpAny_loadName_local hk hself F3.ns mself ?_) dbs)) dbp)))
  refine set_exc0 (nw := _) (es' := _) (n' := _) F.store_Exception F3 X0 N3 (.tail _ (.tail _ (.tail _ (.head _)))) T.sa T.over T.taker T.dict rfl (.tail (by show t3 ≠ _; exact fun z => by have := l3 _ (.tail _ (.tail _ (.head _))); rw [z] at this; exact absurd this (Nat.lt_irrefl _)) (.tail (by show q ≠ _; exact fun z => by rw [z] at lq2; exact absurd lq2 (Nat.lt_irrefl _)) (.tail (by show so ≠ _; exact fun z => by rw [z] at lso; exact absurd lso (Nat.lt_irrefl _)) (.head fun p hp => by cases hp)))) (by show 1 ≤ 1000; decide) fun dx h4 F4 N4 l4 => ?_
  refine wpAt_of_wpAny (wpAny_execs_nil ⟨rfl, ?_⟩)
  exact hq _ dx h4 t3 _ (Nat.le_succ _) (l4 _ (.tail _ (.tail _ (.tail _ (.head _))))) (fun b o e => F4.keep b o (st b o e)) (N4 _ (.tail _ (.tail _ (.tail _ (.tail _ (.head _)))))).1 (ns1_one (N4 _ (.head _)).1)
/-- C(e), C of this kind -/
def tMkX (C : Addr) (fld : Str) (ta : L2.TA) : L2.St → L2.Hp → L2.XK → Prop := fun σ H Q => ta σ H fun vs H1 => ∃ v, vs = [v] ∧ ∀ d, H1 d = none → Q (.ref C) (some d) (L2.upd H1 d (.xd [(fld, v)]))
theorem pmk_x1 {X : L2.Cx} {x : Str} {C : Addr} {k : Nat} {fld : Str} {e : Expr} {es : List Expr} {ta : L2.TA} {p pos : Pos} (T : X1 X.prog X.K C fld) (hr : L2.Room (k + 1) X.A) (hg : L2.Gl X x) (hm : X.mg x = some (.ref C)) (ha : L2.PA X (e :: es) ta)
    (hdb : (x == ("__debug__" : Str)) = false := by decide) (he : starEach (e :: es) X.env = (false, eval e X.env) :: starEach es X.env := by rfl) (hpl : (backTo pos (starEach es X.env)).any (·.1) = false := by rfl) :
    L2.PMk X (.Call (.Name x p) (e :: es) [] pos) (tMkX C fld ta) := by
  intro pins s σ H Q I h
  refine wpAny_Call_Name_kw (L2.ld_glob I hg hm ?_ hdb)
  refine PySem.W.callWith_K (h₀ := X.base) I.ok.mod.kin T.keep (L2.thn (ha.run pos pins _ σ H _ (I.tok _) h) fun us s1 ⟨vs, H1, I1, r1, v, ev, q1⟩ => ⟨I1.kIn, ?_⟩) he hpl
  subst ev
  obtain ⟨u, rfl, ru⟩ : ∃ u, us = [u] ∧ L2.RelV v u := by
    cases r1 with
    | cons r rs => cases rs with
      | nil => exact ⟨_, rfl, r⟩
  show wpAny _ _ (call (.ref C) [u]) _ _ _
  refine x1_call I1.ok.mod I1.bk T (by have := hr.dp; omega) fun e dx h' t' tk le lt kk he hn => ?_
  have hen : H1 e = none := I1.hok.fresh le
  have hdn : H1 dx = none := I1.hok.fresh (Nat.le_of_lt (Nat.lt_of_le_of_lt le lt))
  obtain ⟨G, g1', g2'⟩ := L2.restrict h' fun b => decide (b ≠ e)
  have gk : ∀ b, b ≠ e → G.get? b = h'.get? b := fun b hb => g1' b (decide_eq_true hb)
  have ge : G.get? e = none := g2' e (by simp)
  have kG : ∀ b o, s1.heap.get? b = some o → G.get? b = some o := fun b o z => (gk b (Nat.ne_of_lt (Nat.lt_of_lt_of_le (Heap.lt_size z) le))).trans (kk b o z)
  have dne : dx ≠ e := Nat.ne_of_gt lt
  have J := I1.laid (t' := tk) (h' := G) (a := dx) (o := .xd [(fld, v)]) kG (Nat.le_of_lt (Nat.lt_of_le_of_lt le lt)) ⟨_, hn.at fun o y => (gk dx dne).trans y, fun f => by
    show L2.RelO (List.lookup f [(fld, v)]) _
    rw [L2.lookup_put]
    by_cases hf : f = fld
    · rw [if_pos hf, if_pos hf]; exact ru
    · rw [if_neg hf, if_neg hf]; trivial⟩
  refine ⟨e, _, _, _, _, .ref C, some dx, rfl, J, fun b o z => ?_, ge, he, ⟨rfl, rfl⟩, rfl, rfl, ?_, rfl, I1.bare, L2.raises_own T.subB T.ty, q1 dx hdn⟩
  · by_cases hb : b = e
    · rw [hb, ge] at z; cases z
    · exact (gk b hb).symm.trans z
  · rw [L2.upd_ne (Ne.symm dne)]; exact hen
end
end YX

/-! what may be raised -/
namespace Y
open PySem L2
/-- of an exception: class, fields, the slots where it arises -/
abbrev XQ := Value → List (Str × D) → List Sl → Prop
abbrev WSX := XQ → WS
abbrev WEX := XQ → WE
def LiftX (K : PySem.W.Frag) (c : Ctx) (xq : XQ) (W : WX) : Prop := ∀ (G H : Hp) (env : List Sl) (σ : L2.St) (cls : Value) (d : Addr) (fs : List (Str × D)) (ws : List (Str × V)), Fr K c G H env σ → G d = some (.xd ws) → RF K G fs ws → xq cls fs env → W cls (some d) σ H
def SndX (K : PySem.W.Frag) (W : WX) (t : TS) (w : WSX) : Prop := ∀ (c : Ctx) (G H : Hp) (env : List Sl) (σ : L2.St) (D : Ends) (E : DEnds) (xq : XQ), Fr K c G H env σ → LiftX K c xq W → w xq env E → Lift K c E D → t D σ H
def SndEX (K : PySem.W.Frag) (W : WX) (t : TE) (w : WEX) : Prop := ∀ (c : Ctx) (G H : Hp) (env : List Sl) (σ : L2.St) (Q : VK) (q : D → Prop) (xq : XQ), Fr K c G H env σ → LiftX K c xq W → w xq env q →
  (∀ v d G' H', Fr K c G' H' env σ → Gr K c.da G H G' H' → R K G' d v → q d → Q v H') → t σ H Q
structure DX1 (X : Cx) (W : WX) (st : Stmt) (t : TS) (w : WSX) : Prop where
  ps : PS X st t
  snd : SndX X.K W t w
structure DXs (X : Cx) (W : WX) (st : List Stmt) (t : TS) (w : WSX) : Prop where
  ps : PSs X st t
  snd : SndX X.K W t w
structure DEX (X : Cx) (W : WX) (e : Expr) (t : TE) (w : WEX) : Prop where
  pe : PE X e t
  snd : SndEX X.K W t w
section
variable {X : Cx} {W : WX} {e cnd : Expr} {es : List Expr} {t : TE} {w : WE} {wx : WEX} {tA : TA} {wA : WA} {tt : TT} {wt : WT} {st : Stmt} {A B rest body : List Stmt} {tS uS : TS} {wS vS : WS} {wX vX : WSX} {pos p : Pos} {x : Str} {C : Addr} {fld : Str} {k : Nat}
theorem dx_of1 (h : DS X st tS wS) : DX1 X W st tS (fun _ => wS) := ⟨h.ps, fun c G H env σ D E xq f _ hw L => h.snd c G H env σ D E f hw L⟩
theorem dx_of (h : DSs X A tS wS) : DXs X W A tS (fun _ => wS) := ⟨h.ps, fun c G H env σ D E xq f _ hw L => h.snd c G H env σ D E f hw L⟩
theorem dx_one (h : DX1 X W st tS wX) : DXs X W [st] tS wX := ⟨pss_one h.ps, h.snd⟩
theorem dx_nil : DXs X W [] tNext (fun _ => wNext) := dx_of dss_nil
theorem dx_cons (h1 : DX1 X W st tS wX) (h2 : DXs X W rest uS vX) : DXs X W (st :: rest) (tSeq tS uS) (fun xq => wThen (wX xq) (vX xq)) := ⟨pss_cons h1.ps h2.ps, fun c G H env σ D E xq f lx hw L =>
  h1.snd c G H env σ { D with nx := uS D } { E with nx := fun env' => vX xq env' E } xq f lx hw ⟨fun G' H' env' σ' f' hw' => h2.snd c G' H' env' σ' D E xq f' lx hw' L, L.rt, L.bk, L.ct⟩⟩
theorem dx_if (hc : DT X cnd tt wt) (ha : DXs X W A tS wX) (hb : DXs X W B uS vX) : DX1 X W (.If cnd A B pos) (tIfS tt tS uS) (fun xq => wIf wt (wX xq) (vX xq)) := ⟨ps_if hc.pt ha.ps hb.ps, fun c G H env σ D E xq f lx hw L => hc.snd c G H env σ _ _ f hw fun b G' H' f' s hq => by
  cases b with
  | true => exact iteT (ha.snd c G' H' env σ D E xq f' lx hq L)
  | false => exact iteF (hb.snd c G' H' env σ D E xq f' lx hq L)⟩
theorem rf_one {G : Hp} {d : D} {v : V} (r : R X.K G d v) : RF X.K G [(fld, d)] [(fld, v)] := by
  unfold RF
  exact ⟨v, [], rfl, r, by unfold RF; rfl⟩
/-- raise C(e), C an exception class with one field -/
def wRaise (C : Addr) (fld : Str) (wA : WA) : WSX := fun xq env E => wA env fun ds => match ds with | [d] => xq (.ref C) [(fld, d)] env | _ => False
theorem dx_raise {pos2 : Pos} (hc : X.calm = true) (tk : Takes X W) (T : YX.X1 X.prog X.K C fld) (hr : Room (k + 1) X.A) (hg : Gl X x) (hm : X.mg x = some (.ref C)) (ha : DA X (e :: es) tA wA)
    (hdb : (x == ("__debug__" : Str)) = false := by decide) (he : starEach (e :: es) X.env = (false, eval e X.env) :: starEach es X.env := by rfl) (hpl : (backTo pos (starEach es X.env)).any (·.1) = false := by rfl) :
    DX1 X W (.Raise (some (.Call (.Name x p) (e :: es) [] pos)) none pos2) (fun _ σ H => YX.tMkX C fld tA σ H fun cls d H' => W cls d σ H') (wRaise C fld wA) :=
  ⟨L2.ps_raise hc tk (YX.pmk_x1 T hr hg hm ha.pa hdb he hpl), fun c G H env σ D E xq f lx hw L => ha.snd c G H env σ _ _ f hw fun vs ds G1 H1 f1 s1 r1 hq => by
    split at hq
    · rename_i d
      obtain ⟨v, us, rfl, r2, r3⟩ := r1.consE
      cases r3.nilE
      refine ⟨v, rfl, fun dd hn => ?_⟩
      have g := f1.newG (o := .xd [(fld, v)]) hn
      exact lx _ _ env σ (.ref C) dd [(fld, d)] [(fld, v)] (f1.step g) upd_same (rf_one (r2.mono g.gg)) hq
    · exact hq.elim⟩
theorem dx_expr (h : DEX X W e t wx) (hs : swapsWith e none pos.line X.env = pure false := by rfl) : DX1 X W (.Expr e pos) (tDrop t) (fun xq => wExpr (wx xq)) :=
  ⟨ps_expr h.pe hs, fun c G H env σ D E xq f lx hw L => h.snd c G H env σ _ _ xq f lx hw fun v d G' H' f' s r hq => L.nx G' H' env σ f' hq⟩
theorem dx_ret (h : DEX X W e t wx) : DX1 X W (.Return (some e) pos) (tRet t) (fun xq => wRet (wx xq)) := ⟨ps_ret h.pe, fun c G H env σ D E xq f lx hw L => h.snd c G H env σ _ _ xq f lx hw fun v d G' H' f' s r hq => L.rt v d G' H' env σ f' r hq⟩
theorem dx_set {i : Nat} (hN : X.N.Nodup) (hi : X.N[i]? = some x) (hx : Loc X.env.scope x) (h : DEX X W e t wx) (hs : swapsWith e (some (.Name x p)) pos.line X.env = pure false := by rfl) (hf : X.fn x = true ∨ X.env.scope.names.lookup x = some .local := by first | exact .inl rfl | exact .inr rfl) :
    DX1 X W (.Assign [.Name x p] e pos) (tAsg t (gName i)) (fun xq => wSet i (wx xq)) := ⟨ps_set hN hi hx h.pe hs hf, fun c G H env σ D E xq f lx hw L => h.snd c G H env σ _ _ xq f lx hw fun v d G' H' f' s r hq => L.nx G' H' _ _ (f'.setD i r) hq⟩
/-- plain data in; out plain data or an exception -/
abbrev WDX := List D → (D → Prop) → (Value → List (Str × D) → Prop) → Prop
def spX (K : PySem.W.Frag) (Wd : WDX) : Sp := fun vs H Q E => ∃ (G : Hp) (ds : List D) (q : D → Prop) (xq : Value → List (Str × D) → Prop), Same G H ∧ RL K G ds vs ∧ Wd ds q xq ∧
  (∀ v d G' H', Same H H' → Same G G' → Same G' H' → (∀ a o, H a = some o → G a = none → G' a = none) → R K G' d v → q d → Q v H') ∧
  ∀ cls d fs ws G' H', Same H H' → Same G G' → Same G' H' → (∀ a o, H a = some o → G a = none → G' a = none) → G' d = some (.xd ws) → RF K G' fs ws → xq cls fs → E cls (some d) H'
structure Dx (P : Program) (w : World) (K : PySem.W.Frag) (mg : Str → Option Value) (base : Heap) (k : Nat) (x : Str) (ps : List Str) (Wd : WDX) : Prop where
  ex : ∃ f fd, FnOk P w K mg base (L2.CX P w) k f fd ps (spX K Wd) ∧ mg x = some (.ref f) ∧ PySem.W.keepIn K (.ref f) = true ∧ Binds K fd ps []
def wCallX (Wd : WDX) (wA : WA) : WEX := fun xq env q => wA env fun ds => Wd ds q fun cls fs => xq cls fs env
theorem de_clX {ps : List Str} {Wd : WDX} (F : Dx X.prog X.w X.K X.mg X.base k x ps Wd) (hr : Room k X.A) (hg : Gl X x) (tk : Takes X W) (ha : DA X (e :: es) tA wA) (hdb : (x == ("__debug__" : Str)) = false := by decide) (he : starEach (e :: es) X.env = (false, eval e X.env) :: starEach es X.env := by rfl) (hpl : (backTo pos (starEach es X.env)).any (·.1) = false := by rfl) :
    DEX X W (.Call (.Name x p) (e :: es) [] pos) (tCallS (spX X.K Wd) (L2.WE W) tA) (wCallX Wd wA) := by
  obtain ⟨f, fd, F, hm, hk, hb⟩ := F.ex
  refine ⟨pe_callS F hr hg hm hk hb (passAt tk) ha.pa hdb he hpl, fun c G H env σ Q q xq f lx hw k => ha.snd c G H env σ _ _ f hw fun vs ds G1 H1 f1 s1 r1 hq => ?_⟩
  refine ⟨G1, ds, q, _, f1.gh, r1, hq, fun v d G' H' h1 h2 h3 h4 r hq' => ?_, fun cls d fs ws G' H' h1 h2 h3 h4 hd r hx => ?_⟩
  · have g := gr_call f1 h1 h2 h3 h4
    exact k v d G' H' (f1.step g) (s1.trans g) r hq'
  · have g := gr_call f1 h1 h2 h3 h4
    exact lx G' H' env σ cls d fs ws (f1.step g) hd r hx
theorem de_clXK {K : PySem.W.Frag} {ps : List Str} {Wd : WDX} (F : Dx X.prog X.w K X.mg X.base k x ps Wd) (hr : Room k X.A) (hg : Gl X x) (tk : Takes X W) (ha : DA X (e :: es) tA wA) (hK : X.K = K := by rfl) (hdb : (x == ("__debug__" : Str)) = false := by decide) (he : starEach (e :: es) X.env = (false, eval e X.env) :: starEach es X.env := by rfl) (hpl : (backTo pos (starEach es X.env)).any (·.1) = false := by rfl) :
    DEX X W (.Call (.Name x p) (e :: es) [] pos) (tCallS (spX K Wd) (L2.WE W) tA) (wCallX Wd wA) := by subst hK; exact de_clX F hr hg tk ha hdb he hpl
/-- fault.f in the suite of `except C as fault` -/
def wXf (i : Nat) (a d : Addr) (f : Str) : WE := fun env q => match env[i]? with | some (.ex a' d' fs) => a' = a ∧ d' = d ∧ ∃ y, fs.lookup f = some y ∧ q y | _ => False
theorem rf_get {K : PySem.W.Frag} {G : Hp} {f : Str} {y : D} : ∀ {fs : List (Str × D)} {ws : List (Str × V)}, RF K G fs ws → fs.lookup f = some y → ∃ v, ws.lookup f = some v ∧ R K G y v
  | [], _, _, e => by cases e
  | (g, d) :: fs, ws, r, e => by
    unfold RF at r
    obtain ⟨v, r', rfl, h1, h2⟩ := r
    rw [List.lookup_cons] at e ⊢
    cases hb : f == g with
    | true => rw [hb] at e; cases e; exact ⟨v, rfl, h1⟩
    | false => rw [hb] at e; exact rf_get h2 e
theorem de_xf {a d : Addr} {oe : Obj} {pn : List (Addr × Obj)} {n y : Str} {i : Nat} (T : XfC X.K C) (hno : PySem.W.findIn X.K (.ref C) n = some none)
    (hz : Zc (.ref C) (some d) oe) (hf : ∃ vs, oe.data = .fields vs) (hv : PE (X.suite a ((a, oe) :: pn)) (.Name y p) (tVar i)) (hb : attributeBase (.Name y p) n X.env (eval (.Name y p) X.env) = eval (.Name y p) X.env := by rfl) :
    DE (X.suite a ((a, oe) :: pn)) (.Attribute (.Name y p) n pos) (tXf a (.ref C) (some d) C n (tVar i)) (wXf i a d n) :=
  ⟨pe_xf T hno hz hf hv hb, fun c G H env σ Q q f hw k => by
    unfold wXf at hw
    split at hw
    · rename_i a' d' fs e
      obtain ⟨rfl, rfl, y, hy, hq⟩ := hw
      obtain ⟨o, e1, rfl, ws, h1, h2⟩ := f.get e
      obtain ⟨v, l, r⟩ := rf_get h2 hy
      exact ⟨_, e1, rfl, rfl, _, ws, v, rfl, f.gh _ _ h1, l, k v y G H f (Gr.refl f) r hq⟩
    · exact hw.elim⟩
/-- try: body except C as n: suite -/
def wTry (i : Nat) (C : Value) (wb : WSX) (ws : Addr → Addr → WS) : WS := fun env E => wb (fun cls fs env' => cls = C ∧ ∀ a d, ws a d (env'.set i (.ex a d fs)) { nx := fun env2 => E.nx (env2.set i .no), rt := E.rt, bk := fun env2 => E.bk (env2.set i .no), ct := fun env2 => E.ct (env2.set i .no) }) env E
theorem ds_try {n : Str} {C : Value} {i : Nat} {b₀ : Stmt} {suite : List Stmt} {np pos' : Pos} {tb : WX → TS} {wb : WSX} {ts : Addr → Addr → TS} {ws : Addr → Addr → WS} (hs : X.stack = X.env :: X.outer) (hf : X.env.frame = some X.env.locals) (hN : X.N.Nodup) (hi : X.N[i]? = some n) (hln : X.env.kindOf n = some .local) (hc : Names X x C)
    (hex : PySem.W.exmOne X.K C C = some true)
    (hb : ∀ (W : WX) (pn : List (Addr × Obj)) (xe : Value → Shared → Prop), Takes (X.tr pn xe) W → DXs (X.tr pn xe) W body (tb W) wb)
    (hsu : ∀ (a d : Addr) (oe : Obj) (pn : List (Addr × Obj)), Zc C (some d) oe → (∃ vs, oe.data = .fields vs) → DSs (X.suite a ((a, oe) :: pn)) (b₀ :: suite) (ts a d) (ws a d)) :
    DS X (.Try body [.ExceptHandler (some (.Name x np)) (some n) (b₀ :: suite) pos'] [] [] pos) (fun D σ H => tb (wAs X.K C i (fun a cls d D' σ' H' => ∃ dd, cls = C ∧ d = some dd ∧ ts a dd D' σ' H') (fun _ _ _ _ => False) D) D σ H) (wTry i C wb ws) := by
  refine ⟨L2.ps_try_as hs hf hN hi hln hc (takes0 (X := X)) (fun W pn xe tk _ => (hb W pn xe tk).ps) (fun a oe cls d pn hz hfl => ⟨fun pins s σ H D I h => ?_⟩), fun c G H env σ D E f hw L => ?_⟩
  · obtain ⟨dd, rfl, rfl, h⟩ := h
    exact (hsu a dd oe pn hz hfl).ps.run pins s σ H D I h
  · refine (hb _ [] (fun _ _ => True) (fun _ _ _ => trivial)).snd c G H env σ D E _ f ?_ hw L
    rintro G' H' env' σ' cls d fs vs f' hd r ⟨rfl, hx⟩
    refine ⟨true, hex, fun _ a ha => ⟨d, rfl, rfl, ?_⟩, fun z => by cases z⟩
    exact (hsu a d ⟨cls, some d, .fields #[], #[]⟩ [] ⟨rfl, rfl⟩ ⟨_, rfl⟩).snd c G' H' _ _ _ _ (f'.set i (s := .ex a d fs) ⟨rfl, vs, hd, r⟩ fun b e => by cases e) (hx a d)
        ⟨fun G2 H2 env2 σ2 f2 hq => L.nx G2 H2 _ _ (f2.setNo i none) hq, L.rt, fun G2 H2 env2 σ2 f2 hq => L.bk G2 H2 _ _ (f2.setNo i none) hq, fun G2 H2 env2 σ2 f2 hq => L.ct G2 H2 _ _ (f2.setNo i none) hq⟩
end
section
variable {P : Program} {w : World} {K : PySem.W.Frag} {mg : Str → Option Value} {base : Heap}
theorem dxf_of {x : Str} {st : Stmt} {N ps : List Str} {k : Nat} {Wd : WDX} (h0 : Here K mg x ps st) (S : FnScope N ps (defScope st)) (hW : ∀ ds q xq, Wd ds q xq → ds.length = ps.length)
    (h : ∀ (f : Addr) (cdv : Value) (A : Around) (outer : List Env) (s : Shared) (H : Hp) (E : XK), Room k (A.deeper (PyProof.Rows.envOfC x (defScope st) s.heap.objs.size f cdv)) →
      ∃ t wS, DXs (cxOf (L2.CX P w) P w K mg base N x (defScope st) f cdv A outer s H E) (fun cls d _ H' => E cls d H') (defBody st) t wS ∧ ∀ ds q xq, Wd ds q xq → wS (fun cls fs _ => xq cls fs) (env0 N.length ds) { nx := fun _ => q .non, rt := q }) : Dx P w K mg base (k + 1) x ps Wd := by
  obtain ⟨f, fd, F, hm, hb⟩ := h0.ex
  refine ⟨f, fd, F.okX S (fun vs H Q E hsp => ?_) (fun cdv A outer s H vs Q E hr hsp => ?_), hm, F.kp, hb⟩
  · obtain ⟨G, ds, q, xq, _, r, hw, _⟩ := hsp
    rw [r.length]; exact hW ds q xq hw
  · obtain ⟨G, ds, q, xq, sg, r, hw, fin, finx⟩ := hsp
    obtain ⟨t, wS, D, hD⟩ := h f cdv A outer s H E hr
    refine ⟨t, D.ps, ?_⟩
    have hl : ds.length ≤ N.length := by
      rw [hW ds q xq hw]
      have := congrArg List.length S.pre
      rw [List.length_take] at this
      omega
    have f0 := fr_start N sg r hl
    refine D.snd _ G H _ _ _ _ _ f0 (fun G' H' env σ cls d fs ws f' hd rf hx => ?_) (hD ds q xq hw) ⟨fun G' H' env σ f' hq => fin _ _ G' H' (fun a o e => f'.hb a o e (by intro z; cases z)) f'.gg f'.gh f'.old R.non_ hq,
      fun v d G' H' env σ f' r' hq => fin v d G' H' (fun a o e => f'.hb a o e (by intro z; cases z)) f'.gg f'.gh f'.old r' hq, fun _ _ _ _ _ z => z.elim, fun _ _ _ _ _ z => z.elim⟩
    exact finx cls d fs ws G' H' (fun a o e => f'.hb a o e (by intro z; cases z)) f'.gg f'.gh f'.old hd rf hx
end
end Y

/-! enumerate of lists and tuples -/
namespace YE
open PySem PySem.Spec PyProof.Rows L2
theorem meets_enum1 {v : Value} {o : Obj} {H : Heap → Prop} (B : Begins v o H) :
    Meets (Builtin.«enumerate.__new__» ⟨[.type "enumerate", v], []⟩) (fun _ R s => H s.heap ∧
      R (.ok (.ret (.ref (s.heap.push o).objs.size))) { s with heap := (s.heap.push o).push { cls := .type "enumerate", data := .fields #[.none, .bool false, .ref s.heap.objs.size, rawInt 0, .none, .none] } }) :=
  .of_wp fun prog w A R s h => by
    obtain ⟨hp, g, d, tk, os⟩ := s; obtain ⟨h1, h⟩ := h
    have hsub := sub_enumerate
    have q1 : ∀ {A' : Around} {E : Value → Shared → Prop} {Q : Value → Shared → Prop}, Q (.ref hp.objs.size) ⟨hp.push o, g, d, tk, os⟩ → wpAny (model prog w) A' (pyIter v) Q E ⟨hp, g, d, tk, os⟩ :=
      fun q => B.iter prog w _ _ ⟨hp, g, d, tk, os⟩ _ h1 q
    wp_walk using q1
    refine wpAny_stack_any fun st => wpAny_pure ?_
    split
    · rename_i c _ _ _ _ _
      cases (c == Value.type "enumerate")
      · wp_walk using q1
        exact ⟨_, rfl, h⟩
      · wp_walk using q1
        exact ⟨_, rfl, h⟩
    · wp_walk using q1
      exact ⟨_, rfl, h⟩
section
variable {prog : Program} {w : World} {A : Around} {E : Value → Shared → Prop} {s : Shared}
theorem call_enumB {v : Value} {o : Obj} {H : Heap → Prop} {Q : Value → Shared → Prop} (B : Begins v o H) (h1 : H s.heap)
    (h : ∀ h', IsEnum h' (s.heap.objs.size + 1) s.heap.objs.size 0 .none → h'.get? s.heap.objs.size = some o → h'.objs.size = s.heap.objs.size + 2 →
      (∀ b o, s.heap.get? b = some o → h'.get? b = some o) → Q (.ref (s.heap.objs.size + 1)) { s with heap := h' }) :
    wpAny (model prog w) A (call (.type "enumerate") [v]) Q E s := by
  refine callType_new F.called_enumerate (by decide) (F.typeCall_enumerate_1 _) (F.newCall_enumerate_1 _) (fun obj => F.args_object_init_2 obj _) F.entry_enumerate_new
    (meets_enum1 B) ⟨h1, ?_⟩
  have hz : (s.heap.push o).objs.size = s.heap.objs.size + 1 := Heap.size_push ..
  show _ ∧ _
  rw [hz]
  have he : IsEnum ((s.heap.push o).push { cls := .type "enumerate", data := .fields #[.none, .bool false, .ref s.heap.objs.size, rawInt 0, .none, .none] }) (s.heap.objs.size + 1) s.heap.objs.size 0 .none := by
    have := Heap.get?_push_size (s.heap.push o) (o := { cls := .type "enumerate", data := .fields #[.none, .bool false, .ref s.heap.objs.size, rawInt 0, .none, .none] }) rfl
    rw [hz] at this; exact this
  refine ⟨⟨_, he, rfl⟩, h _ he (Heap.get?_push_of_some _ (Heap.get?_push_size _ B.free)) (by rw [Heap.size_push, hz]) fun b o x => Heap.get?_push_of_some _ (Heap.get?_push_of_some _ x)⟩
end
/-- the tuple at a as it stands at each turn, each item in a new pair -/
def IteT (K : PySem.W.Frag) (a : Addr) : It :=
  ⟨fun i H => ∃ (xs : List V) (x : V), SqT K H a xs ∧ xs[i]? = some x, fun i H v H' => ∃ T x, v = .ref T ∧ H T = none ∧ H' = upd H T (.tup [.int (i : Nat), x]) ∧ ∀ xs, SqT K H a xs → xs[i]? = some x, fun i H => ∃ xs : List V, SqT K H a xs ∧ xs.length = i⟩
theorem turn_enumT {P : Program} {w : World} {K : PySem.W.Frag} {elts : List Expr} {kk : Nat} {tpos : Pos} (a e it : Addr) :
    Turn P w K (.Tuple elts kk tpos) (IteT K a) [e, it] e (fun i h => (∃ old, IsEnum h e it ((i : Nat) : Int) old) ∧ h.IsTupleIter it a i ∧ e ≠ it ∧ a ≠ it ∧ e ≠ a) where
  mem := by simp
  obj := fun i h st b hb => by
    obtain ⟨⟨old, he⟩, ⟨o, ho, hc, hd⟩, _⟩ := st
    have e' : b = e ∨ b = it := by simpa using hb
    rcases e' with z | z
    · rw [z]; exact ⟨_, he, fun v q => nomatch q⟩
    · rw [z]; exact ⟨o, ho, fun v q => by rw [hd] at q; cases q⟩
  keep := fun i h h' st k => let ⟨⟨old, he⟩, hi, hne⟩ := st; ⟨⟨old, k e (by simp) _ he⟩, hi.at fun o q => k it (by simp) o q, hne⟩
  item := by
    intro X hP hw hK hc i pins s σ H E I hf st hg
    subst hP hw hK
    obtain ⟨⟨old, he⟩, hit, hne, hai, hea⟩ := st
    obtain ⟨xs, x, hq, hx⟩ := hg
    obtain ⟨its, rv, p, hz⟩ := I.tuple hq
    obtain ⟨u, hu, ru⟩ := rv.get hx
    have hel : e < s.heap.objs.size := Heap.lt_size he
    have hil : it < s.heap.objs.size := by obtain ⟨_, q, _⟩ := hit; exact Heap.lt_size q
    have hilt : i < its.toArray.size := by simpa using (List.getElem?_eq_some_iff.mp hu).1
    refine wpAny_pyNext_enum_itemD (Draws.tuple (A := X.A.in1) (I.ok.hd hc) it a hai its.toArray) he ⟨hit, p⟩ hilt hne (by simp [hne, hea]) fun x' h' tk hPx ho hit' hT hsz hk => ?_
    have ex : x' = u := by
      have : its.toArray[i]? = some x' := hPx
      rw [show its.toArray[i]? = some u from by simpa using hu] at this
      exact (Option.some.inj this).symm
    subst ex
    refine ⟨_, rfl, wpAny_letOwnedTupleGo_enum (s := { s with heap := h', toks := tk + 1 }) ho fun h'' he' sb => ?_⟩
    have hT2 : h''.get? s.heap.objs.size = some { cls := .type "tuple", data := .seq #[.int i tk, x'] } := (sb.2 _ (Nat.ne_of_gt hel)).trans hT
    have new : ObjOk X.prog X.w (upd H s.heap.objs.size (.tup [.int (i : Nat), x])) h'' s.heap.objs.size (.tup [.int (i : Nat), x]) :=
      ⟨by show 2 ≤ sizeLine; decide, [.int i tk, x'], .cons ⟨_, rfl⟩ (.cons ru .nil), ⟨_, hT2, rfl, _, rfl⟩⟩
    have I1 : Inv X pins σ (upd H s.heap.objs.size (.tup [.int (i : Nat), x])) { s with heap := h'', toks := tk + 1 } :=
      I.turnedNew (ch := [e, it]) (fun b ob hb q => (sb.2 b (fun z => hb (by simp [z]))).trans (hk b ob (fun z => hb (by simp [z])) (fun z => hb (by simp [z])) q)) hf (Nat.le_refl _) new
    refine ⟨.ref s.heap.objs.size, _, I1, rfl, ⟨_, x, rfl, I.hok.fresh (Nat.le_refl _), rfl, fun ys hy => by rw [I.tuple_inj hy hq]; exact hx⟩, ⟨⟨x', ?_⟩, hit'.1.at fun o q => (sb.2 it (Ne.symm hne)).trans q, hne, hai, hea⟩, fun b hb => ?_⟩
    · have e1 : ((i + 1 : Nat) : Int) = (i : Int) + 1 := by omega
      rw [e1]; exact he'
    · have hb' : b < s.heap.objs.size := by
        have e' : b = e ∨ b = it := by simpa using hb
        rcases e' with z | z
        · rw [z]; exact hel
        · rw [z]; exact hil
      rw [upd_ne (Nat.ne_of_lt hb')]
      exact (hf b hb).1
  done := by
    intro X hP hw hK hc i pins s σ H E I hf st hg
    subst hP hw hK
    obtain ⟨⟨old, he⟩, hit, hne, hai, hea⟩ := st
    obtain ⟨xs, hq, hx⟩ := hg
    obtain ⟨its, rv, p, hz⟩ := I.tuple hq
    obtain ⟨f0, f1, f2, f3, f4, f5⟩ := hf it (by simp)
    have hl := rv.length
    have e : its.toArray.size = i := by simp; omega
    exact wpAny_pyNext_enum_endD (n := its.toArray.size) (Draws.tuple (A := X.A.in1) (I.ok.hd hc) it a hai its.toArray) he ⟨e ▸ hit, p⟩ fun h' eb => ⟨rfl, I.turned (t' := s.toks) (fun b o hb q => eb b o hb q) f0 f1 f3 f4 f5⟩
  self := fun A i s Q E st h => let ⟨⟨_, he⟩, _⟩ := st; wpAny_pyIter_enum he h
def iEnumA (K : PySem.W.Frag) (ta : TA) : TI := fun σ H R => ta σ H fun vs H1 => ∃ a xs, vs = [.ref a] ∧ ((SqL K H1 a xs ∧ R (Ite K a) H1) ∨ (SqT K H1 a xs ∧ R (IteT K a) H1))
theorem pi_enumA {X : Cx} {e : Expr} {ta : TA} {p pos tpos : Pos} {elts : List Expr} {kk : Nat} (hg : Gl X "enumerate") (hm : X.mg "enumerate" = none) (ha : PA X [e] ta) (hs : starEach [e] X.env = [(false, eval e X.env)] := by rfl) :
    PI X (.Tuple elts kk tpos) (.Call (.Name "enumerate" p) [e] [] pos) (iEnumA X.K ta) := by
  refine ⟨fun pins s σ H R I h => ?_⟩
  refine Call_ (ld_blt I hg hm boot_enumerate (PyProof.Rows.callWith_type1 (thn (ha.run pos pins s σ H _ I h) fun us s1 ⟨vs, H1, I1, r1, q1⟩ => ?_) hs rfl))
  obtain ⟨a, xs, ex, q1⟩ := q1
  subst ex
  cases r1 with
  | cons r rr =>
    cases rr
    cases r
    have fp : ∀ b, b ∈ [s1.heap.objs.size + 1, s1.heap.objs.size] → FpOk X pins H1 b := fun b hb => by
      have e' : b = s1.heap.objs.size + 1 ∨ b = s1.heap.objs.size := by simpa using hb
      have hle : s1.heap.objs.size ≤ b := by
        rcases e' with z | z
        · rw [z]; exact Nat.le_add_right _ _
        · rw [z]; exact Nat.le_refl _
      exact I1.fpOk hle (I1.hok.fresh hle)
    rcases q1 with ⟨hq, q⟩ | ⟨hq, q⟩
    · obtain ⟨its, rv, p', hz⟩ := I1.list hq
      refine call_enumerate_list p'.isList fun h' he hit hsz hk => wpAny_pyIter_enum he ?_
      have I2 : Inv X pins σ H1 { s1 with heap := h' } := I1.kept (t' := s1.toks) hk
      exact ⟨s1.heap.objs.size + 1, [s1.heap.objs.size + 1, s1.heap.objs.size], _, _, H1, rfl, I2, turn_enum a (s1.heap.objs.size + 1) s1.heap.objs.size, ⟨⟨.none, he⟩, hit, Nat.succ_ne_self _⟩, fp, q⟩
    · obtain ⟨its, rv, p', hz⟩ := I1.tuple hq
      obtain ⟨o1, ho1, _⟩ := id p'
      have hlt : a < s1.heap.objs.size := Heap.lt_size ho1
      refine call_enumB (begins_tuple a its.toArray) p' fun h' he hit hsz hk => wpAny_pyIter_enum he ?_
      have I2 : Inv X pins σ H1 { s1 with heap := h' } := I1.kept (t' := s1.toks) hk
      exact ⟨s1.heap.objs.size + 1, [s1.heap.objs.size + 1, s1.heap.objs.size], _, _, H1, rfl, I2, turn_enumT a (s1.heap.objs.size + 1) s1.heap.objs.size, ⟨⟨.none, he⟩, ⟨_, hit, rfl, rfl⟩, Nat.succ_ne_self _, Nat.ne_of_lt hlt, Nat.ne_of_gt (Nat.lt_succ_of_lt hlt)⟩, fp, q⟩
end YE
namespace Y
open PySem L2
def enumD (ds : List D) : List D := (List.range ds.length).map fun i => .tup [.int (i : Nat), (ds[i]?).getD .non]
theorem enumD_get {ds : List D} {i : Nat} {d : D} (h : (enumD ds)[i]? = some d) : ∃ x, ds[i]? = some x ∧ d = .tup [.int (i : Nat), x] := by
  unfold enumD at h
  rw [List.getElem?_map] at h
  by_cases hi : i < ds.length
  · rw [List.getElem?_range hi] at h
    have e := List.getElem?_eq_getElem hi
    cases h
    exact ⟨_, e, by show D.tup [D.int (i : Nat), (ds[i]?).getD D.non] = _; rw [e]; rfl⟩
  · rw [List.getElem?_eq_none (by rw [List.length_range]; omega)] at h; cases h
theorem enumD_len {ds : List D} : (enumD ds).length = ds.length := by unfold enumD; rw [List.length_map, List.length_range]
section
variable {K : PySem.W.Frag} {X : Cx} {e : Expr} {tA : TA} {wA : WA} {pos : Pos}
theorem wk_enumL {c : Ctx} {P : Hp → Hp → Prop} {ds : List D} {a : Addr} (hP : ∀ G H, P G H → (∃ env σ, Fr K c G H env σ) ∧ ∃ vs, H a = some (.lst vs) ∧ RL K G ds vs) : Wk K c.da P (Ite K a) (enumD ds) := by
  refine ⟨fun G1 H1 p i d hd => ?_, fun G1 H1 p => ?_⟩
  · obtain ⟨⟨env, σ, f⟩, vs, h1, h2⟩ := hP G1 H1 p
    obtain ⟨x, e1, rfl⟩ := enumD_get hd
    obtain ⟨v, g1, g2⟩ := h2.get e1
    refine ⟨⟨vs, v, SqL.of h1, g1⟩, fun x H2 yy => ?_⟩
    obtain ⟨T, v', rfl, hT, rfl, k1⟩ := yy
    have e3 := one_of g1 (k1 _ (SqL.of h1))
    subst e3
    exact gr_pair f hT R.int_ g2
  · obtain ⟨_, vs, h1, h2⟩ := hP G1 H1 p
    exact ⟨vs, SqL.of h1, by rw [enumD_len, h2.length]; exact Nat.le_refl _⟩
theorem wk_enumT {c : Ctx} {P : Hp → Hp → Prop} {ds : List D} {a : Addr} (hP : ∀ G H, P G H → (∃ env σ, Fr K c G H env σ) ∧ ∃ vs, SqT K G a vs ∧ RL K G ds vs) : Wk K c.da P (YE.IteT K a) (enumD ds) := by
  refine ⟨fun G1 H1 p i d hd => ?_, fun G1 H1 p => ?_⟩
  · obtain ⟨⟨env, σ, f⟩, vs, h1, h2⟩ := hP G1 H1 p
    obtain ⟨x, e1, rfl⟩ := enumD_get hd
    obtain ⟨v, g1, g2⟩ := h2.get e1
    refine ⟨⟨vs, v, sqt_same f.gh h1, g1⟩, fun x H2 yy => ?_⟩
    obtain ⟨T, v', rfl, hT, rfl, k1⟩ := yy
    have e3 := one_of g1 (k1 _ (sqt_same f.gh h1))
    subst e3
    exact gr_pair f hT R.int_ g2
  · obtain ⟨⟨env, σ, f⟩, vs, h1, h2⟩ := hP G1 H1 p
    exact ⟨vs, sqt_same f.gh h1, by rw [enumD_len, h2.length]⟩
/-- enumerate of a list or of a tuple -/
def wEnum (wA : WA) : WA := fun env q => wA env fun ds => match ds with | [.lst xs] => q (enumD xs) | [.tup xs] => q (enumD xs) | _ => False
theorem di_enum {elts : List Expr} {kk : Nat} {p tpos : Pos} (hg : Gl X "enumerate") (hm : X.mg "enumerate" = none) (ha : DA X [e] tA wA) (hs : starEach [e] X.env = [(false, eval e X.env)] := by rfl) :
    DI X (.Tuple elts kk tpos) (.Call (.Name "enumerate" p) [e] [] pos) (YE.iEnumA X.K tA) (wEnum wA) := ⟨YE.pi_enumA hg hm ha.pa hs, fun c G H env σ Rr q f hw k => ha.snd c G H env σ _ _ f hw fun vs ds G' H' f' s r hq => by
  split at hq
  · obtain ⟨v, us, rfl, r1, r2⟩ := r.consE
    rw [r2.nilE]
    obtain ⟨a, vs, rfl, h1, h2⟩ := r1.lstE
    refine ⟨a, vs, rfl, .inl ⟨SqL.of (f'.gh _ _ h1), k _ _ G' H' f' s (wk_enumL fun G1 H1 p => ?_) hq⟩⟩
    obtain ⟨s1, env1, σ1, f1⟩ := p
    exact ⟨⟨env1, σ1, f1⟩, vs, f1.gh _ _ (s1 _ _ h1), RL.mono s1 _ _ h2⟩
  · obtain ⟨v, us, rfl, r1, r2⟩ := r.consE
    rw [r2.nilE]
    obtain ⟨a, vs, rfl, h1, h2⟩ := r1.tupE
    refine ⟨a, vs, rfl, .inr ⟨sqt_same f'.gh h1, k _ _ G' H' f' s (wk_enumT fun G1 H1 p => ?_) hq⟩⟩
    obtain ⟨s1, env1, σ1, f1⟩ := p
    exact ⟨⟨env1, σ1, f1⟩, vs, sqt_same s1 h1, RL.mono s1 _ _ h2⟩
  · exact hq.elim⟩
end
end Y

/-! rows of statements behind one another -/
namespace Y
open PySem L2
theorem wp_app {M : Model} {A : Around} {env : Env} {Q : Flow → Shared → Prop} {E : Value → Shared → Prop} {bs : List Stmt} (Γ) (hΓ : Γ.In A) : ∀ (as : List Stmt) (p : Pos) (s : Shared),
    Sem.wp M Γ (execs as env) (fun f _ s' => match f with | .next => wpAny M A (execs bs env) Q E s' | f => Q f s') (fun e _ s' => E e s') p s → Sem.wp M Γ (execs (as ++ bs) env) (fun f _ s' => Q f s') (fun e _ s' => E e s') p s
  | [], p, s, h => by
    have h' : wpAny M A (execs bs env) Q E s := h
    exact h' Γ p hΓ
  | a :: as, p, s, h => by
    rw [execs_cons, Sem.wp_bind'] at h
    rw [List.cons_append, execs_cons, Sem.wp_bind']
    refine Sem.wp_mono M Γ _ (fun f p' s' h' => ?_) (fun _ _ _ h' => h') _ _ h
    cases f with
    | next => exact wp_app Γ hΓ as p' s' h'
    | _ => exact h'
theorem wpAny_app {M : Model} {A : Around} {env : Env} {Q : Flow → Shared → Prop} {E : Value → Shared → Prop} {as bs : List Stmt} {s : Shared}
    (h : wpAny M A (execs as env) (fun f s' => match f with | .next => wpAny M A (execs bs env) Q E s' | f => Q f s') E s) : wpAny M A (execs (as ++ bs) env) Q E s := fun Γ p hΓ => wp_app Γ hΓ as p s (h Γ p hΓ)
section
variable {X : Cx} {as bs : List Stmt} {t u : TS} {wS vS : WS}
theorem pss_app (h1 : PSs X as t) (h2 : PSs X bs u) : PSs X (as ++ bs) (tSeq t u) := by
  refine ⟨fun pins s σ H D I h => ?_⟩
  refine wpAny_app (thn (h1.run pins s σ H { D with nx := u D } (I) h) fun f s1 q => ?_)
  cases f with
  | next =>
    obtain ⟨σ', H', I', q⟩ := q
    exact h2.run pins s1 σ' H' D I' q
  | ret v => exact q
  | brk => exact q
  | cont => exact q
theorem dss_app (h1 : DSs X as t wS) (h2 : DSs X bs u vS) : DSs X (as ++ bs) (tSeq t u) (wThen wS vS) := ⟨pss_app h1.ps h2.ps, fun c G H env σ D E f hw L =>
  h1.snd c G H env σ { D with nx := u D } { E with nx := fun env' => vS env' E } f hw ⟨fun G' H' env' σ' f' hw' => h2.snd c G' H' env' σ' D E f' hw' L, L.rt, L.bk, L.ct⟩⟩
end
end Y

/-! dicts: new ones, of ours, frozen -/
namespace Y
open PySem L2
/-! ### keys -/
def kD : Key → D
  | .inl i => .int i
  | .inr s => .str s
def keyD : D → Option Key
  | .int i => some (.inl i)
  | .str s => some (.inr s)
  | _ => none
def valD (kvs : List (Key × D)) (k : Key) : Option D := (kvs.find? fun kv => decide (kv.1 = k)).map (·.2)
def putD (kvs : List (Key × D)) (k : Key) (d : D) : List (Key × D) :=
  if (kvs.any fun kv => decide (kv.1 = k)) = true then kvs.map (fun kv => if kv.1 = k then (kv.1, d) else kv) else kvs ++ [(k, d)]
theorem valD_pos {p : Key × D} {r : List (Key × D)} {k : Key} (e : p.1 = k) : valD (p :: r) k = some p.2 := by simp [valD, List.find?_cons, e]
theorem valD_neg {p : Key × D} {r : List (Key × D)} {k : Key} (e : ¬ p.1 = k) : valD (p :: r) k = valD r k := by simp [valD, List.find?_cons, e]
section
variable {K : PySem.W.Frag} {H G : Hp}
theorem RK.consE {k : Key} {d : D} {ds : List (Key × D)} {vs : List (Key × V)} (h : RK K H ((k, d) :: ds) vs) : ∃ v r, vs = (k, v) :: r ∧ R K H d v ∧ RK K H ds r := by unfold RK at h; exact h
theorem RK.nilE {vs : List (Key × V)} (h : RK K H [] vs) : vs = [] := by unfold RK at h; exact h
theorem RK.nil : RK K H [] [] := by unfold RK; rfl
theorem RK.cons {k : Key} {d : D} {v : V} {ds : List (Key × D)} {vs : List (Key × V)} (h : R K H d v) (g : RK K H ds vs) : RK K H ((k, d) :: ds) ((k, v) :: vs) := by unfold RK; exact ⟨v, vs, rfl, h, g⟩
theorem RK.length : ∀ {ds : List (Key × D)} {vs : List (Key × V)}, RK K H ds vs → vs.length = ds.length
  | [], _, h => by rw [h.nilE]; rfl
  | (k, d) :: ds, _, h => by obtain ⟨v, r, rfl, _, h2⟩ := h.consE; rw [List.length_cons, List.length_cons, RK.length h2]
theorem RK.keys : ∀ {ds : List (Key × D)} {vs : List (Key × V)}, RK K H ds vs → vs.map (·.1) = ds.map (·.1)
  | [], _, h => by rw [h.nilE]; rfl
  | (k, d) :: ds, _, h => by obtain ⟨v, r, rfl, _, h2⟩ := h.consE; rw [List.map_cons, List.map_cons, RK.keys h2]
theorem RK.append : ∀ {ds es : List (Key × D)} {vs us : List (Key × V)}, RK K H ds vs → RK K H es us → RK K H (ds ++ es) (vs ++ us)
  | [], _, _, _, h, g => by rw [h.nilE]; exact g
  | (k, d) :: ds, _, _, _, h, g => by obtain ⟨v, r, rfl, h1, h2⟩ := h.consE; exact .cons h1 (RK.append h2 g)
theorem RK.val : ∀ {ds : List (Key × D)} {vs : List (Key × V)} (k : Key), RK K H ds vs → match valD ds k with | some d => ∃ v, valV vs k = some v ∧ R K H d v | none => valV vs k = none
  | [], _, k, h => by rw [h.nilE]; rfl
  | (j, d) :: ds, _, k, h => by
    obtain ⟨v, r, rfl, h1, h2⟩ := h.consE
    by_cases e : j = k
    · rw [valD_pos (p := (j, d)) e]; exact ⟨v, valV_pos (p := (j, v)) e, h1⟩
    · rw [valD_neg (p := (j, d)) e, valV_neg (p := (j, v)) e]; exact RK.val k h2
theorem RK.get : ∀ {ds : List (Key × D)} {vs : List (Key × V)} {i : Nat} {k : Key} {d : D}, RK K H ds vs → ds[i]? = some (k, d) → ∃ v, vs[i]? = some (k, v) ∧ R K H d v
  | [], _, _, _, _, _, e => by simp at e
  | (j, x) :: ds, _, 0, k, d, h, e => by
    obtain ⟨v, r, rfl, h1, _⟩ := h.consE
    simp at e
    obtain ⟨rfl, rfl⟩ := e
    exact ⟨v, rfl, h1⟩
  | (j, x) :: ds, _, i + 1, k, d, h, e => by
    obtain ⟨v, r, rfl, _, h2⟩ := h.consE
    obtain ⟨u, h3, h4⟩ := RK.get (i := i) h2 (by simpa using e)
    exact ⟨u, by simpa using h3, h4⟩
theorem RK.repl {k : Key} {d : D} {v : V} (hd : R K H d v) : ∀ {ds : List (Key × D)} {vs : List (Key × V)}, RK K H ds vs → RK K H (ds.map fun kv => if kv.1 = k then (kv.1, d) else kv) (vs.map fun kv => if kv.1 = k then (kv.1, v) else kv)
  | [], _, h => by rw [h.nilE]; exact .nil
  | (j, x) :: ds, _, h => by
    obtain ⟨u, r, rfl, h1, h2⟩ := h.consE
    rw [List.map_cons, List.map_cons]
    by_cases e : j = k
    · rw [if_pos (show (j, x).1 = k from e), if_pos (show (j, u).1 = k from e)]; exact .cons hd (RK.repl hd h2)
    · rw [if_neg (show ¬ (j, x).1 = k from e), if_neg (show ¬ (j, u).1 = k from e)]; exact .cons h1 (RK.repl hd h2)
theorem any_keys {α : Type} (k : Key) : ∀ kvs : List (Key × α), (kvs.any fun kv => decide (kv.1 = k)) = (kvs.map (·.1)).any fun j => decide (j = k)
  | [] => rfl
  | p :: r => by rw [List.any_cons, List.map_cons, List.any_cons, any_keys k r]
theorem RK.put {ds : List (Key × D)} {vs : List (Key × V)} (r : RK K H ds vs) (k : Key) {d : D} {v : V} (hd : R K H d v) : RK K H (putD ds k d) (putK vs k v) := by
  unfold putD putK
  rw [any_keys k ds, any_keys k vs, r.keys]
  split
  · exact r.repl hd
  · exact r.append (.cons hd .nil)
theorem R.key {d : D} {v : V} {k : Key} (r : R K H d v) (e : keyD d = some k) : v = kV k := by
  cases d with
  | int i => cases e; exact r
  | str s => cases e; exact r
  | _ => cases e
theorem R.kD {k : Key} : R K H (kD k) (kV k) := by cases k <;> exact rfl
theorem R.dctE {kvs : List (Key × D)} {v : V} (h : R K H (.dct kvs) v) : ∃ a o ws, v = .ref a ∧ H a = some (.frz o (.dK ws)) ∧ RK K H kvs ws := by unfold R at h; exact h
theorem R.dct {a : Addr} {o : Obj} {kvs : List (Key × D)} {ws : List (Key × V)} (h : H a = some (.frz o (.dK ws))) (r : RK K H kvs ws) : R K H (.dct kvs) (.ref a) := by unfold R; exact ⟨a, o, ws, rfl, h, r⟩
theorem RH.dct {kvs : List (Key × D)} {v : V} (h : RH K G H (.dct kvs) v) : ∃ a ws, v = .ref a ∧ Rd H a (.dK ws) ∧ RK K G kvs ws := h
end
/-! ### locking for good -/
section
variable {X : Cx} {e : Expr} {t : TE} {tS : TS} {st : Stmt}
def tFrz (t : TE) : TE := fun σ H Q => t σ H fun v H1 => ∃ a u, v = .ref a ∧ H1 a = some u ∧ Mut (some u) ∧ ∀ od, Q v (upd H1 a (.frz od u))
theorem pe_frz (h : PE X e t) : PE X e (tFrz t) := ⟨fun pins s σ H Q I hw => thn (h.run pins s σ H _ I hw) fun v s1 ⟨x, H1, I1, r, a, u, ex, hu, mu, q⟩ => by
  obtain ⟨od, I2⟩ := I1.lock hu mu
  exact ⟨x, _, I2, r, q od⟩⟩
def tFrzS (t : TS) : TS := fun D σ H => t D σ H ∨ ∃ d u, H d = some u ∧ Mut (some u) ∧ ∀ od, t D σ (upd H d (.frz od u))
theorem ps_frz (h : PS X st tS) : PS X st (tFrzS tS) := ⟨fun pins s σ H D I hw => by
  rcases hw with hw | ⟨d, u, hd, mu, hw⟩
  · exact h.run pins s σ H D I hw
  · obtain ⟨od, I1⟩ := I.lock hd mu
    exact h.run pins s σ _ D I1 (hw od)⟩
end
/-! ### new dicts -/
abbrev WM := List Sl → (List (Key × D) → Prop) → Prop
def SndM (K : PySem.W.Frag) (t : TE) (w : WM) : Prop := ∀ (c : Ctx) (G H : Hp) (env : List Sl) (σ : L2.St) (Q : VK) (q : List (Key × D) → Prop), Fr K c G H env σ → w env q →
  (∀ a ws kvs G' H', Fr K c G' H' env σ → Gr K c.da G H G' H' → H' a = some (.dK ws) → RK K G' kvs ws → G' a = none → c.H0 a = none → H a = none → NoOwn env σ a → q kvs → Q (.ref a) H') → t σ H Q
structure DM (X : Cx) (e : Expr) (t : TE) (w : WM) : Prop where
  pe : PE X e t
  snd : SndM X.K t w
def wM (w : WM) : WE := fun env q => w env fun kvs => q (.dct kvs)
section
variable {K : PySem.W.Frag} {X : Cx} {e a b tg iter kx vx : Expr} {t ta tb tk tv : TE} {w wa wb wk wv : WE} {wm : WM} {tA : TA} {wA : WA} {tt : TT} {wt : WT} {pos p : Pos} {x : Str}
theorem gr_frz {c : Ctx} {G H G' H' : Hp} {env : List Sl} {σ : L2.St} (f : Fr K c G H env σ) (s : Gr K c.da G H G' H') {a : Addr} {o0 o1 : HO} (h1 : H' a = some o0) (h2 : G' a = none) (na : H a = none) : Gr K c.da G H (upd G' a o1) (upd H' a o1) := by
  have sm : Same G' (upd G' a o1) := fun b o hb => by rw [upd_ne (ne_of_none hb h2)]; exact hb
  refine ⟨s.gg.trans sm, fun b o hb => ?_, fun b o hb n => by rw [upd_ne (ne_of_none hb na)]; exact s.hh b o hb n, fun x o hx n => by rw [upd_ne (ne_of_none hx na)]; exact s.old x o hx n, fun x e => ?_⟩
  · by_cases e : b = a
    · rw [e, upd_same] at hb ⊢; exact hb
    · rw [upd_ne e] at hb ⊢; exact s.gh b o hb
  · obtain ⟨_, z, k, ns, h4, _⟩ := f.dr x e
    have nx : x ≠ a := ne_of_none h4 na
    exact (s.dr x e).same sm (by rw [upd_ne nx]; exact (s.dr x e).1) fun o q => by rw [upd_ne nx]; exact q
theorem DM.toE (h : DM X e t wm) : DE X e (tFrz t) (wM wm) := ⟨pe_frz h.pe, fun c G H env σ Q q f hw k => h.snd c G H env σ _ _ f hw fun a ws kvs G' H' f' s h1 r h2 h3 na no hq =>
  ⟨a, _, rfl, h1, trivial, fun od => by
    have g := gr_frz (o1 := .frz od (.dK ws)) f s h1 h2 na
    have sm : Same G' (upd G' a (.frz od (.dK ws))) := fun b o hb => by rw [upd_ne (ne_of_none hb h2)]; exact hb
    exact k (.ref a) (.dct kvs) _ _ (f.step g) g (.dct upd_same (RK.mono sm _ _ r)) hq⟩⟩
theorem dm_new : DM X (.Dict [] [] pos) tDNewK (fun _ q => q []) := ⟨pe_dnewK, fun c G H env σ Q q f hw k p hp =>
  k p [] [] G _ (f.step (f.newH hp)) (f.newH hp) upd_same .nil (f.gnone hp) (f.h0none hp) hp (f.noOwn hp) hw⟩
theorem Fr.setOd {c : Ctx} {G H : Hp} {env : List Sl} {σ : L2.St} (f : Fr K c G H env σ) (i : Nat) {a : Addr} {vs : List (Key × V)} {ds : List (Key × D)} (h1 : H a = some (.dK vs)) (h2 : RK K G ds vs) (h3 : G a = none) (h4 : c.H0 a = none) (no : NoOwn env σ a) : Fr K c G H (env.set i (.od ds)) (σ.set i (some (.ref a))) :=
  f.set i ⟨a, vs, rfl, h1, h2, h3, h4⟩ fun b e => by rw [List.mem_singleton.mp e]; exact no
def wSetM (i : Nat) (w : WM) : WS := fun env E => w env fun kvs => E.nx (env.set i (.od kvs))
theorem ds_setM {i : Nat} (hN : X.N.Nodup) (hi : X.N[i]? = some x) (hx : Loc X.env.scope x) (h : DM X e t wm) (hs : swapsWith e (some (.Name x p)) pos.line X.env = pure false := by rfl) (hf : X.fn x = true ∨ X.env.scope.names.lookup x = some .local := by first | exact .inl rfl | exact .inr rfl) :
    DS X (.Assign [.Name x p] e pos) (tAsg t (gName i)) (wSetM i wm) := ⟨ps_set hN hi hx h.pe hs hf, fun c G H env σ D E f hw L => h.snd c G H env σ _ _ f hw fun a ws kvs G' H' f' s h1 h2 h3 h4 _ no hq => L.nx G' H' _ _ (f'.setOd i h1 h2 h3 h4 no) hq⟩
/-- a dict of ours is frozen ahead of a statement -/
def wFrzD (i : Nat) (w : WS) : WS := fun env E => match env[i]? with | some (.od kvs) => w (env.set i (.d (.dct kvs))) E | some (.d d) => w env E | _ => False
theorem ds_frzD {st : Stmt} {tS : TS} {w : WS} (i : Nat) (h : DS X st tS w) : DS X st (tFrzS tS) (wFrzD i w) := ⟨ps_frz h.ps, fun c G H env σ D E f hw L => by
  unfold wFrzD at hw
  split at hw
  · rename_i kvs e
    obtain ⟨a, vs, e1, h1, h2, hf⟩ := f.freezeD e
    exact .inr ⟨a, _, h1, trivial, fun od => h.snd c _ _ _ σ D E (hf od).2 hw L⟩
  · exact .inl (h.snd c G H env σ D E f hw L)
  · exact hw.elim⟩
/-! ### read -/
def wDGet (wa wb : WE) : WE := fun env q => wa env fun d => wb env fun e => match d, keyD e with | .dct kvs, some k => (match valD kvs k with | some y => q y | none => False) | _, _ => False
theorem de_dget (hu : X.A.units + 64 < cLine) (ha : DB X a ta wa) (hb : DE X b tb wb) (hs : NoSl b := by exact fun _ _ => rfl) : DE X (.Subscript a b pos) (tDGet ta tb) (wDGet wa wb) := ⟨pe_dget (by omega) ha.pe hb.pe hs, fun c G H env σ Q q f hw k =>
  ha.snd c G H env σ _ _ f hw fun v d G1 H1 f1 s1 r1 hw1 => hb.snd c G1 H1 env σ _ _ f1 hw1 fun u e G2 H2 f2 s2 r2 hq => by
    split at hq
    · rename_i kvs ky he
      split at hq
      · rename_i y hy
        obtain ⟨a, ws, rfl, h1, h2⟩ := (r1 G2 H2 f2 s2.gg).dct
        have hv := h2.val ky
        rw [hy] at hv
        obtain ⟨v, e1, rv⟩ := hv
        exact ⟨a, v, rfl, .inl ⟨ws, ky, h1, r2.key he, e1.symm⟩, k v y G2 H2 f2 (s1.trans s2) rv hq⟩
      · exact hq.elim
    · exact hq.elim⟩
def kDIn (q : Bool → Prop) (neg : Bool) (e d : D) : Prop := match d, keyD e with | .dct kvs, some k => q (if neg then !(valD kvs k).isSome else (valD kvs k).isSome) | _, _ => False
def wDIn (neg : Bool) (wb wa : WE) : WT := fun env q => wb env fun e => wa env (kDIn q neg e)
theorem dget_of {c : Ctx} {G H : Hp} {kvs : List (Key × D)} {ws : List (Key × V)} {k : Key} {a : Addr} {u : V} (h1 : Rd H a (.dK ws)) (h2 : RK K G kvs ws) (hu : u = kV k) : ∃ o, DGet H a u o ∧ o.isSome = (valD kvs k).isSome := by
  refine ⟨_, .inl ⟨ws, k, h1, hu, rfl⟩, ?_⟩
  have := h2.val k
  cases e : valD kvs k with
  | none => rw [e] at this; rw [show valV ws k = none from this]; rfl
  | some d => rw [e] at this; obtain ⟨v, e1, _⟩ := this; rw [e1]; rfl
theorem dt_din (hu : X.A.units + 64 < cLine) (hb : DE X b tb wb) (ha : DB X a ta wa) (hm : behindInMarks .In a = false := by rfl) : DT X (.Compare b [.In] [a] pos) (tTest (tDIn tb ta)) (wDIn false wb wa) := ⟨pt_cmp (pc_din (by omega) hb.pe ha.pe) hm, fun c G H env σ Q q f hw k =>
  hb.snd c G H env σ _ _ f hw fun u e G1 H1 f1 s1 r1 hw1 => ha.snd c G1 H1 env σ _ _ f1 hw1 fun v d G2 H2 f2 s2 r2 hq => by
    unfold kDIn at hq
    split at hq
    · rename_i kvs ky he
      obtain ⟨a, ws, rfl, h1, h2⟩ := (r2 G2 H2 f2 (Same.refl _)).dct
      obtain ⟨o, g, eo⟩ := dget_of (c := c) h1 h2 ((r1.mono s2.gg).key he)
      refine ⟨a, o, rfl, g, _, rfl, ?_⟩
      rw [eo]
      exact k _ G2 H2 f2 (s1.trans s2) hq
    · exact hq.elim⟩
theorem dt_dnotin (hu : X.A.units + 64 < cLine) (hb : DE X b tb wb) (ha : DB X a ta wa) (hm : behindInMarks .NotIn a = false := by rfl) : DT X (.Compare b [.NotIn] [a] pos) (tTest (tDNotIn tb ta)) (wDIn true wb wa) := ⟨pt_cmp (pc_dnotin (by omega) hb.pe ha.pe) hm, fun c G H env σ Q q f hw k =>
  hb.snd c G H env σ _ _ f hw fun u e G1 H1 f1 s1 r1 hw1 => ha.snd c G1 H1 env σ _ _ f1 hw1 fun v d G2 H2 f2 s2 r2 hq => by
    unfold kDIn at hq
    split at hq
    · rename_i kvs ky he
      obtain ⟨a, ws, rfl, h1, h2⟩ := (r2 G2 H2 f2 (Same.refl _)).dct
      obtain ⟨o, g, eo⟩ := dget_of (c := c) h1 h2 ((r1.mono s2.gg).key he)
      refine ⟨a, o, rfl, g, _, rfl, ?_⟩
      rw [eo]
      exact k _ G2 H2 f2 (s1.trans s2) hq
    · exact hq.elim⟩
/-- d.get(k, x) -/
def kGet3 (q : D → Prop) (kvs : List (Key × D)) (e z : D) : Prop := match keyD e with | some k => q ((valD kvs k).getD z) | none => False
def kGet1 (wb wc : WE) (env : List Sl) (q : D → Prop) (d : D) : Prop := match d with | .dct kvs => wb env fun e => wc env (kGet3 q kvs e) | _ => False
def wDGet2 (wa wb wc : WE) : WE := fun env q => wa env (kGet1 wb wc env q)
theorem de_dget2 {y : Expr} {tc : TE} {wc : WE} {apos : Pos} (hu : X.A.units + 64 < cLine) (ha : DE X a ta wa) (hb : DE X b tb wb) (hc : DE X y tc wc) (m : M2 X a "get" apos b y pos := by exact ⟨rfl, rfl, rfl, rfl⟩) : DE X (.Call (.Attribute a "get" apos) [b, y] [] pos) (tDGet2 ta tb tc) (wDGet2 wa wb wc) := ⟨pe_dget2 (by omega) ha.pe hb.pe hc.pe m, fun c G H env σ Q q f hw k =>
  ha.snd c G H env σ _ _ f hw fun v d G1 H1 f1 s1 r1 hw1 => by
    unfold kGet1 at hw1
    split at hw1
    · rename_i kvs
      obtain ⟨a, o, ws, rfl, h1, h2⟩ := r1.dctE
      refine ⟨a, rfl, .inl ⟨ws, .inr ⟨o, f1.gh _ _ h1⟩⟩, ?_⟩
      refine hb.snd c G1 H1 env σ _ _ f1 hw1 fun u e G2 H2 f2 s2 r2 hw2 => hc.snd c G2 H2 env σ _ _ f2 hw2 fun z dz G3 H3 f3 s3 r3 hq => ?_
      unfold kGet3 at hq
      split at hq
      · rename_i ky he
        have h1' := f3.gh _ _ (s3.gg _ _ (s2.gg _ _ h1))
        have h2' := RK.mono (s2.gg.trans s3.gg) _ _ h2
        have hv := h2'.val ky
        have hu := (r2.mono s3.gg).key he
        have s13 := (s1.trans s2).trans s3
        cases e : valD kvs ky with
        | none =>
          rw [e] at hv hq
          exact ⟨none, .inl ⟨ws, ky, .inr ⟨o, h1'⟩, hu, (show valV ws ky = none from hv).symm⟩, k z dz G3 H3 f3 s13 r3 hq⟩
        | some d =>
          rw [e] at hv hq
          obtain ⟨v, e1, rv⟩ := hv
          exact ⟨some v, .inl ⟨ws, ky, .inr ⟨o, h1'⟩, hu, e1.symm⟩, k v d G3 H3 f3 s13 rv hq⟩
      · exact hq.elim
    · exact hw1.elim⟩
/-! ### written -/
def kPut3 (i : Nat) (E : DEnds) (env : List Sl) (kvs : List (Key × D)) (d e : D) : Prop := match keyD e with | some k => kvs.length < sizeLine ∧ E.nx (env.set i (.od (putD kvs k d))) | none => False
def wDPut (i : Nat) (wk wv : WE) : WS := fun env E => match env[i]? with | some (.od kvs) => wv env fun d => wk env (kPut3 i E env kvs d) | _ => False
theorem ds_dput (i : Nat) {pos' : Pos} (hu : X.A.units + 64 < cLine) (ha : PE X a (tVar i)) (hb : DE X b tb wb) (hv : DE X e t w) (hs : swapsWith e (some (.Subscript a b pos')) pos.line X.env = pure false := by rfl) :
    DS X (.Assign [.Subscript a b pos'] e pos) (sDPut (tVar i) tb t) (wDPut i wb w) := ⟨ps_dput (by omega) ha hb.pe hv.pe hs, fun c G H env σ D E f hw L => by
  unfold wDPut at hw
  split at hw
  · rename_i kvs he
    obtain ⟨a, ws, e1, h1, h2, h3, h4⟩ := f.getOd he
    refine hv.snd c G H env σ _ _ f hw fun v d G1 H1 f1 s1 r1 hw1 => ⟨.ref a, e1, ?_⟩
    refine hb.snd c G1 H1 env σ _ _ f1 hw1 fun u e G2 H2 f2 s2 r2 hq => ?_
    unfold kPut3 at hq
    split at hq
    · rename_i ky hk
      have s12 := s1.trans s2
      have h1' : H2 a = some (.dK ws) := s12.hh _ _ h1 (f.own_ne h4)
      have hr := (RK.mono s12.gg _ _ h2).put ky (r1.mono s2.gg)
      exact ⟨a, _, rfl, .inl ⟨ws, ky, h1', r2.key hk, by rw [h2.length]; exact hq.1, rfl⟩, L.nx G2 _ _ σ (f2.writeD he e1 hr) hq.2⟩
    · exact hq.elim
  · exact hw.elim⟩
/-! ### walks over frozen dicts -/
def pairD (kvs : List (Key × D)) : List D := kvs.map fun kv => .tup [kD kv.1, kv.2]
theorem wk_items {c : Ctx} {P : Hp → Hp → Prop} {ds : List (Key × D)} {a : Addr} {o : Obj} {ws : List (Key × V)} (hP : ∀ G H, P G H → (∃ env σ, Fr K c G H env σ) ∧ G a = some (.frz o (.dK ws)) ∧ RK K G ds ws) : Wk K c.da P (Iti a o ws) (pairD ds) := by
  refine ⟨fun G1 H1 p i d hd => ?_, fun G1 H1 p => ?_⟩
  · obtain ⟨⟨env, σ, f⟩, h1, h2⟩ := hP G1 H1 p
    unfold pairD at hd
    rw [List.getElem?_map] at hd
    cases e : ds[i]? with
    | none => rw [e] at hd; cases hd
    | some kv =>
      rw [e] at hd
      cases hd
      obtain ⟨v, g1, g2⟩ := h2.get (k := kv.1) (d := kv.2) e
      refine ⟨⟨f.gh _ _ h1, (List.getElem?_eq_some_iff.mp g1).1⟩, fun x H2 yy => ?_⟩
      obtain ⟨T, k, v', k1, rfl, hT, rfl⟩ := yy
      rw [g1] at k1; cases k1
      exact gr_pair f hT R.kD g2
  · obtain ⟨⟨env, σ, f⟩, h1, h2⟩ := hP G1 H1 p
    exact ⟨f.gh _ _ h1, by unfold pairD; rw [List.length_map, h2.length]; exact Nat.le_refl _⟩
theorem wk_vals {c : Ctx} {P : Hp → Hp → Prop} {ds : List (Key × D)} {a : Addr} {o : Obj} {ws : List (Key × V)} (hP : ∀ G H, P G H → (∃ env σ, Fr K c G H env σ) ∧ G a = some (.frz o (.dK ws)) ∧ RK K G ds ws) : Wk K c.da P (Itd a o ws) (ds.map (·.2)) := by
  refine ⟨fun G1 H1 p i d hd => ?_, fun G1 H1 p => ?_⟩
  · obtain ⟨⟨env, σ, f⟩, h1, h2⟩ := hP G1 H1 p
    rw [List.getElem?_map] at hd
    cases e : ds[i]? with
    | none => rw [e] at hd; cases hd
    | some kv =>
      rw [e] at hd
      cases hd
      obtain ⟨v, g1, g2⟩ := h2.get (k := kv.1) (d := kv.2) e
      refine ⟨⟨f.gh _ _ h1, (List.getElem?_eq_some_iff.mp g1).1⟩, fun x H2 yy => ?_⟩
      obtain ⟨rfl, k, k1⟩ := yy
      rw [g1] at k1; cases k1
      exact ⟨G1, Gr.refl f, g2⟩
  · obtain ⟨⟨env, σ, f⟩, h1, h2⟩ := hP G1 H1 p
    exact ⟨f.gh _ _ h1, by rw [List.length_map, h2.length]; exact Nat.le_refl _⟩
theorem wk_keys {c : Ctx} {P : Hp → Hp → Prop} {ds : List (Key × D)} {a : Addr} {o : Obj} {ws : List (Key × V)} (hP : ∀ G H, P G H → (∃ env σ, Fr K c G H env σ) ∧ G a = some (.frz o (.dK ws)) ∧ RK K G ds ws) : Wk K c.da P (Itk a o ws) (ds.map fun kv => kD kv.1) := by
  refine ⟨fun G1 H1 p i d hd => ?_, fun G1 H1 p => ?_⟩
  · obtain ⟨⟨env, σ, f⟩, h1, h2⟩ := hP G1 H1 p
    rw [List.getElem?_map] at hd
    cases e : ds[i]? with
    | none => rw [e] at hd; cases hd
    | some kv =>
      rw [e] at hd
      cases hd
      obtain ⟨v, g1, g2⟩ := h2.get (k := kv.1) (d := kv.2) e
      refine ⟨⟨f.gh _ _ h1, (List.getElem?_eq_some_iff.mp g1).1⟩, fun x H2 yy => ?_⟩
      obtain ⟨rfl, k, v', k1, rfl⟩ := yy
      rw [g1] at k1; cases k1
      exact ⟨G1, Gr.refl f, R.kD⟩
  · obtain ⟨⟨env, σ, f⟩, h1, h2⟩ := hP G1 H1 p
    exact ⟨f.gh _ _ h1, by rw [List.length_map, h2.length]; exact Nat.le_refl _⟩
def wDIt (g : List (Key × D) → List D) (w : WE) : WA := fun env q => w env fun d => match d with | .dct kvs => q (g kvs) | _ => False
theorem di_items {elts : List Expr} {kk : Nat} {apos tpos cpos : Pos} (ha : DE X e t w) (hbase : attributeBase e "items" X.env (eval e X.env) = eval e X.env := by rfl) (hline : (apos.endLine == cpos.line) = true := by rfl) :
    DI X (.Tuple elts kk tpos) (.Call (.Attribute e "items" apos) [] [] cpos) (iItems t) (wDIt pairD w) := ⟨pi_items ha.pe hbase hline, fun c G H env σ Rr q f hw k => ha.snd c G H env σ _ _ f hw fun v d G' H' f' s r hq => by
  split at hq
  · obtain ⟨a, o, ws, rfl, h1, h2⟩ := r.dctE
    refine ⟨a, o, ws, rfl, f'.gh _ _ h1, k _ _ G' H' f' s (wk_items fun G1 H1 p => ?_) hq⟩
    obtain ⟨s1, env1, σ1, f1⟩ := p
    exact ⟨⟨env1, σ1, f1⟩, s1 _ _ h1, RK.mono s1 _ _ h2⟩
  · exact hq.elim⟩
theorem di_values {apos cpos : Pos} (ha : DE X e t w) (hbase : attributeBase e "values" X.env (eval e X.env) = eval e X.env := by rfl) (hline : (apos.endLine == cpos.line) = true := by rfl) :
    DI X tg (.Call (.Attribute e "values" apos) [] [] cpos) (iVals t) (wDIt (fun kvs => kvs.map (·.2)) w) := ⟨pi_values ha.pe hbase hline, fun c G H env σ Rr q f hw k => ha.snd c G H env σ _ _ f hw fun v d G' H' f' s r hq => by
  split at hq
  · obtain ⟨a, o, ws, rfl, h1, h2⟩ := r.dctE
    refine ⟨a, o, ws, rfl, f'.gh _ _ h1, k _ _ G' H' f' s (wk_vals fun G1 H1 p => ?_) hq⟩
    obtain ⟨s1, env1, σ1, f1⟩ := p
    exact ⟨⟨env1, σ1, f1⟩, s1 _ _ h1, RK.mono s1 _ _ h2⟩
  · exact hq.elim⟩
theorem di_keys (ha : DE X e t w) : DI X tg e (iKeys t) (wDIt (fun kvs => kvs.map fun kv => kD kv.1) w) := ⟨pi_keys ha.pe, fun c G H env σ Rr q f hw k => ha.snd c G H env σ _ _ f hw fun v d G' H' f' s r hq => by
  split at hq
  · obtain ⟨a, o, ws, rfl, h1, h2⟩ := r.dctE
    refine ⟨a, o, rfl, .inl ⟨ws, f'.gh _ _ h1, k _ _ G' H' f' s (wk_keys fun G1 H1 p => ?_) hq⟩⟩
    obtain ⟨s1, env1, σ1, f1⟩ := p
    exact ⟨⟨env1, σ1, f1⟩, s1 _ _ h1, RK.mono s1 _ _ h2⟩
  · exact hq.elim⟩
end
end Y

/-! dicts: displays, comprehensions, built-ins; in of nested data -/
namespace Y
open PySem L2
section
variable {K : PySem.W.Frag} {X : Cx} {e a b tg iter kx vx : Expr} {t ta tb tk tv : TE} {w wa wb wk wv : WE} {wm : WM} {tA : TA} {wA : WA} {tt : TT} {wt : WT} {pos p : Pos} {x : Str}
/-! ### {k: v, ..} -/
def RP (K : PySem.W.Frag) (G : Hp) : List (D × D) → List (V × V) → Prop
  | [], ps => ps = []
  | (d, e) :: ds, ps => ∃ v u r, ps = (v, u) :: r ∧ R K G d v ∧ R K G e u ∧ RP K G ds r
theorem RP.mono {G G' : Hp} (s : Same G G') : ∀ {ds : List (D × D)} {ps : List (V × V)}, RP K G ds ps → RP K G' ds ps
  | [], _, h => h
  | (d, e) :: ds, _, ⟨v, u, r, h, h1, h2, h3⟩ => ⟨v, u, r, h, h1.mono s, h2.mono s, RP.mono s h3⟩
theorem RP.cons {G : Hp} {d e : D} {ds : List (D × D)} {v u : V} {r : List (V × V)} (h1 : R K G d v) (h2 : R K G e u) (h3 : RP K G ds r) : RP K G ((d, e) :: ds) ((v, u) :: r) := by unfold RP; exact ⟨v, u, r, rfl, h1, h2, h3⟩
abbrev WPr := List Sl → (List (D × D) → Prop) → Prop
def SndP (K : PySem.W.Frag) (trs : List (TE × TE)) (w : WPr) : Prop := ∀ (c : Ctx) (G H : Hp) (env : List Sl) (σ : L2.St) (Q : List (V × V) → Hp → Prop) (q : List (D × D) → Prop), Fr K c G H env σ → w env q →
  (∀ ps ds G' H', Fr K c G' H' env σ → Gr K c.da G H G' H' → RP K G' ds ps → q ds → Q ps H') → tPairs trs σ H Q
structure DP (X : Cx) (pos : Pos) (keys : List (Option Expr)) (values : List Expr) (trs : List (TE × TE)) (w : WPr) : Prop where
  pp : PPs X pos keys values trs
  snd : SndP X.K trs w
theorem dp_nil : DP X pos [] [] [] (fun _ q => q []) := ⟨pps_nil, fun c G H env σ Q q f hw k => k [] [] G H f (Gr.refl f) rfl hw⟩
theorem dp_cons {ks : List (Option Expr)} {vs : List Expr} {trs : List (TE × TE)} {wP : WPr} (hk : DE X a tk wk) (hv : DE X b tv wv) (hr : DP X pos ks vs trs wP) :
    DP X pos (some a :: ks) (b :: vs) ((tk, tv) :: trs) (fun env q => wk env fun d => wv env fun e => wP env fun ds => q ((d, e) :: ds)) := ⟨pps_cons hk.pe hv.pe hr.pp, fun c G H env σ Q q f hw k =>
  hk.snd c G H env σ _ _ f hw fun v d G1 H1 f1 s1 r1 hw1 => hv.snd c G1 H1 env σ _ _ f1 hw1 fun u e G2 H2 f2 s2 r2 hw2 => hr.snd c G2 H2 env σ _ _ f2 hw2 fun ps ds G3 H3 f3 s3 r3 hq =>
    k _ _ G3 H3 f3 ((s1.trans s2).trans s3) (.cons (r1.mono (s2.gg.trans s3.gg)) (r2.mono s3.gg) r3) hq⟩
def keysD : List (D × D) → Option (List (Key × D))
  | [] => some []
  | (d, e) :: r => match keyD d, keysD r with | some k, some l => some ((k, e) :: l) | _, _ => none
theorem rp_keys {G : Hp} : ∀ {ds : List (D × D)} {ps : List (V × V)} {l : List (Key × D)}, RP K G ds ps → keysD ds = some l → ∃ ws : List (Key × V), ps = ws.map (fun kv => (kV kv.1, kv.2)) ∧ RK K G l ws
  | [], _, _, h, e => by cases e; exact ⟨[], h, .nil⟩
  | (d, x) :: ds, _, l, ⟨v, u, r, h, h1, h2, h3⟩, e => by
    unfold keysD at e
    split at e
    · rename_i k l' ek el
      cases e
      obtain ⟨ws, e1, r1⟩ := rp_keys h3 el
      exact ⟨(k, u) :: ws, by rw [h, e1, h1.key ek]; rfl, .cons h2 r1⟩
    · cases e
def mergeD (kvs more : List (Key × D)) : List (Key × D) := more.foldl (fun acc kv => putD acc kv.1 kv.2) kvs
theorem rk_merge {G : Hp} : ∀ {more : List (Key × D)} {ws : List (Key × V)} {kvs : List (Key × D)} {vs : List (Key × V)}, RK K G more ws → RK K G kvs vs → RK K G (mergeD kvs more) (mergeK vs ws)
  | [], _, _, _, h, g => by rw [h.nilE]; exact g
  | (k, d) :: more, _, _, _, h, g => by
    obtain ⟨v, r, rfl, h1, h2⟩ := h.consE
    exact rk_merge (more := more) (ws := r) h2 (g.put k h1)
def kDisp (q : List (Key × D) → Prop) (ds : List (D × D)) : Prop := match keysD ds with | some l => l.length ≤ 15 ∧ q (mergeD [] l) | none => False
theorem dm_disp {keys : List (Option Expr)} {values : List Expr} {trs : List (TE × TE)} {wP : WPr} (h : DP X pos keys values trs wP) (hall : keys.all (·.isSome) = true := by rfl) (hl : keys.length = values.length := by rfl) (h0 : keys ≠ [] := by intro z; cases z) (h15 : keys.length ≤ 15 := by decide) :
    DM X (.Dict keys values pos) (tDisp trs) (fun env q => wP env (kDisp q)) := ⟨pe_disp h.pp hall hl h0 h15, fun c G H env σ Q q f hw k p hp => by
  have g0 := f.newH (o := .dK []) hp
  have f0 := f.step g0
  refine h.snd c G _ env σ _ _ f0 hw fun ps ds G1 H1 f1 s1 r1 hq => ?_
  unfold kDisp at hq
  split at hq
  · rename_i l el
    obtain ⟨ws, e1, r2⟩ := rp_keys r1 el
    have nda : c.da ≠ some p := f.own_ne (f.h0none hp)
    have e2 : H1 p = some (.dK []) := s1.hh _ _ upd_same nda
    have gp : G1 p = none := s1.old _ _ upd_same (f.gnone hp)
    refine ⟨e2, ws, e1, by rw [r2.length]; exact hq.1, ?_⟩
    have hr : RK X.K G1 (mergeD [] l) (mergeK [] ws) := rk_merge r2 .nil
    have gt := g0.trans s1
    have g2 : Gr X.K c.da G H G1 (upd H1 p (.dK (mergeK [] ws))) := by
      refine ⟨gt.gg, fun b o hb => by rw [upd_ne (ne_of_none hb gp)]; exact gt.gh b o hb, fun b o hb n => by rw [upd_ne (ne_of_none hb hp)]; exact gt.hh b o hb n, gt.old, fun b e => ?_⟩
      have nb : b ≠ p := fun z => nda (z ▸ e)
      exact (gt.dr b e).same (Same.refl _) (gt.dr b e).1 fun o q => by rw [upd_ne nb]; exact q
    exact k p _ _ G1 _ (f.step g2) g2 upd_same hr gp (f.h0none hp) hp (f.noOwn hp) hq.2
  · exact hq.elim⟩
/-! ### {k: v for ..} -/
def kDc' (wg : WG) (wt : WT) (wk we : WE) (vs : List Nat) (env : List Sl) (ql : List (Key × D) → Prop) (ds : List D) : Prop := ∃ I : Nat → List (Key × D) → Prop, I 0 [] ∧
  (∀ k d acc, ds[k]? = some d → I k acc → wg d (wipeE env vs) fun env2 => wt env2 fun b => match b with | true => wk env2 fun y => we env2 fun z => (match keyD y with | some ky => acc.length < sizeLine ∧ I (k + 1) (putD acc ky z) | none => False) | false => I (k + 1) acc) ∧
  ∀ acc, I ds.length acc → ql acc
@[irreducible] def kDc (wg : WG) (wt : WT) (wk we : WE) (vs : List Nat) (env : List Sl) (ql : List (Key × D) → Prop) (ds : List D) : Prop := kDc' wg wt wk we vs env ql ds
theorem kDc_i {wg : WG} {wt : WT} {wk we : WE} {vs : List Nat} {env : List Sl} {ql : List (Key × D) → Prop} {ds : List D} (h : kDc' wg wt wk we vs env ql ds) : kDc wg wt wk we vs env ql ds := by unfold kDc; exact h
theorem kDc_e {wg : WG} {wt : WT} {wk we : WE} {vs : List Nat} {env : List Sl} {ql : List (Key × D) → Prop} {ds : List D} (h : kDc wg wt wk we vs env ql ds) : kDc' wg wt wk we vs env ql ds := by unfold kDc at h; exact h
def wDc (wi : WA) (wg : WG) (wt : WT) (wk we : WE) (vs : List Nat) : WM := fun env q => wi env (kDc wg wt wk we vs env q)
theorem snd_dc {wi : TI} {wI : WA} {g : TG} {wg : WG} {ss : List Nat} {vs : List Nat}
    (hi : ∀ (c : Ctx) (G H : Hp) (env : List Sl) (σ : L2.St) (Rr : It → Hp → Prop) (q : List D → Prop), Fr K c G H env σ → wI env q → (∀ J ds G' H', Fr K c G' H' env σ → Gr K c.da G H G' H' → Wk K c.da (PFix K c G' env σ) J ds → q ds → Rr J H') → wi σ H Rr)
    (hg : ∀ (c : Ctx) (G H : Hp) (env : List Sl) (σ : L2.St) (v : V) (d : D) (Q : L2.St → Hp → Prop) (q : List Sl → Prop), Fr K c G H env σ → R K G d v → wg d env q → (∀ env' σ' G' H', Fr K c G' H' env' σ' → Gr K c.da G H G' H' → (∀ vs, (∀ i ∈ ss, i ∈ vs) → L2.wipe σ' vs = L2.wipe σ vs) → q env' → Q σ' H') → g v σ H Q)
    (ht : SndT K tt wt) (hk : Snd K tk wk) (he : Snd K tv wv) (hs : ∀ i ∈ ss, i ∈ vs) : SndM K (tDc wi g tt tk tv vs) (wDc wI wg wt wk wv vs) := fun c G H env σ Q q f hw k => by
  refine hi c G H env σ _ _ f hw fun J ds G1 H1 f1 s1 wk' hI => ?_
  obtain ⟨I, h0, hstep, hend⟩ := kDc_e hI
  intro D hD
  have nD : H D = none := s1.fresh hD
  have nDown : NoOwn env σ D := f1.noOwn hD
  have nD0 : c.H0 D = none := f1.h0none hD
  have nda : c.da ≠ some D := f1.own_ne nD0
  let Pv : Nat → Hp → Prop := fun k H' => ∃ G' acc us, Gr K c.da G1 H1 G' H' ∧ H' D = some (.dK us) ∧ RK K G' acc us ∧ G' D = none ∧ I k acc
  have start : Pv 0 (upd H1 D (.dK [])) := ⟨G1, [], [], f1.newH hD, upd_same, .nil, f1.gnone hD, h0⟩
  refine ⟨fun i m H' => m = ds.length - i ∧ i ≤ ds.length ∧ Pv i H', ⟨ds.length, by simp, Nat.zero_le _, start⟩, ?_⟩
  rintro i m H2 ⟨rfl, hi2, G2, acc, us, g2, eD, r2, gD, hI2⟩
  have f2 := f1.step g2
  by_cases hlt : i < ds.length
  · refine .inr ?_
    have hd : ds[i]? = some ds[i] := List.getElem?_eq_getElem hlt
    obtain ⟨go, yl⟩ := wk'.go G2 H2 ⟨g2.gg, f2⟩ i _ hd
    refine ⟨go, Pv (i + 1), fun H' p' => ⟨ds.length - (i + 1), by omega, rfl, hlt, p'⟩, fun x H3 y => ?_⟩
    obtain ⟨G3, g3, rx⟩ := yl x H3 y
    have f3 := f2.step g3
    refine hg c G3 H3 (wipeE env vs) (L2.wipe σ vs) x _ _ _ (f3.wipe vs) rx (hstep i _ acc hd hI2) fun env4 σ4 G4 H4 f4 g4 wp hq4 => ⟨?_, ?_⟩
    · rw [wp vs hs]
      exact wipe_wipe vs fun _ h => h
    · refine ht c G4 H4 env4 σ4 _ _ f4 hq4 fun b G5 H5 f5 g5 hq5 => ?_
      have g35 := (g3.trans g4).trans g5
      have eD5 : H5 D = some (.dK us) := g35.hh _ _ eD nda
      have gD5 : G5 D = none := g35.old _ _ eD gD
      cases b with
      | true =>
        refine iteT (hk c G5 H5 env4 σ4 _ _ f5 hq5 fun y dy G6 H6 f6 g6 r6 hq6 => he c G6 H6 env4 σ4 _ _ f6 hq6 fun z d G7 H7 f7 g7 r7 hq7 => ?_)
        split at hq7
        · rename_i ky hky
          have g57 := g6.trans g7
          have g27 := g35.trans g57
          have eD7 : H7 D = some (.dK us) := g57.hh _ _ eD5 nda
          have gD7 : G7 D = none := g57.old _ _ eD5 gD5
          have ra := RK.mono g27.gg _ _ r2
          refine ⟨us, ky, (r6.mono g7.gg).key hky, eD7, by rw [r2.length]; exact hq7.1, G7, putD acc ky d, putK us ky z, ?_, upd_same, ra.put ky r7, gD7, hq7.2⟩
          have gt := g2.trans g27
          refine ⟨gt.gg, fun b o hb => by rw [upd_ne (ne_of_none hb gD7)]; exact gt.gh b o hb, fun b o hb n => by rw [upd_ne (ne_of_none hb hD)]; exact gt.hh b o hb n, gt.old, fun b e => ?_⟩
          have nb : b ≠ D := fun z => nda (z ▸ e)
          exact (gt.dr b e).same (Same.refl _) (gt.dr b e).1 fun o q => by rw [upd_ne nb]; exact q
        · exact hq7.elim
      | false => exact iteF ⟨G5, acc, us, g2.trans g35, eD5, RK.mono g35.gg _ _ r2, gD5, hq5⟩
  · have e : i = ds.length := by omega
    subst e
    exact .inl ⟨wk'.stop G2 H2 ⟨g2.gg, f2⟩, k D us acc G2 H2 (f.step (s1.trans g2)) (s1.trans g2) eD r2 gD nD0 nD nDown (hend acc hI2)⟩
theorem dm_dc {ifs : List Expr} {scope : Scope} {own : List (Str × Nat)} {wi : TI} {wI : WA} {g : TG} {wg : WG} {ss : List Nat} (hc : X.calm = true) (hN : X.N.Nodup) (hi : DIB X tg iter wi wI) (ok : BlkOk X.N X.env.scope scope own)
    (hg : ∀ (s : Shared) (H : Hp) (C : Addr) (cl : List (Str × Addr)) (fp : List Addr), DG (X.blk s H scope (compEnvC scope cl C X.env) fp) tg g wg ss) (ht : ∀ (s : Shared) (H : Hp) (C : Addr) (cl : List (Str × Addr)) (fp : List Addr), DTs (X.blk s H scope (compEnvC scope cl C X.env) fp) ifs tt wt)
    (hk : ∀ (s : Shared) (H : Hp) (C : Addr) (cl : List (Str × Addr)) (fp : List Addr), DE (X.blk s H scope (compEnvC scope cl C X.env) fp) kx tk wk) (he : ∀ (s : Shared) (H : Hp) (C : Addr) (cl : List (Str × Addr)) (fp : List Addr), DE (X.blk s H scope (compEnvC scope cl C X.env) fp) vx tv wv)
    (hss : ∀ i ∈ ss, i ∈ own.map (·.2) := by decide) (hs : ∀ x, foldedSetIterable iter X.env x = pure x := by intro _; rfl) :
    DM X (.DictComp kx vx [⟨tg, iter, ifs, 0⟩] scope pos) (tDc wi g tt tk tv (own.map (·.2))) (wDc wI wg wt wk wv (own.map (·.2))) :=
  ⟨pe_dc hc hN hi.pi ok (fun s H C cl fp => (hg s H C cl fp).pg) (fun s H C cl fp => (ht s H C cl fp).pt) (fun s H C cl fp => (hk s H C cl fp).pe) (fun s H C cl fp => (he s H C cl fp).pe) hs,
    snd_dc hi.snd (hg X.s_0 X.H_0 0 [] []).snd (ht X.s_0 X.H_0 0 [] []).snd (hk X.s_0 X.H_0 0 [] []).snd (he X.s_0 X.H_0 0 [] []).snd hss⟩
end
end Y

/-! built-ins over dicts; in of nested data -/
namespace YL
open PySem PySem.Spec PyProof.Rows L2
theorem kv_vals {kvs : List (Key × V)} {vs : List (Key × Value)} (r : KV kvs vs) : Vals (kvs.map (·.2)) (vs.map (·.2)) := by
  unfold KV at r
  induction r with
  | nil => exact .nil
  | cons h t ih => exact .cons h.2 ih
def tListVals (te : TE) : TE := fun σ H Q => te σ H fun x H1 => ∃ d kvs, x = .ref d ∧ Rd H1 d (.dK kvs) ∧ ∀ p, H1 p = none → Q (.ref p) (upd H1 p (.lst (kvs.map (·.2))))
/-- list(e.values()) -/
theorem pe_listVals {X : Cx} {e : Expr} {te : TE} {p apos cpos pos : Pos} (hc : X.calm = true) (he : PE X e te) (hg : Gl X "list") (hm : X.mg "list" = none) (hv : bootBuiltins "list" = some (.type "list")) (hbase : attributeBase e "values" X.env (eval e X.env) = eval e X.env := by rfl) (hline : (apos.endLine == cpos.line) = true := by rfl)
    (hs : starEach [.Call (.Attribute e "values" apos) [] [] cpos] X.env = (false, eval (.Call (.Attribute e "values" apos) [] [] cpos) X.env) :: starEach [] X.env := by rfl) :
    PE X (.Call (.Name "list" p) [.Call (.Attribute e "values" apos) [] [] cpos] [] pos) (tListVals te) := by
  refine ⟨fun pins s σ H Q I hq => ?_⟩
  refine wpAny_Call_Name_kw (ld_blt I hg hm hv ?_)
  refine PyProof.Rows.callWith_type1 ?_ hs rfl
  rw [hs]
  show wpAny _ _ (spliced ((false, eval (.Call (.Attribute e "values" apos) [] [] cpos) X.env) :: backTo pos (starEach [] X.env))) _ _ s
  refine Calls.spliced_cons ?_
  refine wpAny_Call_method (T := "dict") (id := "dict.values") hbase rfl hline F.plainAttrs_dict F.slot_dict_values F.type_dict_values (thn (he.run pins s σ H _ I hq) fun u s1 ⟨x, H1, I1, rx, d, kvs, ex, hd, q⟩ => ?_)
  subst ex
  obtain rfl : u = Value.ref d := rx
  obtain ⟨z, lo, vs, rel, dd⟩ := dk_rd I1.hok hd
  obtain ⟨ep, hat⟩ := dd.dictAt
  have I2 : Inv X pins σ H1 { s1 with heap := s1.heap.push { cls := .type "dict_values", data := .fields #[.ref d] } } := I1.kept (t' := s1.toks) fun b ob q => Heap.get?_push_of_some _ q
  refine ⟨dd.typeIs, dd.mapOf.noDict, ?_⟩
  show wpAny _ _ (callWith cpos (.builtin "dict.values") [.ref d] [] []) _ X.xe s1
  refine method_meetsIn F.slot_dict_values F.entry_dict_values rfl (PySem.evalArgs_none ⟨rfl, dd.typeIs, F.args_dict_values_1 _, _, meets_dict_values (mixKind X.prog X.w) d lo, ⟨vs, dd⟩, ?_⟩)
  refine Calls.spliced_nil ?_
  refine PySem.W.kdl_call (PySem.W.kdl_values (knd := mixKind X.prog X.w) (kvs := vs) (ep := ep)) (I1.ok.hd hc) ⟨⟨_, Heap.get?_push_size _ rfl, rfl, rfl⟩, hat.push _⟩ (by rw [← rel.length]; exact z) fun h' tk acc c' hk hD hacc => ?_
  have ev : acc.toList = vs.map (·.2) := PySem.W.kdl_vals_eq acc.toList (by rw [Array.length_toList]; exact hacc.1) fun j v e => hacc.2 j v (by rw [← Array.getElem?_toList]; exact e)
  have J := I2.laid (t' := tk) (o := .lst (kvs.map (·.2))) (h' := h') hk (Nat.le_refl _) (show ObjOk X.prog X.w _ _ _ (.lst (kvs.map (·.2))) from ⟨by rw [List.length_map]; exact z, acc.toList, c', by rw [ev]; exact kv_vals rel, by rw [Array.toArray_toList]; exact hD⟩)
  exact ⟨.ref _, _, J, rfl, q _ (I2.hok.fresh (Nat.le_refl _))⟩
theorem call_lenR {X : Cx} : CallR X (.builtin "len") (fun xs H Q => ∃ a kvs, xs = [V.ref a] ∧ Rd H a (.dK kvs) ∧ Q (.int kvs.length) H) := by
  intro pins s σ H xs us Q I r h
  obtain ⟨a, kvs, rfl, ha, q⟩ := h
  obtain ⟨u, rfl, ru⟩ := vals1 r
  cases ru
  exact d_len I ha fun t s' I' => ⟨.int kvs.length, H, I', ⟨t, rfl⟩, q⟩
end YL
namespace Y
open PySem L2
section
variable {K : PySem.W.Frag} {X : Cx} {e a b : Expr} {t ta tb : TE} {w wa wb : WE} {pos p : Pos} {x : Str}
def wLenD : WC := fun ds q => match ds with | [.dct kvs] => q (.int kvs.length) | _ => False
theorem sc_lenD : SndC K (fun xs H Q => ∃ a kvs, xs = [V.ref a] ∧ Rd H a (.dK kvs) ∧ Q (.int kvs.length) H) wLenD := fun c G H env σ xs ds Q q f hx hw k => by
  unfold wLenD at hw
  split at hw
  · obtain ⟨v, rfl, h⟩ := hx.one
    obtain ⟨a, ws, rfl, h1, h2⟩ := h.dct
    exact ⟨a, ws, rfl, h1, k _ _ G H f (Gr.refl f) (by rw [h2.length]; exact R.int_) hw⟩
  · exact hw.elim
theorem rl_keys {G : Hp} : ∀ {ds : List (Key × D)} {ws : List (Key × V)}, RK K G ds ws → RL K G (ds.map fun kv => kD kv.1) (ws.map fun kv => kV kv.1)
  | [], _, h => by rw [h.nilE]; exact .nil
  | (k, d) :: ds, _, h => by obtain ⟨v, r, rfl, _, h2⟩ := h.consE; exact .cons R.kD (rl_keys h2)
theorem rl_vals {G : Hp} : ∀ {ds : List (Key × D)} {ws : List (Key × V)}, RK K G ds ws → RL K G (ds.map (·.2)) (ws.map (·.2))
  | [], _, h => by rw [h.nilE]; exact .nil
  | (k, d) :: ds, _, h => by obtain ⟨v, r, rfl, h1, h2⟩ := h.consE; exact .cons h1 (rl_vals h2)
/-- list(d) -/
def wKeysN (w : WE) : WA := fun env q => w env fun d => match d with | .dct kvs => q (kvs.map fun kv => kD kv.1) | _ => False
theorem dn_listD (hc : X.calm = true) (hg : Gl X "list") (hm : X.mg "list" = none) (ha : DB X e t w) (he : starEach [e] X.env = (false, eval e X.env) :: starEach [] X.env := by rfl) (hpl : (backTo pos (starEach [] X.env)).any (·.1) = false := by rfl) :
    DN X (.Call (.Name "list" p) [e] [] pos) (tCB (fun xs H Q => ∃ (a : Addr) (kvs : List (Key × V)), xs = [.ref a] ∧ Rd H a (.dK kvs) ∧ ∀ p, H p = none → Q (.ref p) (upd H p (.lst (kvs.map fun kv => kV kv.1)))) (tCons t tNil)) (wKeysN w) :=
  ⟨pe_callTy (call_listD hc) hg hm (by with_unfolding_all rfl) (pa_cons ha.pe pa_nil he) (by decide) (by decide) he hpl, fun c G H env σ Q q f hw k => ha.snd c G H env σ _ _ f hw fun v d G1 H1 f1 g1 r1 hq => by
    split at hq
    · obtain ⟨a, ws, rfl, h1, h2⟩ := (r1 G1 H1 f1 (Same.refl _)).dct
      refine ⟨a, ws, rfl, h1, fun p hn => ?_⟩
      have g := f1.newH (o := .lst (ws.map fun kv => kV kv.1)) hn
      exact k p _ _ G1 _ (f1.step g) (g1.trans g) upd_same (rl_keys h2) (f1.gnone hn) (f1.h0none hn) (g1.fresh hn) (f1.noOwn hn) hq
    · exact hq.elim⟩
/-- sorted(d), keys texts -/
def wSortK (w : WE) : WA := fun env q => w env fun d => match d with | .dct kvs => ∃ ks : List Str, kvs.map (·.1) = ks.map Sum.inr ∧ ks.length < 64 ∧ ∀ ys : List Str, ys.Perm ks → PyProof.Rows.sortedS ys = true → q (ys.map D.str) | _ => False
theorem rl_strs' {G : Hp} : ∀ ys : List Str, RL K G (ys.map D.str) (ys.map V.str)
  | [] => .nil
  | y :: ys => .cons R.str_ (rl_strs' ys)
theorem dn_sortK (hc : X.calm = true) (hg : Gl X "sorted") (hm : X.mg "sorted" = none) (ha : DB X e t w) (he : starEach [e] X.env = (false, eval e X.env) :: starEach [] X.env := by rfl) (hpl : (backTo pos (starEach [] X.env)).any (·.1) = false := by rfl) :
    DN X (.Call (.Name "sorted" p) [e] [] pos) (tCB (fun xs H Q => ∃ (a : Addr) (kvs : List (Key × V)) (ks : List Str), xs = [.ref a] ∧ Rd H a (.dK kvs) ∧ kvs.map (·.1) = ks.map Sum.inr ∧ ks.length < 64 ∧
    ∀ ys p, ys.Perm ks → PyProof.Rows.sortedS ys = true → H p = none → Q (.ref p) (upd H p (.lst (ys.map V.str)))) (tCons t tNil)) (wSortK w) :=
  ⟨pe_callB (call_sortedD hc) hg hm (by with_unfolding_all rfl) (pa_cons ha.pe pa_nil he) (by decide) (by decide) he hpl, fun c G H env σ Q q f hw k => ha.snd c G H env σ _ _ f hw fun v d G1 H1 f1 g1 r1 hq => by
    split at hq
    · obtain ⟨ks, e1, e2, hq⟩ := hq
      obtain ⟨a, ws, rfl, h1, h2⟩ := (r1 G1 H1 f1 (Same.refl _)).dct
      refine ⟨a, ws, ks, rfl, h1, by rw [h2.keys]; exact e1, e2, fun ys p hp hs hn => ?_⟩
      have g := f1.newH (o := .lst (ys.map V.str)) hn
      exact k p _ _ G1 _ (f1.step g) (g1.trans g) upd_same (rl_strs' ys) (f1.gnone hn) (f1.h0none hn) (g1.fresh hn) (f1.noOwn hn) (hq ys hp hs)
    · exact hq.elim⟩
/-- list(d.values()) -/
def wValsN (w : WE) : WA := fun env q => w env fun d => match d with | .dct kvs => q (kvs.map (·.2)) | _ => False
theorem dn_vals {apos cpos : Pos} (hc : X.calm = true) (hg : Gl X "list") (hm : X.mg "list" = none) (ha : DB X e t w) (hbase : attributeBase e "values" X.env (eval e X.env) = eval e X.env := by rfl) (hline : (apos.endLine == cpos.line) = true := by rfl)
    (hs : starEach [.Call (.Attribute e "values" apos) [] [] cpos] X.env = (false, eval (.Call (.Attribute e "values" apos) [] [] cpos) X.env) :: starEach [] X.env := by rfl) :
    DN X (.Call (.Name "list" p) [.Call (.Attribute e "values" apos) [] [] cpos] [] pos) (YL.tListVals t) (wValsN w) :=
  ⟨YL.pe_listVals hc ha.pe hg hm (by with_unfolding_all rfl) hbase hline hs, fun c G H env σ Q q f hw k => ha.snd c G H env σ _ _ f hw fun v d G1 H1 f1 g1 r1 hq => by
    split at hq
    · obtain ⟨a, ws, rfl, h1, h2⟩ := (r1 G1 H1 f1 (Same.refl _)).dct
      refine ⟨a, ws, rfl, h1, fun p hn => ?_⟩
      have g := f1.newH (o := .lst (ws.map (·.2))) hn
      exact k p _ _ G1 _ (f1.step g) (g1.trans g) upd_same (rl_vals h2) (f1.gnone hn) (f1.h0none hn) (g1.fresh hn) (f1.noOwn hn) hq
    · exact hq.elim⟩
/-! ### x in a list of nested data -/
def wInD (neg : Bool) : WO := fun d e q => match e with | .lst ds => (Pu 32 d ∧ Pu 32 (.lst ds)) ∧ (d ∈ ds → q (.bl (!neg))) ∧ (d ∉ ds → q (.bl neg)) | _ => False
theorem any_in {d : D} : ∀ {ds : List D}, Pu 32 d → PuL 31 ds → (((D.pys ds).any fun z => PyData.eqv z d.py) = true ↔ d ∈ ds)
  | [], _, _ => by unfold D.pys; simp
  | x :: ds, p, h => by
    unfold PuL at h
    unfold D.pys
    rw [List.any_cons, Bool.or_eq_true, any_in p h.2, Pu.eqv 31 32 x d h.1 p, List.mem_cons]
    exact ⟨fun z => z.imp Eq.symm id, fun z => z.imp Eq.symm id⟩
theorem in_core {d : D} {ds : List D} {q : D → Prop} {neg : Bool} (p : Pu 32 d) (pl : PuL 31 ds) (h1 : d ∈ ds → q (.bl (!neg))) (h2 : d ∉ ds → q (.bl neg)) : q (.bl (if neg then !((D.pys ds).any fun z => PyData.eqv z d.py) else ((D.pys ds).any fun z => PyData.eqv z d.py))) := by
  have iff := any_in p pl
  by_cases h : d ∈ ds
  · rw [iff.mpr h]; have := h1 h; cases neg <;> exact this
  · rw [show ((D.pys ds).any fun z => PyData.eqv z d.py) = false from Bool.eq_false_iff.mpr fun z => h (iff.mp z)]; have := h2 h; cases neg <;> exact this
theorem so_inD : SndO K (rInD K) (wInD false) := fun c G H env σ x y d e Q q f hx hy hw k => by
  unfold wInD at hw
  split at hw
  · rename_i ds
    obtain ⟨⟨p1, p2⟩, h1, h2⟩ := hw
    have pl : PuL 31 ds := by unfold Pu at p2; exact p2
    have dl : Dp K H y (.list (D.pys ds)) := by have := hy.dp f.gh p2; unfold D.py at this; exact this
    exact ⟨d.py, D.pys ds, hx.dp f.gh p1, dl, p1.shaped, by have := p2.shaped; unfold D.py at this; exact this, k _ _ G H f (Gr.refl f) R.bl_ (in_core (neg := false) p1 pl h1 h2)⟩
  · exact hw.elim
theorem so_notInD : SndO K (rNotInD K) (wInD true) := fun c G H env σ x y d e Q q f hx hy hw k => by
  unfold wInD at hw
  split at hw
  · rename_i ds
    obtain ⟨⟨p1, p2⟩, h1, h2⟩ := hw
    have pl : PuL 31 ds := by unfold Pu at p2; exact p2
    have dl : Dp K H y (.list (D.pys ds)) := by have := hy.dp f.gh p2; unfold D.py at this; exact this
    exact ⟨d.py, D.pys ds, hx.dp f.gh p1, dl, p1.shaped, by have := p2.shaped; unfold D.py at this; exact this, k _ _ G H f (Gr.refl f) R.bl_ (in_core (neg := true) p1 pl h1 h2)⟩
  · exact hw.elim
theorem op_inDK (hu : X.A.units + 65 < cLine) (hK : X.K = K := by rfl) : OpR X (compareOp .In) (rInD K) := by subst hK; exact op_inD hu
theorem op_notInDK (hu : X.A.units + 65 < cLine) (hK : X.K = K := by rfl) : OpR X (compareOp .NotIn) (rNotInD K) := by subst hK; exact op_notInD hu
end
end Y

/-! instances: fields, methods, making, __init__ -/
namespace Y
open PySem L2
/-- class and name: an attribute of the instance alone -/
def AtOk (K : PySem.W.Frag) (C : Addr) (f : Str) : Prop := Cls K C ∧ NoAttr K C f
section
variable {K : PySem.W.Frag} {H G : Hp}
theorem R.insE {C : Addr} {fs : List (Str × D)} {v : V} (h : R K H (.ins C fs) v) : ∃ a dx ws, v = .ref a ∧ H a = some (.ins C dx ws) ∧ RF K H fs ws := by unfold R at h; exact h
theorem R.ins {a C dx : Addr} {fs : List (Str × D)} {ws : List (Str × V)} (h : H a = some (.ins C dx ws)) (r : RF K H fs ws) : R K H (.ins C fs) (.ref a) := by unfold R; exact ⟨a, dx, ws, rfl, h, r⟩
theorem rf_none {f : Str} : ∀ {fs : List (Str × D)} {ws : List (Str × V)}, RF K G fs ws → fs.lookup f = none → ws.lookup f = none
  | [], ws, r, e => by unfold RF at r; rw [r]; rfl
  | (g, d) :: fs, ws, r, e => by
    unfold RF at r
    obtain ⟨v, r', rfl, h1, h2⟩ := r
    rw [List.lookup_cons] at e ⊢
    cases hb : f == g with
    | true => rw [hb] at e; cases e
    | false => rw [hb] at e; exact rf_none h2 e
end
/-! ### e.f -/
section
variable {K : PySem.W.Frag} {X : Cx} {e a b o : Expr} {es : List Expr} {t ta tb : TE} {w wa wb : WE} {wm : WM} {tA : TA} {wA : WA} {pos p pos' apos : Pos} {x m f : Str} {tS : TS} {wS : WS}
def kAt (K : PySem.W.Frag) (f : Str) (q : D → Prop) (d : D) : Prop := match d with | .ins C fs => AtOk K C f ∧ (match fs.lookup f with | some y => q y | none => False) | _ => False
def wAt (K : PySem.W.Frag) (f : Str) (w : WE) : WE := fun env q => w env (kAt K f q)
theorem de_attr (ha : DE X e t w) (hK : X.K = K := by rfl) (hb : attributeBase e f X.env (eval e X.env) = eval e X.env := by rfl) : DE X (.Attribute e f pos) (tFld K t f) (wAt K f w) := by
  subst hK
  exact ⟨pe_fld ha.pe hb, fun c G H env σ Q q fr hw k => ha.snd c G H env σ _ _ fr hw fun v d G1 H1 f1 s1 r1 hq => by
    unfold kAt at hq
    split at hq
    · rename_i C fs
      obtain ⟨ok, hq⟩ := hq
      split at hq
      · rename_i y hy
        obtain ⟨a, dx, ws, rfl, h1, h2⟩ := r1.insE
        obtain ⟨v, l, r⟩ := rf_get h2 hy
        exact ⟨a, C, dx, ws, v, rfl, f1.gh _ _ h1, ok.1, ok.2, l, k v y G1 H1 f1 s1 r hq⟩
      · exact hq.elim
    · exact hq.elim⟩
/-! ### o.m(..), whatever class o has -/
structure Dm (P : Program) (w : World) (K : PySem.W.Frag) (mg : Str → Option Value) (base : Heap) (k : Nat) (C : Addr) (m : Str) (ps : List Str) (W : List D → (D → Prop) → Prop) : Prop where
  ex : ∃ f fd, FnOk P w K mg base CX0 k f fd ps (spD K W) ∧ Cls K C ∧ Meth K C m f ∧ Binds K fd ps []
def tMethA (P : Program) (w : World) (K : PySem.W.Frag) (mg : Str → Option Value) (base : Heap) (k : Nat) (m : Str) (ta : TE) (t : TA) : TE := fun σ H Q => ta σ H fun x H1 => ∃ a C dx fs f fd ps sp, x = .ref a ∧ H1 a = some (.ins C dx fs) ∧ fs.lookup m = none ∧ Cls K C ∧ Meth K C m f ∧ FnOk P w K mg base CX0 k f fd ps sp ∧ Binds K fd ps [] ∧
  t σ H1 fun vs H2 => sp (x :: vs) H2 Q E0
theorem pe_methA {k : Nat} {pl : Sem Bool} {t : TA} (he : PE X o ta) (hr : Room k X.A) (ha : PA X (e :: es) t)
    (hst : starEach (e :: es) X.env = (false, eval e X.env) :: starEach es X.env := by rfl) (hpl : (backTo pos (starEach es X.env)).any (·.1) = false := by rfl)
    (ht : eval (.Call (.Attribute o m apos) (e :: es) [] pos) X.env = (do
      let ov ← eval o X.env
      standAt apos.atName
      let (f, first) ← holding [ov] (getMethod ov m pl)
      callWith pos f first (backTo pos (starEach (e :: es) X.env)) (backToKw pos (keywordEach [] X.env))) := by rfl) :
    PE X (.Call (.Attribute o m apos) (e :: es) [] pos) (tMethA X.prog X.w X.K X.mg X.base k m ta t) := by
  refine ⟨fun pins s σ H Q I h => ?_⟩
  refine PySem.W.methodCall_KW (pl := pl) (thn (he.run pins s σ H _ I h) fun u s1 ⟨x, H1, I1, rx, a, C, dx, fs, f, fd, ps, sp, ex, ea, l, c, hm, F, hb, q⟩ => ?_) ht
  subst ex
  obtain rfl : u = Value.ref a := rx
  refine getmeth_ok I1 ea c hm l ?_
  refine PySem.W.callWith_K (first := [.ref a]) (h₀ := X.base) I.ok.mod.kin hm.kp (thn (ha.run pos pins s1 σ H1 _ I1 q) fun us s2 ⟨vs, H2, I2, r, q2⟩ => ⟨I2.kIn, ?_⟩) hst hpl
  exact run_fn (us := .ref a :: us) (vs := .ref a :: vs) F hr hb .nil pass0 I2 (.cons rfl r) (by rw [List.append_nil]; exact q2)
theorem pe_methA0 {k : Nat} {pl : Sem Bool} (he : PE X o ta) (hr : Room k X.A)
    (ht : eval (.Call (.Attribute o m apos) [] [] pos) X.env = (do
      let ov ← eval o X.env
      standAt apos.atName
      let (f, first) ← holding [ov] (getMethod ov m pl)
      callWith pos f first (backTo pos (starEach [] X.env)) (backToKw pos (keywordEach [] X.env))) := by rfl) :
    PE X (.Call (.Attribute o m apos) [] [] pos) (tMethA X.prog X.w X.K X.mg X.base k m ta tNil) := by
  refine ⟨fun pins s σ H Q I h => ?_⟩
  refine PySem.W.methodCall_KW (pl := pl) (thn (he.run pins s σ H _ I h) fun u s1 ⟨x, H1, I1, rx, a, C, dx, fs, f, fd, ps, sp, ex, ea, l, c, hm, F, hb, q⟩ => ?_) ht
  subst ex
  obtain rfl : u = Value.ref a := rx
  refine getmeth_ok I1 ea c hm l ?_
  exact PySem.W.callWith_K0 (first := [.ref a]) I1.kIn hm.kp (run_fn (us := [.ref a]) (vs := [.ref a]) F hr hb .nil pass0 I1 (.cons rfl .nil) (by rw [List.append_nil]; exact q))
def kMeth (P : Program) (w0 : World) (K : PySem.W.Frag) (mg : Str → Option Value) (base : Heap) (k : Nat) (m : Str) (wA : WA) (env : List Sl) (q : D → Prop) (d : D) : Prop := match d with | .ins C fs => ∃ ps W, Dm P w0 K mg base k C m ps W ∧ fs.lookup m = none ∧ wA env fun ds => W (d :: ds) q | _ => False
def wMeth (P : Program) (w0 : World) (K : PySem.W.Frag) (mg : Str → Option Value) (base : Heap) (k : Nat) (m : Str) (w : WE) (wA : WA) : WE := fun env q => w env (kMeth P w0 K mg base k m wA env q)
theorem snd_meth {P : Program} {w0 : World} {mg : Str → Option Value} {base : Heap} {k : Nat} (ho : Snd K ta wa) (ha : SndA K tA wA) : Snd K (tMethA P w0 K mg base k m ta tA) (wMeth P w0 K mg base k m wa wA) := fun c G H env σ Q q f hw kk =>
  ho c G H env σ _ _ f hw fun v d G1 H1 f1 s1 r1 hq => by
    unfold kMeth at hq
    split at hq
    · rename_i C fs
      obtain ⟨ps, W, ⟨fa, fd, F, cl, me, hb⟩, l, hq⟩ := hq
      obtain ⟨a, dx, ws, rfl, h1, h2⟩ := r1.insE
      refine ⟨a, C, dx, ws, fa, fd, ps, _, rfl, f1.gh _ _ h1, rf_none h2 l, cl, me, F, hb, ?_⟩
      refine ha c G1 H1 env σ _ _ f1 hq fun vs ds G2 H2 f2 s2 r2 hq2 => ?_
      refine ⟨G2, .ins C fs :: ds, q, f2.gh, .cons (.ins (s2.gg _ _ h1) (RF.mono s2.gg _ _ h2)) r2, hq2, fun v' d' G' H' g1 g2 g3 g4 r hq' => ?_⟩
      have g := gr_call f2 g1 g2 g3 g4
      exact kk v' d' G' H' (f2.step g) ((s1.trans s2).trans g) r hq'
    · exact hq.elim
theorem de_meth {P : Program} {w0 : World} {mg : Str → Option Value} {base : Heap} (k : Nat) {pl : Sem Bool} (ho : DE X o ta wa) (hr : Room k X.A) (ha : DA X (e :: es) tA wA) (hP : X.prog = P := by rfl) (hW : X.w = w0 := by rfl) (hK : X.K = K := by rfl) (hM : X.mg = mg := by rfl) (hB : X.base = base := by rfl)
    (hst : starEach (e :: es) X.env = (false, eval e X.env) :: starEach es X.env := by rfl) (hpl : (backTo pos (starEach es X.env)).any (·.1) = false := by rfl)
    (ht : eval (.Call (.Attribute o m apos) (e :: es) [] pos) X.env = (do
      let ov ← eval o X.env
      standAt apos.atName
      let (f, first) ← holding [ov] (getMethod ov m pl)
      callWith pos f first (backTo pos (starEach (e :: es) X.env)) (backToKw pos (keywordEach [] X.env))) := by rfl) :
    DE X (.Call (.Attribute o m apos) (e :: es) [] pos) (tMethA P w0 K mg base k m ta tA) (wMeth P w0 K mg base k m wa wA) := by
  subst hP hW hK hM hB
  exact ⟨pe_methA ho.pe hr ha.pa hst hpl ht, snd_meth ho.snd ha.snd⟩
theorem de_meth0 {P : Program} {w0 : World} {mg : Str → Option Value} {base : Heap} (k : Nat) {pl : Sem Bool} (ho : DE X o ta wa) (hr : Room k X.A) (hP : X.prog = P := by rfl) (hW : X.w = w0 := by rfl) (hK : X.K = K := by rfl) (hM : X.mg = mg := by rfl) (hB : X.base = base := by rfl)
    (ht : eval (.Call (.Attribute o m apos) [] [] pos) X.env = (do
      let ov ← eval o X.env
      standAt apos.atName
      let (f, first) ← holding [ov] (getMethod ov m pl)
      callWith pos f first (backTo pos (starEach [] X.env)) (backToKw pos (keywordEach [] X.env))) := by rfl) :
    DE X (.Call (.Attribute o m apos) [] [] pos) (tMethA P w0 K mg base k m ta tNil) (wMeth P w0 K mg base k m wa (fun _ q => q [])) := by
  subst hP hW hK hM hB
  exact ⟨pe_methA0 ho.pe hr ht, snd_meth ho.snd fun c G H env σ Q q f hw k => k [] [] G H f (Gr.refl f) .nil hw⟩
/-! ### C(..) -/
abbrev WI := List D → (List (Str × D) → Prop) → Prop
def spI (K : PySem.W.Frag) (C : Addr) (W : WI) : Sp := fun vs H Q _ => ∃ (G : Hp) (a dx : Addr) (us : List V) (ds : List D) (q : List (Str × D) → Prop), vs = .ref a :: us ∧ Same G H ∧ RL K G ds us ∧ H a = some (.ins C dx []) ∧ G a = none ∧ W ds q ∧
  ∀ fs ws dx' G' H', (∀ b o, H b = some o → b ≠ a → H' b = some o) → Same G G' → Same G' H' → (∀ b o, H b = some o → b ≠ a → G b = none → G' b = none) → G' a = none → H' a = some (.ins C dx' ws) → RF K G' fs ws → q fs → Q .non H'
structure Di (P : Program) (w : World) (K : PySem.W.Frag) (mg : Str → Option Value) (base : Heap) (k : Nat) (x : Str) (C : Addr) (ps : List Str) (W : WI) : Prop where
  ex : ∃ f fd, FnOk P w K mg base CX0 k f fd ps (spI K C W) ∧ Mk K C f ∧ mg x = some (.ref C) ∧ Binds K fd ps []
def wMk (C : Addr) (W : WI) (wA : WA) : WE := fun env q => wA env fun ds => W ds fun fs => q (.ins C fs)
theorem de_make {k : Nat} {C : Addr} {ps : List Str} {W : WI} (F : Di X.prog X.w K X.mg X.base k x C ps W) (hr : Room (k + 1) X.A) (hg : Gl X x) (ha : DA X (e :: es) tA wA) (hK : X.K = K := by rfl) (hdb : (x == ("__debug__" : Str)) = false := by decide) (he : starEach (e :: es) X.env = (false, eval e X.env) :: starEach es X.env := by rfl) (hpl : (backTo pos (starEach es X.env)).any (·.1) = false := by rfl) :
    DE X (.Call (.Name x p) (e :: es) [] pos) (tMake C (spI K C W) [] E0 tA) (wMk C W wA) := by
  subst hK
  obtain ⟨fa, fd, F, M, hm, hb⟩ := F.ex
  refine ⟨pe_make M F hr hg hm hb .nil pass0 ha.pa hdb he hpl, fun c G H env σ Q q f hw kk => ha.snd c G H env σ _ _ f hw fun vs ds G1 H1 f1 s1 r1 hq => ?_⟩
  intro x dx hx hdx ne
  rw [List.append_nil]
  have g1 := f1.newH (o := .own x) hdx
  have f2 := f1.step g1
  have hx2 : (upd H1 dx (.own x)) x = none := by rw [upd_ne (Ne.symm ne)]; exact hx
  have g2 := f2.newH (o := .ins C dx []) hx2
  have f3 := f2.step g2
  have g12 := g1.trans g2
  have nda : c.da ≠ some x := f1.own_ne (f1.h0none hx)
  refine ⟨G1, x, dx, vs, ds, _, rfl, f3.gh, r1, upd_same, f1.gnone hx, hq, fun fs ws dx' G' H' k1 k2 k3 k4 k5 k6 k7 hq' => ⟨rfl, ?_⟩⟩
  have h0x : H1 x = none := hx
  have gr : Gr X.K c.da G1 H1 G' H' := ⟨k2, k3, fun b o hb _ => by
      have nb : b ≠ x := ne_of_none hb hx
      have nd : b ≠ dx := ne_of_none hb hdx
      exact k1 b o (by rw [upd_ne nb, upd_ne nd]; exact hb) nb,
    fun b o hb hn => by
      have nb : b ≠ x := ne_of_none hb hx
      have nd : b ≠ dx := ne_of_none hb hdx
      exact k4 b o (by rw [upd_ne nb, upd_ne nd]; exact hb) nb hn,
    fun b eb => by
      obtain ⟨n, z, kk, ns, q1, q2⟩ := f1.dr b eb
      have nb : b ≠ x := ne_of_none q1 hx
      have nd : b ≠ dx := ne_of_none q1 hdx
      have q3 : (upd (upd H1 dx (.own x)) x (.ins C dx [])) b = some (.lst [.ref z, .int kk]) := by rw [upd_ne nb, upd_ne nd]; exact q1
      exact ⟨k4 b _ q3 nb n, z, kk, ns, k1 b _ q3 nb, k2.seq q2⟩⟩
  have g3 := gr_frz (o0 := .ins C dx' ws) (o1 := .ins C dx' ws) f1 gr k6 k5 hx
  rw [upd_id k6] at g3
  have sm : Same G' (upd G' x (.ins C dx' ws)) := fun b o hb => by rw [upd_ne (ne_of_none hb k5)]; exact hb
  exact kk (.ref x) (.ins C fs) _ H' (f1.step g3) (s1.trans g3) (.ins upd_same (RF.mono sm _ _ k7)) hq'
end
end Y

/-! instances of ours: __init__ -/
namespace Y
open PySem L2
/-! ### fields of ours -/
def putFl (f : Str) (x : Fl) : List (Str × Fl) → List (Str × Fl)
  | [] => [(f, x)]
  | (g, y) :: r => if g = f then (g, x) :: r else (g, y) :: putFl f x r
def dFs : List (Str × Fl) → Option (List (Str × D))
  | [] => some []
  | (f, .d d) :: r => (dFs r).map fun l => (f, d) :: l
  | _ :: _ => none
section
variable {K : PySem.W.Frag} {H0 G H : Hp}
theorem FsOk.cons {k : Str} {f : Fl} {v : V} {fs : List (Str × Fl)} {ws : List (Str × V)} (h : FlOk K H0 G H f v) (g : FsOk K H0 G H fs ws) : FsOk K H0 G H ((k, f) :: fs) ((k, v) :: ws) := ⟨v, ws, rfl, h, g⟩
theorem FsOk.put {f : Str} {x : Fl} {v : V} (hx : FlOk K H0 G H x v) : ∀ {fs : List (Str × Fl)} {ws : List (Str × V)}, FsOk K H0 G H fs ws → FsOk K H0 G H (putFl f x fs) (putF f v ws)
  | [], _, h => by rw [show _ = [] from h]; exact .cons hx rfl
  | (g, y) :: fs, _, ⟨u, r, e, h1, h2⟩ => by
    rw [e]
    show FsOk K H0 G H (if g = f then (g, x) :: fs else (g, y) :: putFl f x fs) (if g = f then (g, v) :: r else (g, u) :: putF f v r)
    by_cases hh : g = f
    · rw [if_pos hh, if_pos hh]; exact .cons hx h2
    · rw [if_neg hh, if_neg hh]; exact .cons h1 (FsOk.put hx h2)
theorem FsOk.length : ∀ {fs : List (Str × Fl)} {ws : List (Str × V)}, FsOk K H0 G H fs ws → ws.length = fs.length
  | [], _, h => by rw [show _ = [] from h]; rfl
  | (g, y) :: fs, _, ⟨u, r, e, h1, h2⟩ => by rw [e, List.length_cons, List.length_cons, FsOk.length h2]
theorem FsOk.get {f : Str} {x : Fl} : ∀ {fs : List (Str × Fl)} {ws : List (Str × V)}, FsOk K H0 G H fs ws → fs.lookup f = some x → ∃ v, ws.lookup f = some v ∧ FlOk K H0 G H x v
  | [], _, _, e => by cases e
  | (g, y) :: fs, _, ⟨u, r, h, h1, h2⟩, e => by
    rw [h]
    rw [List.lookup_cons] at e ⊢
    cases hb : f == g with
    | true => rw [hb] at e; cases e; exact ⟨u, rfl, h1⟩
    | false => rw [hb] at e; exact FsOk.get h2 e
theorem FsOk.all : ∀ {fs : List (Str × Fl)} {ws : List (Str × V)} {l : List (Str × D)}, FsOk K H0 G H fs ws → dFs fs = some l → RF K G l ws
  | [], _, _, h, e => by cases e; rw [show _ = [] from h]; unfold RF; rfl
  | (g, .d d) :: fs, _, l, ⟨u, r, h, h1, h2⟩, e => by
    unfold dFs at e
    cases e2 : dFs fs with
    | none => rw [e2] at e; cases e
    | some l' =>
      rw [e2] at e
      cases e
      rw [h]
      unfold RF
      exact ⟨u, r, rfl, h1, FsOk.all h2 e2⟩
  | (g, .od ..) :: fs, _, l, _, e => by cases e
  | (g, .ol ..) :: fs, _, l, _, e => by cases e
theorem own_put {f : Str} {x : Fl} {a : Addr} : ∀ {fs : List (Str × Fl)}, a ∈ ownFs (putFl f x fs) → a ∈ ownF x ∨ a ∈ ownFs fs
  | [], h => by rcases List.mem_append.mp h with h | h; exact .inl h; cases h
  | (g, y) :: fs, h => by
    unfold putFl at h
    split at h
    · rcases List.mem_append.mp h with h | h
      · exact .inl h
      · exact .inr (List.mem_append_right _ h)
    · rcases List.mem_append.mp h with h | h
      · exact .inr (List.mem_append_left _ h)
      · rcases own_put h with h | h
        · exact .inl h
        · exact .inr (List.mem_append_right _ h)
theorem nodup_put {f : Str} {x : Fl} : ∀ {fs : List (Str × Fl)}, (ownFs fs).Nodup → (ownF x).Nodup → (∀ a ∈ ownF x, a ∉ ownFs fs) → (ownFs (putFl f x fs)).Nodup
  | [], _, h, _ => by
    show (ownF x ++ []).Nodup
    rw [List.append_nil]; exact h
  | (g, y) :: fs, nd, h, hd => by
    obtain ⟨n1, n2, n3⟩ := List.nodup_append.mp (show (ownF y ++ ownFs fs).Nodup from nd)
    unfold putFl
    split
    · refine List.nodup_append.mpr ⟨h, n2, fun a ha b hb e => hd a ha (List.mem_append_right _ (e ▸ hb))⟩
    · refine List.nodup_append.mpr ⟨n1, nodup_put n2 h fun a ha hb => hd a ha (List.mem_append_right _ hb), fun a ha b hb e => ?_⟩
      rcases own_put hb with hb | hb
      · exact hd b hb (List.mem_append_left _ (e ▸ ha))
      · exact n3 a ha b hb e
end
section
variable {K : PySem.W.Frag} {X : Cx} {e a b o : Expr} {t tb : TE} {w wb : WE} {wm : WM} {pos p pos' : Pos} {x f : Str} {tS : TS} {wS : WS} {c : Ctx} {G H : Hp} {env : List Sl} {σ : L2.St}
/-- a field takes frozen data -/
theorem Fr.putFd (fr : Fr K c G H env σ) {i : Nat} {a C dx : Addr} {fs : List (Str × Fl)} {ws : List (Str × V)} {d : D} {v : V} (h : env[i]? = some (.oi a C fs)) (e : H a = some (.ins C dx ws)) (r : R K G d v) :
    Fr K c G (upd H a (.ins C dx (putF f v ws))) (env.set i (.oi a C (putFl f (.d d) fs))) σ := by
  obtain ⟨hs, dx', ws', h1, h2, h3, h4, nd⟩ := fr.getOi h
  rw [e] at h1; cases h1
  have na : a ∉ ownFs fs := (List.nodup_cons.mp nd).1
  have nd' := (List.nodup_cons.mp nd).2
  refine fr.own_upd h hs List.mem_cons_self (fun b hb => .inl ?_) (.inl rfl) ⟨rfl, dx, _, upd_same, FsOk.put (x := .d d) r (FsOk.go (Same.refl G) h2 fun b hb => ⟨fun u q => by rw [upd_ne (show b ≠ a from fun z => na (z ▸ hb))]; exact q, fun q => q⟩), h3, h4, ?_⟩
  · rcases List.mem_cons.mp hb with rfl | hb
    · exact List.mem_cons_self
    · rcases own_put hb with hb | hb
      · cases hb
      · exact List.mem_cons_of_mem _ hb
  · refine List.nodup_cons.mpr ⟨fun z => ?_, nodup_put nd' List.nodup_nil fun a ha => by cases ha⟩
    rcases own_put z with z | z
    · cases z
    · exact na z
/-- a field takes a new dict of ours -/
theorem Fr.putFm (fr : Fr K c G H env σ) {i : Nat} {a C dx m : Addr} {fs : List (Str × Fl)} {ws : List (Str × V)} {kvs : List (Key × D)} {us : List (Key × V)} (h : env[i]? = some (.oi a C fs)) (e : H a = some (.ins C dx ws)) (hm : H m = some (.dK us)) (r : RK K G kvs us) (gm : G m = none) (m0 : c.H0 m = none) (no : NoOwn env σ m) :
    Fr K c G (upd H a (.ins C dx (putF f (.ref m) ws))) (env.set i (.oi a C (putFl f (.od m kvs) fs))) σ := by
  obtain ⟨hs, dx', ws', h1, h2, h3, h4, nd⟩ := fr.getOi h
  rw [e] at h1; cases h1
  have na : a ∉ ownFs fs := (List.nodup_cons.mp nd).1
  have nd' := (List.nodup_cons.mp nd).2
  have nm : m ∉ ownL (.oi a C fs) (some (V.ref a)) := no i _ _ h hs
  have ma : m ≠ a := fun z => nm (z ▸ List.mem_cons_self)
  refine fr.own_upd h hs List.mem_cons_self (fun b hb => ?_) (.inl rfl) ⟨rfl, dx, _, upd_same, FsOk.put (x := .od m kvs) ⟨rfl, us, by rw [upd_ne ma]; exact hm, r, gm, m0⟩ (FsOk.go (Same.refl G) h2 fun b hb => ⟨fun u q => by rw [upd_ne (show b ≠ a from fun z => na (z ▸ hb))]; exact q, fun q => q⟩), h3, h4, ?_⟩
  · rcases List.mem_cons.mp hb with rfl | hb
    · exact .inl List.mem_cons_self
    · rcases own_put hb with hb | hb
      · rw [List.mem_singleton.mp hb]; exact .inr no
      · exact .inl (List.mem_cons_of_mem _ hb)
  · refine List.nodup_cons.mpr ⟨fun z => ?_, nodup_put nd' (List.pairwise_singleton _ _) fun b hb z => ?_⟩
    · rcases own_put z with z | z
      · exact ma (List.mem_singleton.mp z).symm
      · exact na z
    · rw [List.mem_singleton.mp hb] at z
      exact nm (List.mem_cons_of_mem _ z)
/-- self.f = e -/
def kFld (K : PySem.W.Frag) (i : Nat) (f : Str) (E : DEnds) (env : List Sl) (d : D) : Prop := match env[i]? with | some (.oi a C fs) => AtOk K C f ∧ fs.length < 1000 ∧ E.nx (env.set i (.oi a C (putFl f (.d d) fs))) | _ => False
def wFld (K : PySem.W.Frag) (i : Nat) (f : Str) (w : WE) : WS := fun env E => w env (kFld K i f E env)
theorem ds_fld (i : Nat) (ho : PE X o (tVar i)) (hv : DE X e t w) (hK : X.K = K := by rfl) (hs : swapsWith e (some (.Attribute o f pos')) pos.line X.env = pure false := by rfl) : DS X (.Assign [.Attribute o f pos'] e pos) (sFld K (tVar i) t f) (wFld K i f w) := by
  subst hK
  exact ⟨ps_fld ho hv.pe hs, fun c G H env σ D E fr hw L => hv.snd c G H env σ _ _ fr hw fun v d G1 H1 f1 s1 r1 hq => by
    unfold kFld at hq
    split at hq
    · rename_i a C fs he
      obtain ⟨ok, hl, hq⟩ := hq
      obtain ⟨hs, dx, ws, h1, h2, h3, h4, nd⟩ := f1.getOi he
      exact ⟨.ref a, hs, a, C, dx, ws, rfl, h1, ok.1, ok.2, by rw [h2.length]; exact hl, L.nx G1 _ _ σ (f1.putFd he h1 r1) hq⟩
    · exact hq.elim⟩
/-- self.f = {..} -/
def kFldM (K : PySem.W.Frag) (i : Nat) (f : Str) (E : DEnds) (env : List Sl) (kvs : List (Key × D)) : Prop := match env[i]? with | some (.oi a C fs) => AtOk K C f ∧ fs.length < 1000 ∧ ∀ m, E.nx (env.set i (.oi a C (putFl f (.od m kvs) fs))) | _ => False
def wFldM (K : PySem.W.Frag) (i : Nat) (f : Str) (w : WM) : WS := fun env E => w env (kFldM K i f E env)
theorem ds_fldM (i : Nat) (ho : PE X o (tVar i)) (hv : DM X e t wm) (hK : X.K = K := by rfl) (hs : swapsWith e (some (.Attribute o f pos')) pos.line X.env = pure false := by rfl) : DS X (.Assign [.Attribute o f pos'] e pos) (sFld K (tVar i) t f) (wFldM K i f wm) := by
  subst hK
  exact ⟨ps_fld ho hv.pe hs, fun c G H env σ D E fr hw L => hv.snd c G H env σ _ _ fr hw fun m us kvs G1 H1 f1 s1 hm rm gm m0 mn no hq => by
    unfold kFldM at hq
    split at hq
    · rename_i a C fs he
      obtain ⟨ok, hl, hq⟩ := hq
      obtain ⟨hs, dx, ws, h1, h2, h3, h4, nd⟩ := f1.getOi he
      exact ⟨.ref a, hs, a, C, dx, ws, rfl, h1, ok.1, ok.2, by rw [h2.length]; exact hl, L.nx G1 _ _ σ (f1.putFm he h1 hm rm gm m0 no) (hq m)⟩
    · exact hq.elim⟩
/-- self.f, read -/
def wOF (K : PySem.W.Frag) (i : Nat) (f : Str) : WE := fun env q => match env[i]? with
  | some (.oi a C fs) => AtOk K C f ∧ (match fs.lookup f with | some (.d d) => q d | some (.od m kvs) => q (.dct kvs) | some (.ol m ds) => q (.lst ds) | none => False)
  | _ => False
theorem db_of (i : Nat) (ho : PE X o (tVar i)) (hK : X.K = K := by rfl) (hb : attributeBase o f X.env (eval o X.env) = eval o X.env := by rfl) : DB X (.Attribute o f pos) (tFld K (tVar i) f) (wOF K i f) := by
  subst hK
  exact ⟨pe_fld ho hb, fun c G H env σ Q q fr hw k => by
    unfold wOF at hw
    split at hw
    · rename_i a C fs he
      obtain ⟨ok, hw⟩ := hw
      obtain ⟨hs, dx, ws, h1, h2, h3, h4, nd⟩ := fr.getOi he
      refine ⟨.ref a, hs, ?_⟩
      split at hw
      · rename_i d hf
        obtain ⟨v, l, r⟩ := h2.get hf
        exact ⟨a, C, dx, ws, v, rfl, h1, ok.1, ok.2, l, k v d G H fr (Gr.refl fr) (.of r) hw⟩
      · rename_i m kvs hf
        obtain ⟨v, l, r⟩ := h2.get hf
        obtain ⟨rfl, us, r1, r2, r3, r4⟩ := r
        refine ⟨a, C, dx, ws, .ref m, rfl, h1, ok.1, ok.2, l, k _ _ G H fr (Gr.refl fr) (fun G' H' f' s => ?_) hw⟩
        obtain ⟨_, dx', ws', k1, k2, _⟩ := f'.getOi he
        obtain ⟨v', _, r'⟩ := k2.get hf
        obtain ⟨_, us', q1, q2, _⟩ := r'
        exact ⟨m, us', rfl, .inl q1, q2⟩
      · rename_i m ds hf
        obtain ⟨v, l, r⟩ := h2.get hf
        obtain ⟨rfl, us, r1, r2, r3, r4⟩ := r
        refine ⟨a, C, dx, ws, .ref m, rfl, h1, ok.1, ok.2, l, k _ _ G H fr (Gr.refl fr) (fun G' H' f' s => ?_) hw⟩
        obtain ⟨_, dx', ws', k1, k2, _⟩ := f'.getOi he
        obtain ⟨v', _, r'⟩ := k2.get hf
        obtain ⟨_, us', q1, q2, _⟩ := r'
        exact ⟨m, us', rfl, q1, q2⟩
      · exact hw.elim
    · exact hw.elim⟩
theorem putF_same {f : Str} {v : V} : ∀ {ws : List (Str × V)}, ws.lookup f = some v → putF f v ws = ws
  | [], e => by cases e
  | (g, x) :: r, e => by
    rw [List.lookup_cons] at e
    unfold putF
    by_cases h : g = f
    · subst h
      rw [beq_self_eq_true] at e
      cases e
      rw [if_pos rfl]
    · rw [show (f == g) = false from beq_false_of_ne (Ne.symm h)] at e
      rw [if_neg h, putF_same e]
theorem own_mem {f : Str} {m : Addr} {kvs : List (Key × D)} : ∀ {fs : List (Str × Fl)}, fs.lookup f = some (.od m kvs) → m ∈ ownFs fs
  | [], e => by cases e
  | (g, x) :: r, e => by
    rw [List.lookup_cons] at e
    cases hb : f == g with
    | true => rw [hb] at e; cases e; exact List.mem_append_left _ List.mem_cons_self
    | false => rw [hb] at e; exact List.mem_append_right _ (own_mem e)
theorem own_putM {f : Str} {m : Addr} {kvs nw : List (Key × D)} : ∀ {fs : List (Str × Fl)}, fs.lookup f = some (.od m kvs) → ownFs (putFl f (.od m nw) fs) = ownFs fs
  | [], e => by cases e
  | (g, x) :: r, e => by
    rw [List.lookup_cons] at e
    unfold putFl
    by_cases h : g = f
    · subst h
      rw [beq_self_eq_true] at e
      cases e
      rw [if_pos rfl]; rfl
    · rw [show (f == g) = false from beq_false_of_ne (Ne.symm h)] at e
      rw [if_neg h]
      show ownF x ++ ownFs (putFl f (.od m nw) r) = ownF x ++ ownFs r
      rw [own_putM e]
theorem FsOk.repl {H0 G G' : Hp} {f : Str} {m : Addr} {kvs : List (Key × D)} {o1 : HO} {y : Fl} (hy : FlOk K H0 G' (upd H m o1) y (.ref m)) (sm : Same G G') (hG : ∀ b, b ≠ m → G' b = G b) : ∀ {fs : List (Str × Fl)} {ws : List (Str × V)}, FsOk K H0 G H fs ws → fs.lookup f = some (.od m kvs) → (ownFs fs).Nodup →
    FsOk K H0 G' (upd H m o1) (putFl f y fs) ws
  | [], _, _, e, _ => by cases e
  | (g, x) :: r, _, ⟨u, ws, he, h1, h2⟩, e, nd => by
    obtain ⟨n1, n2, n3⟩ := List.nodup_append.mp (show (ownF x ++ ownFs r).Nodup from nd)
    rw [he]
    rw [List.lookup_cons] at e
    unfold putFl
    by_cases h : g = f
    · subst h
      rw [beq_self_eq_true] at e
      cases e
      rw [if_pos rfl]
      obtain ⟨rfl, _⟩ := h1
      refine .cons hy (FsOk.go (c := ⟨G, H0, none⟩) sm h2 fun b hb => ?_)
      have nb : b ≠ m := fun z => n3 m List.mem_cons_self b hb z.symm
      exact ⟨fun u q => by rw [upd_ne nb]; exact q, fun q => by rw [hG b nb]; exact q⟩
    · rw [show (f == g) = false from beq_false_of_ne (Ne.symm h)] at e
      rw [if_neg h]
      refine .cons (FlOk.go (c := ⟨G, H0, none⟩) h1 sm fun b hb => ?_) (FsOk.repl hy sm hG h2 e n2)
      have nb : b ≠ m := fun z => n3 b hb m (own_mem e) z
      exact ⟨fun u q => by rw [upd_ne nb]; exact q, fun q => by rw [hG b nb]; exact q⟩
/-- self.f[k] = e -/
def kFPut3 (i : Nat) (f : Str) (E : DEnds) (env : List Sl) (a C m : Addr) (fs : List (Str × Fl)) (kvs : List (Key × D)) (d e : D) : Prop := match keyD e with | some k => kvs.length < sizeLine ∧ E.nx (env.set i (.oi a C (putFl f (.od m (putD kvs k d)) fs))) | none => False
def wFPut (K : PySem.W.Frag) (i : Nat) (f : Str) (wk wv : WE) : WS := fun env E => match env[i]? with
  | some (.oi a C fs) => (match fs.lookup f with | some (.od m kvs) => AtOk K C f ∧ wv env fun d => wk env (kFPut3 i f E env a C m fs kvs d) | _ => False)
  | _ => False
theorem ds_fput (i : Nat) {pos2 : Pos} (hu : X.A.units + 64 < cLine) (ho : PE X o (tVar i)) (hb : DE X b tb wb) (hv : DE X e t w) (hK : X.K = K := by rfl) (hab : attributeBase o f X.env (eval o X.env) = eval o X.env := by rfl) (hs : swapsWith e (some (.Subscript (.Attribute o f pos2) b pos')) pos.line X.env = pure false := by rfl) :
    DS X (.Assign [.Subscript (.Attribute o f pos2) b pos'] e pos) (sDPut (tFld K (tVar i) f) tb t) (wFPut K i f wb w) := by
  subst hK
  exact ⟨ps_dput (by omega) (pe_fld ho hab) hb.pe hv.pe hs, fun c G H env σ D E fr hw L => by
    unfold wFPut at hw
    split at hw
    · rename_i a C fs he
      split at hw
      · rename_i m kvs hf
        obtain ⟨ok, hw⟩ := hw
        refine hv.snd c G H env σ _ _ fr hw fun v d G1 H1 f1 s1 r1 hw1 => ?_
        obtain ⟨hs, dx, ws, h1, h2, h3, h4, nd⟩ := f1.getOi he
        obtain ⟨v', l, rm⟩ := h2.get hf
        obtain ⟨rfl, us, q1, q2, q3, q4⟩ := rm
        refine ⟨.ref a, hs, a, C, dx, ws, .ref m, rfl, h1, ok.1, ok.2, l, ?_⟩
        refine hb.snd c G1 H1 env σ _ _ f1 hw1 fun u e G2 H2 f2 s2 r2 hq => ?_
        unfold kFPut3 at hq
        split at hq
        · rename_i ky hk
          have e2 : H2 m = some (.dK us) := s2.hh _ _ q1 (f1.own_ne q4)
          have hr := (RK.mono s2.gg _ _ q2).put ky (r1.mono s2.gg)
          have g2m : G2 m = none := s2.old _ _ q1 q3
          obtain ⟨_, dx2, ws2, k1, k2, k3, k4, nd2⟩ := f2.getOi he
          have na : a ∉ ownFs fs := (List.nodup_cons.mp nd2).1
          have mm := own_mem hf
          have ma : m ≠ a := fun z => na (z ▸ mm)
          obtain ⟨v2, l2, rm2⟩ := k2.get hf
          refine ⟨m, _, rfl, .inl ⟨us, ky, e2, r2.key hk, by rw [q2.length]; exact hq.1, rfl⟩, L.nx G2 _ _ σ (f2.own_upd (s' := .oi a C (putFl f (.od m (putD kvs ky d)) fs)) he hs (List.mem_cons_of_mem _ mm) (fun b hb => .inl ?_) (.inl rfl) ⟨rfl, dx2, ws2, by rw [upd_ne (Ne.symm ma)]; exact k1, ?_, k3, k4, ?_⟩) hq.2⟩
          · show b ∈ a :: ownFs fs
            have hb' : b ∈ a :: ownFs (putFl f (.od m (putD kvs ky d)) fs) := hb
            rw [own_putM hf] at hb'
            exact hb'
          · exact FsOk.repl (y := .od m (putD kvs ky d)) ⟨rfl, _, upd_same, hr, g2m, q4⟩ (Same.refl _) (fun b _ => rfl) k2 hf (List.nodup_cons.mp nd2).2
          · rw [own_putM hf]; exact nd2
        · exact hq.elim
      · exact hw.elim
    · exact hw.elim⟩
/-- at the end a field of ours is frozen -/
def tFrzE (t : TS) : TS := fun D σ H => t { D with nx := fun σ' H' => D.nx σ' H' ∨ ∃ d u, H' d = some u ∧ Mut (some u) ∧ ∀ od, D.nx σ' (upd H' d (.frz od u)) } σ H
theorem pss_frzE {st : List Stmt} (h : PSs X st tS) : PSs X st (tFrzE tS) := ⟨fun pins s σ H D I hw => by
  refine thn (h.run pins s σ H _ I hw) fun fl s1 q => ?_
  cases fl with
  | next =>
    obtain ⟨σ', H', I', q⟩ := q
    rcases q with q | ⟨d, u, hd, mu, q⟩
    · exact ⟨σ', H', I', q⟩
    · obtain ⟨od, I1⟩ := I'.lock hd mu
      exact ⟨σ', _, I1, q od⟩
  | ret v => exact q
  | brk => exact q
  | cont => exact q⟩
def kFrzF (i : Nat) (f : Str) (n : List Sl → Prop) (env : List Sl) : Prop := match env[i]? with
  | some (.oi a C fs) => (match fs.lookup f with | some (.od m kvs) => n (env.set i (.oi a C (putFl f (.d (.dct kvs)) fs))) | _ => False)
  | _ => False
def wFrzF (i : Nat) (f : Str) (w : WS) : WS := fun env E => w env { E with nx := kFrzF i f E.nx }
theorem dss_frzF (i : Nat) (f : Str) {st : List Stmt} (h : DSs X st tS wS) : DSs X st (tFrzE tS) (wFrzF i f wS) := ⟨pss_frzE h.ps, fun c G H env σ D E fr hw L =>
  h.snd c G H env σ _ _ fr hw ⟨fun G' H' env' σ' f' hq0 => by
    have hq : kFrzF i f E.nx env' := hq0
    unfold kFrzF at hq
    split at hq
    · rename_i a C fs he
      split at hq
      · rename_i m kvs hf
        obtain ⟨hs, dx, ws, k1, k2, k3, k4, nd⟩ := f'.getOi he
        obtain ⟨v', l, rm⟩ := k2.get hf
        obtain ⟨rfl, us, q1, q2, q3, q4⟩ := rm
        have na : a ∉ ownFs fs := (List.nodup_cons.mp nd).1
        have nd' := (List.nodup_cons.mp nd).2
        have mm := own_mem hf
        have ma : m ≠ a := fun z => na (z ▸ mm)
        refine .inr ⟨m, _, q1, trivial, fun od => ?_⟩
        have sm : Same G' (upd G' m (.frz od (.dK us))) := fun b o hb => by rw [upd_ne (ne_of_none hb q3)]; exact hb
        refine L.nx _ _ _ σ' (f'.own_upd (s' := .oi a C (putFl f (.d (.dct kvs)) fs)) (G' := upd G' m (.frz od (.dK us))) he hs (List.mem_cons_of_mem _ mm) (fun b hb => .inl ?_) (.inr rfl) ⟨rfl, dx, ws, by rw [upd_ne (Ne.symm ma)]; exact k1, ?_, by rw [upd_ne (Ne.symm ma)]; exact k3, k4, ?_⟩) hq
        · rcases List.mem_cons.mp hb with rfl | hb
          · exact List.mem_cons_self
          · rcases own_put hb with hb | hb
            · cases hb
            · exact List.mem_cons_of_mem _ hb
        · exact FsOk.repl (y := .d (.dct kvs)) (show R X.K _ (.dct kvs) (.ref m) from .dct upd_same (RK.mono sm _ _ q2)) sm (fun b nb => upd_ne nb) k2 hf nd'
        · refine List.nodup_cons.mpr ⟨fun z => ?_, nodup_put nd' List.nodup_nil fun a ha => by cases ha⟩
          rcases own_put z with z | z
          · cases z
          · exact na z
      · exact hq.elim
    · exact hq.elim, L.rt, L.bk, L.ct⟩⟩
end
/-! ### methods, __init__ -/
def envI (a C : Addr) (n : Nat) (ds : List D) : List Sl := .oi a C [] :: (ds.map Sl.d ++ List.replicate (n - 1 - ds.length) .no)
theorem fr_startI {K : PySem.W.Frag} {G H : Hp} {a C dx : Addr} {ds : List D} {vs : List V} (N : List Str) (s : Same G H) (ha : H a = some (.ins C dx [])) (ga : G a = none) (r : RL K G ds vs) (hl : ds.length + 1 ≤ N.length) :
    Fr K ⟨G, fun b => if b = a then none else H b, none⟩ G H (envI a C N.length ds) (L2.start N (.ref a :: vs)) := by
  have hv := r.length
  have es : L2.start N (.ref a :: vs) = some (V.ref a) :: (vs.map some ++ List.replicate (N.length - 1 - vs.length) none) := by
    unfold L2.start
    rw [List.map_cons, List.cons_append, List.length_cons]
    congr 3
    omega
  rw [es]
  have no : ∀ (i : Nat) (si : Sl) (oi : Option V) (b : Addr), (envI a C N.length ds)[i]? = some si → b ∈ ownL si oi → i = 0 := by
    intro i si oi b h hb
    unfold envI at h
    cases i with
    | zero => rfl
    | succ i =>
      exfalso
      rw [List.getElem?_cons_succ] at h
      by_cases hi : i < ds.length
      · rw [List.getElem?_append_left (by rw [List.length_map]; exact hi), List.getElem?_map, List.getElem?_eq_getElem hi] at h
        cases h
        cases hb
      · rw [List.getElem?_append_right (by rw [List.length_map]; omega), List.getElem?_replicate] at h
        split at h
        · cases h; cases hb
        · cases h
  refine ⟨fun b o h _ => ?_, Same.refl G, s, fun _ _ _ n => n, fun b e => (nomatch e), fun b e => (nomatch e), ?_, fun i sl o h1 h2 => ?_, fun i j b si sj oi oj h1 h2 h3 h4 h5 h6 => ?_⟩
  · have h' : (if b = a then none else H b) = some o := h
    split at h'
    · cases h'
    · exact h'
  · unfold envI
    rw [List.length_cons, List.length_cons, List.length_append, List.length_append, List.length_map, List.length_map, List.length_replicate, List.length_replicate, hv]
  · unfold envI at h1
    cases i with
    | zero => cases h1; cases h2; exact ⟨rfl, dx, [], ha, rfl, ga, if_pos rfl, by show [a].Nodup; exact List.pairwise_singleton _ _⟩
    | succ i =>
      rw [List.getElem?_cons_succ] at h1 h2
      by_cases hi : i < ds.length
      · rw [List.getElem?_append_left (by rw [List.length_map]; exact hi), List.getElem?_map, List.getElem?_eq_getElem hi] at h1
        rw [List.getElem?_append_left (by rw [List.length_map, hv]; exact hi), List.getElem?_map] at h2
        obtain ⟨v, g1, g2⟩ := r.get (List.getElem?_eq_getElem hi)
        rw [g1] at h2
        cases h1; cases h2
        exact ⟨v, rfl, g2⟩
      · rw [List.getElem?_append_right (by rw [List.length_map]; omega), List.getElem?_replicate] at h1
        split at h1
        · cases h1; trivial
        · cases h1
  · rw [no i si oi b h1 h5, no j sj oj b h3 h6]
def kEndI (a C : Addr) (q : List (Str × D) → Prop) (env : List Sl) : Prop := match (env[0]? : Option Sl) with | some (.oi a' C' fs) => a' = a ∧ C' = C ∧ (match dFs fs with | some l => q l | none => False) | _ => False
structure HereM (K : PySem.W.Frag) (C : Addr) (m qual : Str) (ps : List Str) (st : Stmt) : Prop where
  ex : ∃ f fd, Fun K m qual st f fd ∧ Cls K C ∧ Meth K C m f ∧ Binds K fd ps []
structure HereI (K : PySem.W.Frag) (mg : Str → Option Value) (x : Str) (C : Addr) (qual : Str) (ps : List Str) (st : Stmt) : Prop where
  ex : ∃ f fd, Fun K "__init__" qual st f fd ∧ Mk K C f ∧ mg x = some (.ref C) ∧ Binds K fd ps []
section
variable {P : Program} {w : World} {K : PySem.W.Frag} {mg : Str → Option Value} {base : Heap}
theorem dm_of {m qual : Str} {C : Addr} {st : Stmt} {N ps : List Str} {k : Nat} {W : List D → (D → Prop) → Prop} (h0 : HereM K C m qual ps st) (S : FnScope N ps (defScope st)) (hW : ∀ ds q, W ds q → ds.length = ps.length)
    (h : ∀ (f : Addr) (cdv : Value) (A : Around) (outer : List Env) (s : Shared) (H : Hp) (E : XK), Room k (A.deeper (PyProof.Rows.envOfC qual (defScope st) s.heap.objs.size f cdv)) →
      ∃ t wS, DSs (cxOf CX0 P w K mg base N qual (defScope st) f cdv A outer s H E).nox (defBody st) t wS ∧ ∀ ds q, W ds q → wS (env0 N.length ds) { nx := fun _ => q .non, rt := q }) : Dm P w K mg base (k + 1) C m ps W := by
  obtain ⟨f, fd, F, c, me, hb⟩ := h0.ex
  exact ⟨f, fd, fn_d F S hW (h f), c, me, hb⟩
theorem di_of {x qual : Str} {C : Addr} {st : Stmt} {N ps : List Str} {k : Nat} {W : WI} (h0 : HereI K mg x C qual ps st) (S : FnScope N ps (defScope st)) (hW : ∀ ds q, W ds q → ds.length + 1 = ps.length)
    (h : ∀ (f : Addr) (cdv : Value) (A : Around) (outer : List Env) (s : Shared) (H : Hp) (E : XK), Room k (A.deeper (PyProof.Rows.envOfC qual (defScope st) s.heap.objs.size f cdv)) →
      ∃ t wS, DSs (cxOf CX0 P w K mg base N qual (defScope st) f cdv A outer s H E).nox (defBody st) t wS ∧ ∀ a ds q, W ds q → wS (envI a C N.length ds) { nx := kEndI a C q, rt := fun _ => False }) : Di P w K mg base (k + 1) x C ps W := by
  obtain ⟨f, fd, F, M, hm, hb⟩ := h0.ex
  refine ⟨f, fd, F.ok S (fun vs H Q E hsp => ?_) (fun cdv A outer s H vs Q E hr hsp => ?_), M, hm, hb⟩
  · obtain ⟨G, a, dx, us, ds, q, rfl, _, r, _, _, hw, _⟩ := hsp
    rw [List.length_cons, r.length]; exact hW ds q hw
  · obtain ⟨G, a, dx, us, ds, q, rfl, sg, r, ha, ga, hw, fin⟩ := hsp
    obtain ⟨t, wS, D, hD⟩ := h f cdv A outer s H E hr
    refine ⟨t, D.ps, ?_⟩
    have hl : ds.length + 1 ≤ N.length := by
      rw [hW ds q hw]
      have := congrArg List.length S.pre
      rw [List.length_take] at this
      omega
    have f0 := fr_startI N sg ha ga r hl
    refine D.snd _ G H _ _ _ _ f0 (hD a ds q hw) ⟨fun G' H' env σ f' hq0 => ?_, fun v d G' H' env σ f' r' hq => hq.elim, fun _ _ _ _ _ z => z.elim, fun _ _ _ _ _ z => z.elim⟩
    have hq : kEndI a C q env := hq0
    unfold kEndI at hq
    split at hq
    · rename_i a' C' fs he
      obtain ⟨rfl, rfl, hq⟩ := hq
      split at hq
      · rename_i l hl'
        obtain ⟨hs, dx', ws, k1, k2, k3, k4, nd⟩ := f'.getOi he
        exact fin l ws dx' G' H' (fun b o e n => f'.hb b o ((if_neg n).trans e) (by intro z; cases z)) f'.gg f'.gh (fun b o e n h => f'.old b o ((if_neg n).trans e) h) k3 k1 (k2.all hl') hq
      · exact hq.elim
    · exact hq.elim
end
end Y

/-! small things: * in displays, bit_length, isinstance of two types, pop, tuple * int, dict(pairs) -/
namespace Y
open PySem L2
section
variable {K : PySem.W.Frag} {X : Cx} {e a b tg : Expr} {es : List Expr} {t ta tb : TE} {w wa wb : WE} {tA : TA} {wA : WA} {pos p : Pos} {x : Str}
/-! ### *e in a display -/
def kStar (wA : WA) (env : List Sl) (q : List D → Prop) (d : D) : Prop := match items d with | some xs => wA env fun ds => q (xs ++ ds) | none => False
def wStar (w : WE) (wA : WA) : WA := fun env q => w env (kStar wA env q)
theorem da_star (ha : DE X e t w) (hr : DA X es tA wA) (hK : X.K = K := by rfl) (hs : starEach (.Starred e p :: es) X.env = (true, eval e X.env) :: starEach es X.env := by rfl) : DA X (.Starred e p :: es) (StX.tStar K t tA) (wStar w wA) := by
  subst hK
  exact ⟨StX.pa_star ha.pe hr.pa hs, fun c G H env σ Q q f hw k => ha.snd c G H env σ _ _ f hw fun v d G1 H1 f1 s1 r1 hw1 => by
    unfold kStar at hw1
    split at hw1
    · rename_i xs he
      obtain ⟨a, vs, rfl, hs', hr'⟩ := RH.seq f1.gh (RH.of (Same.trans f1.gh (Same.refl _)) r1) he
      refine ⟨a, vs, rfl, hs'.symm, hr.snd c G1 H1 env σ _ _ f1 hw1 fun us ds G2 H2 f2 s2 r2 hq => ?_⟩
      exact k _ _ G2 H2 f2 (s1.trans s2) ((RL.mono s2.gg _ _ hr').append r2) hq
    · exact hw1.elim⟩
/-! ### x.bit_length() -/
def bitsI (i : Int) : Int := (Builtin.Int.intBits i : Nat)
def kBits (q : D → Prop) (d : D) : Prop := match d with | .int i => q (.int (bitsI i)) | _ => False
def wBits (w : WE) : WE := fun env q => w env (kBits q)
theorem de_bits {apos : Pos} (ha : DE X e t w) (hbase : attributeBase e "bit_length" X.env (eval e X.env) = eval e X.env := by rfl) (hline : (apos.endLine == pos.line) = true := by rfl) : DE X (.Call (.Attribute e "bit_length" apos) [] [] pos) (tBits t) (wBits w) := ⟨pe_bits ha.pe hbase hline, fun c G H env σ Q q f hw k =>
  ha.snd c G H env σ _ _ f hw fun v d G1 H1 f1 s1 r1 hq => by
    unfold kBits at hq
    split at hq
    · rename_i i
      exact ⟨i, r1, k _ _ G1 H1 f1 s1 R.int_ hq⟩
    · exact hq.elim⟩
/-! ### isinstance(e, (T, U)) -/
def kIsi2 (T U : Tn) (q : D → Prop) (d : D) : Prop := match d with | .dct _ => False | .ins .. => False | d => q (.bl (isT T d || isT U d))
theorem kIsi2_e {T U : Tn} {q : D → Prop} {d : D} (h : kIsi2 T U q d) : flatT d ∧ q (.bl (isT T d || isT U d)) := by cases d <;> first | exact h.elim | exact ⟨True.intro, h⟩
def wIsi2 (T U : Tn) (w : WE) : WE := fun env q => w env (kIsi2 T U q)
theorem call_isiT' (hK : X.K = K := by rfl) : CallR X (.builtin "isinstance") (rIsiT K) := by subst hK; exact call_isiT
theorem de_isi2 (T U : Tn) {y z : Str} {p2 p3 p4 : Pos} {kk : Nat} (ha : DE X e t w) (hg : Gl X "isinstance") (hm : X.mg "isinstance" = none) (hgT : Gl X y) (hmT : X.mg y = none) (hvT : bootBuiltins y = some (.type T.name)) (hgU : Gl X z) (hmU : X.mg z = none) (hvU : bootBuiltins z = some (.type U.name))
    (hn : y ≠ "__name__" := by decide) (hdb : (y == ("__debug__" : Str)) = false := by decide) (hn2 : z ≠ "__name__" := by decide) (hdb2 : (z == ("__debug__" : Str)) = false := by decide)
    (he : starEach [e, .Tuple [.Name y p2, .Name z p3] kk p4] X.env = (false, eval e X.env) :: starEach [.Tuple [.Name y p2, .Name z p3] kk p4] X.env := by rfl) (he2 : starEach [.Tuple [.Name y p2, .Name z p3] kk p4] X.env = (false, eval (.Tuple [.Name y p2, .Name z p3] kk p4) X.env) :: starEach [] X.env := by rfl)
    (he3 : starEach [.Name y p2, .Name z p3] X.env = (false, eval (.Name y p2) X.env) :: starEach [.Name z p3] X.env := by rfl) (he4 : starEach [.Name z p3] X.env = (false, eval (.Name z p3) X.env) :: starEach [] X.env := by rfl)
    (hpl : (backTo pos (starEach [.Tuple [.Name y p2, .Name z p3] kk p4] X.env)).any (·.1) = false := by rfl) (hK : X.K = K := by rfl) :
    DE X (.Call (.Name "isinstance" p) [e, .Tuple [.Name y p2, .Name z p3] kk p4] [] pos) (tCB (rIsiT K) (tCons t (tCons (tTup (tCons (tC (.ty T.name)) (tCons (tC (.ty U.name)) tNil))) tNil))) (wIsi2 T U w) :=
  ⟨pe_callB (call_isiT' hK) hg hm (by with_unfolding_all rfl) (pa_cons ha.pe (pa_cons (pe_tup (pa_cons (pe_bltn hgT hmT hvT rfl hn hdb) (pa_cons (pe_bltn hgU hmU hvU rfl hn2 hdb2) pa_nil he4) he3)) pa_nil he2) he) (by decide) (by decide) he hpl, fun c G H env σ Q q f hw k => by
    subst hK
    refine ha.snd c G H env σ _ _ f hw fun v d G1 H1 f1 g1 r1 hw1 => ?_
    obtain ⟨h1, h2⟩ := kIsi2_e hw1
    refine ⟨by show 2 ≤ sizeLine; decide, fun pp hp => ?_⟩
    have g2 := f1.newH (o := .tup [.ty T.name, .ty U.name]) hp
    have f2 := f1.step g2
    refine ⟨v, pp, _, _, [.type T.name, .type U.name], isT T d || isT U d, rfl, upd_same, .cons (.ty _) (.cons (.ty _) .nil), tyx (r1.mono (g2.gg.trans f2.gh)) h1, ?_, k _ _ G1 _ f2 (g1.trans g2) R.bl_ h2⟩
    refine kitAny_cons (kit_t h1) (fun hb => ?_) (fun hb => by rw [hb]; rfl)
    refine kitAny_cons (kit_t h1) (fun hb2 => ?_) (fun hb2 => by rw [hb2]; exact Bool.or_true _)
    rw [hb, hb2]; rfl⟩
/-! ### target = xs.pop(), xs ours -/
def wPop (i : Nat) (wg : WG) : WS := fun env E => match env[i]? with | some (.ol ds) => (∃ d ini, ds = ini ++ [d] ∧ wg d (env.set i (.ol ini)) E.nx) | _ => False
theorem RL.lastE {G : Hp} {ini : List D} {d : D} {vs : List V} (r : RL K G (ini ++ [d]) vs) : ∃ us v, vs = us ++ [v] ∧ RL K G ini us ∧ R K G d v := by
  have hl := r.length
  rw [List.length_append, List.length_singleton] at hl
  have h1 := RL.take ini.length r
  rw [List.take_left'] at h1
  · obtain ⟨v, e, rv⟩ := r.get (i := ini.length) (d := d) (by rw [List.getElem?_append_right (Nat.le_refl _), Nat.sub_self]; rfl)
    refine ⟨vs.take ini.length, v, ?_, h1, rv⟩
    have hv : ini.length < vs.length := by omega
    rw [List.getElem?_eq_getElem hv] at e
    have e' := Option.some.inj e
    have := List.take_append_drop ini.length vs
    rw [List.drop_eq_getElem_cons hv, e', List.drop_eq_nil_of_le (by omega)] at this
    exact this.symm
  · rfl
theorem ds_pop (i : Nat) {g : TG} {wg : WG} {ss : List Nat} {apos cpos : Pos} (ha : PE X a (tVar i)) (hg : DG X tg g wg ss) (hK : X.K = K := by rfl) (hbase : attributeBase a "pop" X.env (eval a X.env) = eval a X.env := by rfl) (hline : (apos.endLine == cpos.line) = true := by rfl)
    (hs : swapsWithSole [tg] (.Call (.Attribute a "pop" apos) [] [] cpos) pos.line X.env = pure false := by rfl) (hw : swappedStores [tg] (.Call (.Attribute a "pop" apos) [] [] cpos) X.env = pure none := by rfl) (h1 : (assignEach [tg] X.env).map (·.2) = [assign tg X.env] := by rfl) :
    DS X (.Assign [tg] (.Call (.Attribute a "pop" apos) [] [] cpos) pos) (tAsg (tBM0 K "list" rPop (tVar i)) g) (wPop i wg) := by
  subst hK
  exact ⟨ps_asg (pe_bm0 PySem.F.plainAttrs_list PySem.F.slot_list_pop PySem.F.type_list_pop mt_pop ha hbase hline) hg.pg hs hw h1, fun c G H env σ D E f hw L => by
    unfold wPop at hw
    split at hw
    · rename_i ds he
      obtain ⟨d, ini, rfl, hw⟩ := hw
      obtain ⟨a, vs, e1, h1, h2, h3, h4⟩ := f.getO he
      obtain ⟨us, v, rfl, r1, r2⟩ := h2.lastE
      refine ⟨.ref a, e1, .inl ⟨rfl, _, SqL.of h1⟩, a, us ++ [v], v, rfl, rfl, h1, by rw [List.length_append, List.length_singleton, Nat.add_sub_cancel, List.getElem?_append_right (Nat.le_refl _), Nat.sub_self]; rfl, ?_⟩
      have f2 := f.write he e1 r1
      rw [List.dropLast_concat]
      exact hg.snd c G _ _ σ v d _ _ f2 r2 hw fun env2 σ2 G2 H2 f3 s3 _ hq2 => L.nx G2 H2 env2 σ2 f3 hq2
    · exact hw.elim⟩
/-! ### tuple * int -/
def wRepT : WO := fun d e q => match d, e with | .tup xs, .int k => xs ≠ [] ∧ 2 ≤ k ∧ k ≤ 1000 ∧ xs.length ≤ 1000 ∧ q (.tup (List.replicate k.toNat xs).flatten) | _, _ => False
theorem rl_rep {G : Hp} {ds : List D} {vs : List V} (r : RL K G ds vs) : ∀ n, RL K G (List.replicate n ds).flatten (List.replicate n vs).flatten
  | 0 => .nil
  | n + 1 => by rw [List.replicate_succ, List.replicate_succ, List.flatten_cons, List.flatten_cons]; exact r.append (rl_rep r n)
theorem so_repT : SndO K (rRepT K) wRepT := fun c G H env σ x y d e Q q f hx hy hw k => by
  unfold wRepT at hw
  split at hw
  · rename_i xs n
    obtain ⟨h1, h2, h3, h4, hq⟩ := hw
    obtain ⟨a, vs, rfl, e1, e2⟩ := hx.tup
    have hl := e2.length
    refine ⟨a, n, vs, rfl, hy.int, sqt_same f.gh e1, fun z => h1 (List.length_eq_zero_iff.mp (by rw [← hl, z]; rfl)), h2, h3, by omega, fun pp hp => ?_⟩
    have g := f.newG (o := .tup (List.replicate n.toNat vs).flatten) hp
    exact k _ _ _ _ (f.step g) g (.tup (SqT.of upd_same) (rl_rep (RL.mono g.gg _ _ e2) _)) hq
  · exact hw.elim
theorem op_repTK (hK : X.K = K := by rfl) : OpR X (binaryOp .Mult) (rRepT K) := by subst hK; exact op_repT
/-! ### dict(pairs) -/
def pairsD : List D → Option (List (Key × D))
  | [] => some []
  | .tup [k, d] :: r => match keyD k, pairsD r with | some k, some l => some ((k, d) :: l) | _, _ => none
  | _ => none
theorem rl_pairs {G H : Hp} (s : Same G H) : ∀ {ds : List D} {vs : List V} {l : List (Key × D)}, RL K G ds vs → pairsD ds = some l → ∃ (ps : List Addr) (ws : List (Key × V)), vs = ps.map V.ref ∧ Paired (fun p kv => SqT K H p [kV kv.1, kv.2]) ps ws ∧ RK K G l ws
  | [], _, l, r, e => by cases e; exact ⟨[], [], r.nilE, .nil, .nil⟩
  | d :: ds, _, l, r, e => by
    obtain ⟨v, us, rfl, r1, r2⟩ := r.consE
    unfold pairsD at e
    split at e
    · cases ‹_ = []›
    · rename_i k d' rest heq
      cases heq
      split at e
      · rename_i ky l' hk hl
        cases e
        obtain ⟨ps, ws, rfl, hp, hr⟩ := rl_pairs s r2 hl
        obtain ⟨a, vs, rfl, h1, h2⟩ := r1.tupE
        obtain ⟨v1, w1, rfl, q1, q2⟩ := h2.consE
        obtain ⟨v2, w2, rfl, q3, q4⟩ := q2.consE
        rw [q4.nilE] at h1
        have := q1.key hk
        subst this
        exact ⟨a :: ps, (ky, v2) :: ws, rfl, .cons (sqt_same s h1) hp, .cons q3 hr⟩
      · cases e
    · cases e
def kDictP (q : List (Key × D) → Prop) (d : D) : Prop := match d with | .lst ds => (match pairsD ds with | some l => q (mergeD [] l) | none => False) | _ => False
theorem dm_dictP (hc : X.calm = true) (hg : Gl X "dict") (hm : X.mg "dict" = none) (ha : DE X e t w) (he : starEach [e] X.env = (false, eval e X.env) :: starEach [] X.env := by rfl) (hpl : (backTo pos (starEach [] X.env)).any (·.1) = false := by rfl) :
    DM X (.Call (.Name "dict" p) [e] [] pos) (tCB (fun xs H Q => ∃ (a : Addr) (ps : List Addr) (kvs : List (Key × V)), xs = [.ref a] ∧ SqL X.K H a (ps.map V.ref) ∧ Paired (fun p kv => SqT X.K H p [kV kv.1, kv.2]) ps kvs ∧ ∀ p, H p = none → Q (.ref p) (upd H p (.dK (mergeK [] kvs)))) (tCons t tNil)) (fun env q => w env (kDictP q)) :=
  ⟨pe_callTy (call_dictP hc) hg hm (by with_unfolding_all rfl) (pa_cons ha.pe pa_nil he) (by decide) (by decide) he hpl, fun c G H env σ Q q f hw k => ha.snd c G H env σ _ _ f hw fun v d G1 H1 f1 g1 r1 hq => by
    unfold kDictP at hq
    split at hq
    · rename_i ds
      split at hq
      · rename_i l hl
        obtain ⟨a, vs, rfl, h1, h2⟩ := r1.lstE
        obtain ⟨ps, ws, rfl, hp, hr⟩ := rl_pairs f1.gh h2 hl
        refine ⟨a, ps, ws, rfl, SqL.of (f1.gh _ _ h1), hp, fun pp hn => ?_⟩
        have g := f1.newH (o := .dK (mergeK [] ws)) hn
        exact k pp _ _ G1 _ (f1.step g) (g1.trans g) upd_same (rk_merge hr .nil) (f1.gnone hn) (f1.h0none hn) (g1.fresh hn) (f1.noOwn hn) hq
      · exact hq.elim
    · exact hq.elim⟩
end
end Y

/-! three at once -/
namespace Y
open PySem L2
theorem u65 {k : Nat} {A : Around} (r : Room k A) : A.units + 65 < cLine := by have := r.un; omega
section
variable {X : Cx} {a b c3 : Expr} {t ta tb tc : TE} {tA : TA} {wE : WE} {wb wc wA : WA} {i j l : Nat} {x y z : Str} {px py pz pt pos : Pos} {kt k2 : Nat} {pt2 : Pos}
def kPar3 (i j l : Nat) (E : DEnds) (env : List Sl) (us : List D) : Prop := match us with | [d, e, g] => E.nx (((env.set i (.d d)).set j (.d e)).set l (.d g)) | _ => False
theorem ds_par3 (hc : X.calm = true) (hN : X.N.Nodup) (hi : X.N[i]? = some x) (hj : X.N[j]? = some y) (hl : X.N[l]? = some z) (hij : i ≠ j) (hil : i ≠ l) (hjl : j ≠ l)
    (hx : X.env.scope.names.lookup x = some .local) (hy : X.env.scope.names.lookup y = some .local) (hz : X.env.scope.names.lookup z = some .local) (ha : DA X [a, b, c3] tA wA)
    (hw : swappedStores [.Tuple [.Name x px, .Name y py, .Name z pz] kt pt] (.Tuple [a, b, c3] k2 pt2) X.env = pure (some [x, y, z]))
    (hs : swapsWithSole [.Tuple [.Name x px, .Name y py, .Name z pz] kt pt] (.Tuple [a, b, c3] k2 pt2) pos.line X.env = pure false := by rfl) :
    DS X (.Assign [.Tuple [.Name x px, .Name y py, .Name z pz] kt pt] (.Tuple [a, b, c3] k2 pt2) pos) (tPar3 i j l tA) (fun env E => wA env (kPar3 i j l E env)) :=
  ⟨ps_par3 hc hN hi hj hl hij hil hjl hx hy hz ha.pa hw hs, fun c G H env σ D E f hw L => ha.snd c G H env σ _ _ f hw fun vs ds G' H' f' s r hq => by
    unfold kPar3 at hq
    split at hq
    · obtain ⟨v, us, rfl, r1, r2⟩ := r.consE
      obtain ⟨u, us2, rfl, r3, r4⟩ := r2.consE
      obtain ⟨u3, us3, rfl, r5, r6⟩ := r4.consE
      rw [r6.nilE]
      exact ⟨v, u, u3, rfl, L.nx _ H' _ _ (((f'.setD i r1).setD j r3).setD l r5) hq⟩
    · exact hq.elim⟩
theorem noOwn_setD {env : List Sl} {σ : L2.St} {p : Addr} {d : D} {v : V} (h : NoOwn env σ p) (i : Nat) : NoOwn (env.set i (.d d)) (σ.set i (some v)) p := fun m s o h1 h2 e => by
  by_cases hm : i = m
  · subst hm
    by_cases hl : i < env.length
    · rw [List.getElem?_set_self hl] at h1; cases h1; cases e
    · rw [List.getElem?_eq_none (by rw [List.length_set]; omega)] at h1; cases h1
  · rw [List.getElem?_set_ne hm] at h1 h2; exact h m s o h1 h2 e
theorem noOwn_setL {env : List Sl} {σ : L2.St} {p o1 : Addr} {ds : List D} (h : NoOwn env σ p) (ne : p ≠ o1) (i : Nat) : NoOwn (env.set i (.ol ds)) (σ.set i (some (.ref o1))) p := fun m s o h1 h2 e => by
  by_cases hm : i = m
  · subst hm
    by_cases hl : i < env.length
    · by_cases hl2 : i < σ.length
      · rw [List.getElem?_set_self hl] at h1; cases h1
        rw [List.getElem?_set_self hl2] at h2; cases h2
        exact ne (List.mem_singleton.mp e)
      · rw [List.getElem?_eq_none (by rw [List.length_set]; omega)] at h2; cases h2
    · rw [List.getElem?_eq_none (by rw [List.length_set]; omega)] at h1; cases h1
  · rw [List.getElem?_set_ne hm] at h1 h2; exact h m s o h1 h2 e
/-- x, y, z = e, [..], [..]: the last two are lists of ours -/
theorem ds_par3dOO (hc : X.calm = true) (hN : X.N.Nodup) (hi : X.N[i]? = some x) (hj : X.N[j]? = some y) (hl : X.N[l]? = some z) (hij : i ≠ j) (hil : i ≠ l) (hjl : j ≠ l)
    (hx : X.env.scope.names.lookup x = some .local) (hy : X.env.scope.names.lookup y = some .local) (hz : X.env.scope.names.lookup z = some .local) (ha : DE X a ta wE) (hb : DN X b tb wb) (hc3 : DN X c3 tc wc)
    (hw : swappedStores [.Tuple [.Name x px, .Name y py, .Name z pz] kt pt] (.Tuple [a, b, c3] k2 pt2) X.env = pure (some [x, y, z]))
    (hs : swapsWithSole [.Tuple [.Name x px, .Name y py, .Name z pz] kt pt] (.Tuple [a, b, c3] k2 pt2) pos.line X.env = pure false := by rfl)
    (he1 : starEach [a, b, c3] X.env = (false, eval a X.env) :: starEach [b, c3] X.env := by rfl) (he2 : starEach [b, c3] X.env = (false, eval b X.env) :: starEach [c3] X.env := by rfl) (he3 : starEach [c3] X.env = (false, eval c3 X.env) :: starEach [] X.env := by rfl) :
    DS X (.Assign [.Tuple [.Name x px, .Name y py, .Name z pz] kt pt] (.Tuple [a, b, c3] k2 pt2) pos) (tPar3 i j l (tCons ta (tCons tb (tCons tc tNil)))) (fun env E => wE env fun d => wb env fun xs => wc env fun ys => E.nx (((env.set i (.d d)).set j (.ol xs)).set l (.ol ys))) :=
  ⟨ps_par3 hc hN hi hj hl hij hil hjl hx hy hz (pa_cons ha.pe (pa_cons hb.pe (pa_cons hc3.pe pa_nil he3) he2) he1) hw hs, fun c G H env σ D E f hw L => by
    refine ha.snd c G H env σ _ _ f hw fun v d G1 H1 f1 g1 r1 hq1 => ?_
    refine hb.snd c G1 H1 env σ _ _ f1 hq1 fun o1 vs1 ds1 G2 H2 f2 g2 a1 a2 a3 a4 a5 no1 hq2 => ?_
    refine hc3.snd c G2 H2 env σ _ _ f2 hq2 fun o2 vs2 ds2 G3 H3 f3 g3 b1 b2 b3 b4 b5 no2 hq3 => ?_
    have e1 : H3 o1 = some (.lst vs1) := g3.hh _ _ a1 (f.own_ne a4)
    have ne : o2 ≠ o1 := fun z => by rw [z, a1] at b5; cases b5
    have k1 := f3.setD i (r1.mono (g2.gg.trans g3.gg))
    have k2 := k1.setOl j e1 (RL.mono g3.gg _ _ a2) (g3.old _ _ a1 a3) a4 (noOwn_setD no1 i)
    have k3 := k2.setOl l b1 b2 b3 b4 (noOwn_setL (noOwn_setD no2 i) ne j)
    exact ⟨v, .ref o1, .ref o2, rfl, L.nx _ H3 _ _ k3 hq3⟩⟩
end
/-! K named -/
section
variable {X : Cx} {K : PySem.W.Frag} {tg iter e a b : Expr} {t : TE} {w : WE} {tA : TA} {wA : WA} {pos : Pos}
theorem di_zipK {elts : List Expr} {kk : Nat} {p tpos : Pos} (hg : Gl X "zip") (hm : X.mg "zip" = none) (ha : DA X [a, b] tA wA) (hK : X.K = K := by rfl) (hs : starEach [a, b] X.env = (false, eval a X.env) :: starEach [b] X.env := by rfl) (hpl : (backTo pos (starEach [b] X.env)).any (·.1) = false := by rfl) :
    DI X (.Tuple elts kk tpos) (.Call (.Name "zip" p) [a, b] [] pos) (RZ.iZipA K tA) (wZip wA) := by subst hK; exact di_zip hg hm ha hs hpl
theorem di_enumK {elts : List Expr} {kk : Nat} {p tpos : Pos} (hg : Gl X "enumerate") (hm : X.mg "enumerate" = none) (ha : DA X [e] tA wA) (hK : X.K = K := by rfl) (hs : starEach [e] X.env = [(false, eval e X.env)] := by rfl) :
    DI X (.Tuple elts kk tpos) (.Call (.Name "enumerate" p) [e] [] pos) (YE.iEnumA K tA) (wEnum wA) := by subst hK; exact di_enum hg hm ha hs
theorem dib_seqK (h : DB X iter t w) (hK : X.K = K := by rfl) : DIB X tg iter (iSeq K t) (wSeq w) := by subst hK; exact dib_seq h
theorem di_seqK (h : DE X iter t w) (hK : X.K = K := by rfl) : DI X tg iter (iSeq K t) (wSeq w) := by subst hK; exact di_seq h
end
/-- a constant of the text -/
structure CstD (K : PySem.W.Frag) (mg : Str → Option Value) (x : Str) (d : D) : Prop where
  ex : ∃ u v, mg x = some u ∧ RelV v u ∧ ∀ G, R K G d v
end Y

/-! typed comprehensions -/
namespace Y
open PySem L2
def AllR {α : Type} (Z : α → D → Prop) : List α → List D → Prop
  | [], l => l = []
  | x :: r, l => ∃ y l', l = y :: l' ∧ Z x y ∧ AllR Z r l'
theorem AllR.snoc {α : Type} {Z : α → D → Prop} {x : α} {y : D} (h : Z x y) : ∀ {xs : List α} {l : List D}, AllR Z xs l → AllR Z (xs ++ [x]) (l ++ [y])
  | [], l, e => by rw [show l = [] from e]; exact ⟨y, [], rfl, h, rfl⟩
  | a :: r, l, ⟨b, l', e, h1, h2⟩ => ⟨b, l' ++ [y], by rw [e]; rfl, h1, AllR.snoc h h2⟩
theorem AllR.length {α : Type} {Z : α → D → Prop} : ∀ {xs : List α} {l : List D}, AllR Z xs l → l.length = xs.length
  | [], l, e => by rw [show l = [] from e]; rfl
  | a :: r, l, ⟨b, l', e, h1, h2⟩ => by rw [e, List.length_cons, List.length_cons, AllR.length h2]
theorem AllR.mem {α : Type} {Z : α → D → Prop} {y : D} : ∀ {xs : List α} {l : List D}, AllR Z xs l → y ∈ l → ∃ x ∈ xs, Z x y
  | [], l, e, h => by rw [show l = [] from e] at h; cases h
  | a :: r, l, ⟨b, l', e, h1, h2⟩, h => by
    rw [e] at h
    rcases List.mem_cons.mp h with rfl | h
    · exact ⟨a, List.mem_cons_self, h1⟩
    · obtain ⟨x, hx, hz⟩ := AllR.mem h2 h
      exact ⟨x, List.mem_cons_of_mem _ hx, hz⟩
theorem AllR.mem' {α : Type} {Z : α → D → Prop} {x : α} : ∀ {xs : List α} {l : List D}, AllR Z xs l → x ∈ xs → ∃ y ∈ l, Z x y
  | [], l, e, h => by cases h
  | a :: r, l, ⟨b, l', e, h1, h2⟩, h => by
    rw [e]
    rcases List.mem_cons.mp h with rfl | h
    · exact ⟨b, List.mem_cons_self, h1⟩
    · obtain ⟨y, hx, hz⟩ := AllR.mem' h2 h
      exact ⟨y, List.mem_cons_of_mem _ hx, hz⟩
theorem AllR.map {α : Type} {Z : α → D → Prop} {g : α → D} : ∀ {xs : List α} {l : List D}, AllR Z xs l → (∀ x y, Z x y → y = g x) → l = xs.map g
  | [], l, e, _ => e
  | a :: r, l, ⟨b, l', e, h1, h2⟩, h => by rw [e, h _ _ h1, AllR.map h2 h]; rfl
/-- each item gives one that Z tells -/
theorem g_lcT {α : Type} {f : α → D} {rows : List α} {wg : WG} {we : WE} {vs : List Nat} {env : List Sl} {ql : List D → Prop} (Z : α → D → Prop) (hl : rows.length ≤ sizeLine)
    (step : ∀ r ∈ rows, ∀ (L : Prop) (R : D → Prop), L → (∀ y, Z r y → R y) → wg (f r) (wipeE env vs) fun env2 => we env2 fun y => L ∧ R y) (hq : ∀ l, AllR Z rows l → ql l) : kLc wg wYes we vs env ql (rows.map f) := by
  refine kLc_i ⟨fun k acc => AllR Z (rows.take k) acc, rfl, fun k d acc hd ha => ?_, fun acc ha => hq acc ?_⟩
  · rw [List.getElem?_map] at hd
    cases hr : rows[k]? with
    | none => rw [hr] at hd; cases hd
    | some r =>
      rw [hr] at hd; cases hd
      have hk : k < rows.length := (List.getElem?_eq_some_iff.mp hr).1
      have hal : acc.length < sizeLine := by rw [ha.length, List.length_take]; omega
      refine step r (List.mem_of_getElem? hr) (acc.length < sizeLine) (fun y => AllR Z (rows.take (k + 1)) (acc ++ [y])) hal fun y hz => ?_
      rw [List.take_succ, hr]
      exact ha.snoc hz
  · rw [List.length_map, List.take_length] at ha; exact ha
/-- some items are taken, each gives z -/
theorem g_lcR {α : Type} {f : α → D} {rows : List α} {wg : WG} {wt : WT} {we : WE} {vs : List Nat} {env : List Sl} {ql : List D → Prop} (p : α → Bool) (z : α → D) (hl : rows.length ≤ sizeLine)
    (step : ∀ r ∈ rows, ∀ (L n : Prop) (R : D → Prop), L → (p r = true → R (z r)) → (p r = false → n) → wg (f r) (wipeE env vs) fun env2 => wt env2 (kIt we env2 L R n)) (hq : ql ((rows.filter p).map z)) : kLc wg wt we vs env ql (rows.map f) := by
  refine kLc_i ⟨fun k acc => acc = ((rows.take k).filter p).map z, rfl, fun k d acc hd ha => ?_, fun acc ha => ?_⟩
  · rw [List.getElem?_map] at hd
    cases hr : rows[k]? with
    | none => rw [hr] at hd; cases hd
    | some r =>
      rw [hr] at hd; cases hd
      have hk : k < rows.length := (List.getElem?_eq_some_iff.mp hr).1
      have hal : acc.length < sizeLine := by
        rw [ha, List.length_map]
        have h1 : ((rows.take k).filter p).length ≤ (rows.take k).length := List.length_filter_le ..
        rw [List.length_take] at h1
        omega
      have hn : ((rows.take (k + 1)).filter p).map z = acc ++ if p r then [z r] else [] := by
        rw [List.take_succ, hr, ha]
        simp only [Option.toList_some, List.filter_append, List.map_append, List.append_cancel_left_eq]
        cases hp : p r <;> simp [hp]
      refine step r (List.mem_of_getElem? hr) (acc.length < sizeLine) (acc = ((rows.take (k + 1)).filter p).map z) (fun y => acc ++ [y] = ((rows.take (k + 1)).filter p).map z) hal (fun e => ?_) fun e => ?_
      · rw [hn, e]; rfl
      · rw [hn, e]; simp
  · rw [List.length_map, List.take_length] at ha; rw [ha]; exact hq
/-! ### a while whose measure is told by the invariant -/
theorem ex_min (p : Nat → Prop) : ∀ n, p n → ∃ m, p m ∧ ∀ k, p k → m ≤ k := by
  intro n
  induction n using Nat.strongRecOn with
  | _ n ih =>
    intro h
    by_cases z : ∃ k, k < n ∧ p k
    · obtain ⟨k, hk, hp⟩ := z
      exact ih k hk hp
    · exact ⟨n, h, fun k hk => Nat.le_of_not_lt fun lt => z ⟨k, lt, hk⟩⟩
noncomputable def muOf (I : Nat → List Sl → Prop) (env : List Sl) : Nat := @dite _ (∃ m, I m env ∧ ∀ k, I k env → m ≤ k) (Classical.propDecidable _) (fun h => Classical.choose h) fun _ => 0
theorem muOf_spec {I : Nat → List Sl → Prop} {env : List Sl} {n : Nat} (h : I n env) : I (muOf I env) env ∧ muOf I env ≤ n := by
  have e := ex_min (fun m => I m env) n h
  unfold muOf
  rw [dif_pos e]
  have := Classical.choose_spec e
  exact ⟨this.1, this.2 n h⟩
theorem g_whileN {wc : WT} {wb : WS} {env : List Sl} {E : DEnds} (I : Nat → List Sl → Prop) (n0 : Nat) (h0 : I n0 env)
    (step : ∀ n env' (N : List Sl → Prop), I n env' → (∀ m e, m < n → I m e → N e) → wc env' fun b => match b with | true => wb env' { nx := N, rt := E.rt, bk := E.nx, ct := N } | false => E.nx env') : wWhile wc wb env E := by
  refine g_while (fun env => ∃ n, I n env) (muOf I) ⟨n0, h0⟩ fun env' ⟨n, hn⟩ => ?_
  have hs := muOf_spec hn
  exact step (muOf I env') env' _ hs.1 fun m e hm hi => ⟨⟨m, hi⟩, Nat.lt_of_le_of_lt (muOf_spec hi).2 hm⟩
end Y

/-! attributes as targets, tuple.index, sorted(set(..)), dict(d) -/
namespace Y
open PySem L2
section
variable {X : Cx} {K : PySem.W.Frag} {o e a b : Expr} {f : Str} {pos p p2 q0 apos : Pos} {t ta tb : TE} {w wa wb : WE} {tA : TA} {wA : WA}
def gFld (K : PySem.W.Frag) (i : Nat) (f : Str) : TG := fun y σ H Q => ∃ a C dx fs, σ[i]? = some (some (.ref a)) ∧ H a = some (.ins C dx fs) ∧ Cls K C ∧ NoAttr K C f ∧ fs.length < 1000 ∧ Q σ (upd H a (.ins C dx (putF f y fs)))
theorem pg_fld (i : Nat) (ho : PE X o (tVar i)) : PG X (.Attribute o f pos) (gFld X.K i f) := by
  refine ⟨fun pins s σ H v u Q I r h => ?_⟩
  obtain ⟨a, C, dx, fs, h1, h2, c, n, l, q⟩ := h
  rw [assign_Attribute]
  refine wpAny_bind (wpAny_holding (thn (ho.run pins s σ H (fun x H1 => x = .ref a ∧ H1 = H) I ⟨.ref a, h1, rfl, rfl⟩) fun ov s1 ⟨x, H1, I1, rx, ex, eH⟩ => ?_))
  subst ex eH
  obtain rfl : ov = Value.ref a := rx
  refine wpAny_bind (wpAny_standAt (wpAny_bind (wpAny_holding (setattr_ok I1 h2 c n l r fun s3 I3 => ?_))))
  exact wpAny_release ⟨σ, _, I3, q⟩
/-- self.f, self.g = e -/
def kFld2 (K : PySem.W.Frag) (i : Nat) (f g : Str) (E : DEnds) (env : List Sl) (d : D) : Prop := match d with
  | .tup [x, y] => (match env[i]? with | some (.oi a C fs) => AtOk K C f ∧ AtOk K C g ∧ fs.length < 999 ∧ E.nx (env.set i (.oi a C (putFl g (.d y) (putFl f (.d x) fs)))) | _ => False) | _ => False
theorem putFl_len {f : Str} {x : Fl} : ∀ {fs : List (Str × Fl)}, (putFl f x fs).length ≤ fs.length + 1
  | [] => Nat.le_refl _
  | (g, y) :: r => by
    unfold putFl
    split
    · simp
    · have := putFl_len (f := f) (x := x) (fs := r)
      simp only [List.length_cons]; omega
theorem ds_fld2 {o2 : Expr} {g : Str} {p1 p3 p4 : Pos} {kk : Nat} (i : Nat) (ho : PE X o (tVar i)) (ho2 : PE X o2 (tVar i)) (hv : DE X e t w) (hc : X.calm = true) (hK : X.K = K := by rfl)
    (h2 : (assignEach [.Attribute o f p1, .Attribute o2 g p3] X.env).map (·.2) = assign (.Attribute o f p1) X.env :: (assignEach [.Attribute o2 g p3] X.env).map (·.2) := by rfl) (h3 : (assignEach [.Attribute o2 g p3] X.env).map (·.2) = assign (.Attribute o2 g p3) X.env :: (assignEach [] X.env).map (·.2) := by rfl)
    (hn : (assignEach [.Attribute o f p1, .Attribute o2 g p3] X.env).length = 2 := by rfl) (hst : (assignEach [.Attribute o f p1, .Attribute o2 g p3] X.env).findIdx? (·.1) = none := by rfl)
    (hs : swapsWithSole [.Tuple [.Attribute o f p1, .Attribute o2 g p3] kk p4] e pos.line X.env = pure false := by rfl) (hw : swappedStores [.Tuple [.Attribute o f p1, .Attribute o2 g p3] kk p4] e X.env = pure none := by rfl)
    (h1 : (assignEach [.Tuple [.Attribute o f p1, .Attribute o2 g p3] kk p4] X.env).map (·.2) = [assign (.Tuple [.Attribute o f p1, .Attribute o2 g p3] kk p4) X.env] := by rfl) :
    DS X (.Assign [.Tuple [.Attribute o f p1, .Attribute o2 g p3] kk p4] e pos) (tAsg t (gTup K 2 (gCons (gFld K i f) (gCons (gFld K i g) gNil)))) (fun env E => w env (kFld2 K i f g E env)) := by
  subst hK
  exact ⟨ps_asg hv.pe (pg_tup hc (pgs_cons (pg_fld i ho) (pgs_cons (pg_fld i ho2) pgs_nil h3) h2) hn hst) hs hw h1, fun c G H env σ D E fr hw L => hv.snd c G H env σ _ _ fr hw fun v d G1 H1 f1 s1 r1 hq => by
    unfold kFld2 at hq
    split at hq
    · rename_i x y
      split at hq
      · rename_i a C fs he
        obtain ⟨ok1, ok2, hl, hq⟩ := hq
        obtain ⟨A, vs, rfl, q1, q2⟩ := r1.tupE
        obtain ⟨v1, us, rfl, rx, q3⟩ := q2.consE
        obtain ⟨v2, us2, rfl, ry, q4⟩ := q3.consE
        have := q4.nilE
        subst this
        obtain ⟨hs, dx, ws, k1, k2, k3, k4, nd⟩ := f1.getOi he
        have f2 := f1.putFd (f := f) he k1 rx
        have he2 : (env.set i (.oi a C (putFl f (.d x) fs)))[i]? = some (.oi a C (putFl f (.d x) fs)) := List.getElem?_set_self (List.getElem?_eq_some_iff.mp he).1
        obtain ⟨hs2, dx2, ws2, m1, m2, m3, m4, nd2⟩ := f2.getOi he2
        have f3 := f2.putFd (f := g) he2 m1 ry
        have hdx : (upd H1 a (.ins C dx (putF f v1 ws))) a = some (.ins C dx2 ws2) := m1
        rw [upd_same] at hdx
        cases hdx
        refine ⟨A, [v1, v2], rfl, sqt_same f1.gh q1, rfl, v1, [v2], rfl, a, C, dx, ws, hs, k1, ok1.1, ok1.2, by rw [k2.length]; omega, v2, [], rfl, a, C, dx, _, hs, upd_same, ok2.1, ok2.2, by rw [m2.length]; have := putFl_len (f := f) (x := .d x) (fs := fs); omega, rfl, ?_⟩
        rw [List.set_set] at f3
        exact L.nx G1 _ _ σ f3 hq
      · exact hq.elim
    · exact hq.elim⟩
/-! ### t.index(s), names -/
def kIdx2 (q : D → Prop) (ds : List D) (e : D) : Prop := match e with | .str z => ∃ (ys : List Str) (j : Nat), ds = ys.map D.str ∧ ys[j]? = some z ∧ (∀ m, m < j → ys[m]? ≠ some z) ∧ q (.int (j : Nat)) | _ => False
def kIdx1 (wb : WE) (env : List Sl) (q : D → Prop) (d : D) : Prop := match d with | .tupc ds => wb env (kIdx2 q ds) | _ => False
def wIdx (wa wb : WE) : WE := fun env q => wa env (kIdx1 wb env q)
theorem rl_strsE {G : Hp} : ∀ {ys : List Str} {vs : List V}, RL K G (ys.map D.str) vs → vs = ys.map V.str
  | [], vs, r => r.nilE
  | y :: ys, vs, r => by
    obtain ⟨v, us, rfl, r1, r2⟩ := r.consE
    rw [rl_strsE r2, show v = V.str y from r1]; rfl
/-! ### tuples without a dict -/
def tTupC (t : TA) : TE := fun σ H Q => t σ H fun xs H1 => xs.length ≤ sizeLine ∧ ∀ (p : Addr) (od : Obj), H1 p = none → od.dict = none → Q (.ref p) (upd H1 p (.frz od (.tup xs)))
theorem pe_tupc {es : List Expr} {x1 : Nat} (h : PA X es tA) : PE X (.Tuple es x1 pos) (tTupC tA) := by
  refine ⟨fun pins s σ H Q I hq => ?_⟩
  refine wpAny_Tuple_spliced (thn (h.run pos pins s σ H _ I hq) fun us s1 ⟨xs, H1, I1, r, z, q⟩ => ⟨by rw [← r.length]; exact z, ?_⟩)
  have hf : H1 s1.heap.objs.size = none := I1.hok.fresh (Nat.le_refl _)
  refine ⟨.ref s1.heap.objs.size, upd H1 s1.heap.objs.size (.frz _ (.tup xs)), I1.laid (t' := s1.toks) (fun b u e => Heap.get?_push_of_some _ e) (Nat.le_refl _) ⟨Heap.get?_push_size _ rfl, z, us, r, ⟨_, Heap.get?_push_size _ rfl, rfl, _, rfl⟩⟩, rfl, q _ _ hf rfl⟩
def wTupC (wA : WA) : WE := fun env q => wA env fun ds => ds.length ≤ sizeLine ∧ q (.tupc ds)
theorem de_tupc {es : List Expr} {x1 : Nat} (h : DA X es tA wA) : DE X (.Tuple es x1 pos) (tTupC tA) (wTupC wA) := ⟨pe_tupc h.pa, fun c G H env σ Q q f hw k =>
  h.snd c G H env σ _ _ f hw fun vs ds G1 H1 f1 s1 r1 hq => ⟨by rw [r1.length]; exact hq.1, fun p od hp hd => by
    have g := f1.newG (o := .frz od (.tup vs)) hp
    exact k _ _ _ _ (f1.step g) (s1.trans g) (.tupc (.inl ⟨od, upd_same, hd⟩) (RL.mono g.gg _ _ r1)) hq.2⟩⟩
/-- forgotten -/
def weakD (d : D) : D := match d with | .tupc ds => .tup ds | d => d
theorem R.wkD {G : Hp} {d : D} {v : V} (r : R K G d v) : R K G (weakD d) v := by cases d <;> first | exact R.wk r | exact r
theorem de_wk (ha : DE X a ta wa) : DE X a ta (fun env q => wa env fun d => q (weakD d)) := ⟨ha.pe, fun c G H env σ Q q f hw k => ha.snd c G H env σ _ _ f hw fun v d G' H' f' s r hq => k v _ G' H' f' s r.wkD hq⟩
def tyT (K : PySem.W.Frag) (x : V) (H : Hp) : Prop := ∃ A vs, x = .ref A ∧ SqC K H A vs
def tTM (K : PySem.W.Frag) (r : V → List V → Hp → VK → Prop) (to : TE) (t : TA) : TE := fun σ H Q => to σ H fun x H1 => tyT K x H1 ∧ t σ H1 fun xs H2 => r x xs H2 Q
theorem tyT_is {pins : List (Addr × Obj)} {σ : L2.St} {H : Hp} {s : Shared} {x : V} {v : Value} (I : Inv X pins σ H s) (r : RelV x v) (ty : tyT X.K x H) :
    s.TypeIs v "tuple" ∧ ∀ a, v = .ref a → ∃ ob, s.heap.get? a = some ob ∧ ob.dict = none := by
  obtain ⟨A, vs, rfl, h⟩ := ty
  cases r
  rcases h with ⟨od, h, hd⟩ | ⟨o, its, n, h1, h2, h3, h4, h5⟩
  · obtain ⟨e, _, its, _, ⟨o2, e2, hc, _⟩⟩ := I.hok _ _ h
    rw [e] at e2; cases e2
    exact ⟨⟨_, e, hc⟩, fun a ea => by cases ea; exact ⟨_, e, hd⟩⟩
  · have e := I.kIn _ _ h1
    exact ⟨⟨_, e, h2⟩, fun a ea => by cases ea; exact ⟨_, e, h3⟩⟩
theorem pe_tm {r : V → List V → Hp → VK → Prop} {name : Str} {id : String} {cpos : Pos} {es : List Expr} (pa : PlainAttrs "tuple") (slot : Slot "tuple" name id) (hty : typeOf (.builtin id) = pure (.type "method_descriptor")) (hm : MtR X id r) (ho : PE X o ta) (ha : PA X (e :: es) tA)
    (hbase : attributeBase o name X.env (eval o X.env) = eval o X.env)
    (hfew : ((backTo cpos (starEach (e :: es) X.env)).all (fun x => !x.1) && (backToKw cpos (keywordEach [] X.env)).all (fun x => x.1.isSome)
      && decide ((e :: es).length + ([] : List Keyword).length + (if ([] : List Keyword).isEmpty then 0 else 1) < 30)) = true)
    (hline : (apos.endLine == cpos.line) = true) (hs : starEach (e :: es) X.env = (false, eval e X.env) :: starEach es X.env) (hplain : (backTo cpos (starEach es X.env)).any (·.1) = false) :
    PE X (.Call (.Attribute o name apos) (e :: es) [] cpos) (tTM X.K r ta tA) := by
  refine ⟨fun pins s σ H Q I h => ?_⟩
  refine wpAny_Call_method_late hbase hfew hline rfl (thn (ho.run pins s σ H _ I h) fun v s1 ⟨x, H1, I1, r1, ty, q1⟩ => ?_)
  obtain ⟨h1, h2⟩ := tyT_is I1 r1 ty
  refine ⟨"tuple", id, pa, slot, hty, h1, h2, ?_⟩
  have hA := ha.run cpos pins s1 σ H1 _ I1 q1
  rw [hs] at hA ⊢
  refine Calls.callWith_builtin (by show (false || (backTo cpos (starEach es X.env)).any (·.1)) = false; rw [hplain]; rfl) (Calls.evalArgs_plain ?_)
  exact thn hA fun us s2 ⟨vs, H2, I2, r2, q2⟩ => hm pins s2 σ H2 x vs v us Q I2 r1 r2 q2
theorem de_tupIndex (ha : DE X a ta wa) (hb : DE X b tb wb) (hK : X.K = K := by rfl) (hbase : attributeBase a "index" X.env (eval a X.env) = eval a X.env := by rfl)
    (hfew : ((backTo pos (starEach [b] X.env)).all (fun x => !x.1) && (backToKw pos (keywordEach [] X.env)).all (fun x => x.1.isSome) && decide ([b].length + ([] : List Keyword).length + (if ([] : List Keyword).isEmpty then 0 else 1) < 30)) = true := by rfl)
    (hline : (apos.endLine == pos.line) = true := by rfl) (hs : starEach [b] X.env = (false, eval b X.env) :: starEach [] X.env := by rfl) (hpl : (backTo pos (starEach [] X.env)).any (·.1) = false := by rfl) :
    DE X (.Call (.Attribute a "index" apos) [b] [] pos) (tTM K (fun x xs H Q => ∃ p, ∃ ys : List Str, ∃ z j, x = .ref p ∧ xs = [.str z] ∧ SqT K H p (ys.map V.str) ∧ ys[j]? = some z ∧ (∀ m, m < j → ys[m]? ≠ some z) ∧ Q (.int (j : Nat)) H) ta (tCons tb tNil)) (wIdx wa wb) := by
  subst hK
  exact ⟨pe_tm PySem.F.plainAttrs_tuple PySem.F.slot_tuple_index PySem.F.type_tuple_index mt_tup_index ha.pe (pa_cons hb.pe pa_nil hs) hbase hfew hline hs hpl, fun c G H env σ Q q f hw k => ha.snd c G H env σ _ _ f hw fun v d G1 H1 f1 g1 r1 hw1 => by
    unfold kIdx1 at hw1
    split at hw1
    · rename_i ds
      obtain ⟨A, vs, rfl, h1, h2⟩ := r1.tupcE
      refine ⟨⟨A, vs, rfl, sqc_same f1.gh h1⟩, ?_⟩
      refine hb.snd c G1 H1 env σ _ _ f1 hw1 fun u e G2 H2 f2 g2 r2 hq => ?_
      unfold kIdx2 at hq
      split at hq
      · obtain ⟨ys, j, rfl, hj, hno, hq⟩ := hq
        have := rl_strsE h2
        subst this
        exact ⟨A, ys, _, j, rfl, by rw [show u = V.str _ from r2], sqt_same (g2.gg.trans f2.gh) h1.t, hj, hno, k _ _ G2 H2 f2 (g1.trans g2) R.int_ hq⟩
      · exact hq.elim
    · exact hw1.elim⟩
/-! ### dict(d), a copy -/
def kDctCp (q : List (Key × D) → Prop) (d : D) : Prop := match d with | .dct kvs => q kvs | _ => False
theorem dm_dictD (hg : Gl X "dict") (hm : X.mg "dict" = none) (ha : DE X e t w) (he : starEach [e] X.env = (false, eval e X.env) :: starEach [] X.env := by rfl) (hpl : (backTo pos (starEach [] X.env)).any (·.1) = false := by rfl) :
    DM X (.Call (.Name "dict" p) [e] [] pos) (tCB (fun xs H Q => ∃ (a : Addr) (kvs : List (Key × V)), xs = [.ref a] ∧ Rd H a (.dK kvs) ∧ ∀ p, H p = none → Q (.ref p) (upd H p (.dK kvs))) (tCons t tNil)) (fun env q => w env (kDctCp q)) :=
  ⟨pe_callTy call_dictD hg hm (by with_unfolding_all rfl) (pa_cons ha.pe pa_nil he) (by decide) (by decide) he hpl, fun c G H env σ Q q f hw k => ha.snd c G H env σ _ _ f hw fun v d G1 H1 f1 g1 r1 hq => by
    unfold kDctCp at hq
    split at hq
    · rename_i kvs
      obtain ⟨a, od, ws, rfl, h1, h2⟩ := r1.dctE
      refine ⟨a, ws, rfl, .inr ⟨od, f1.gh _ _ h1⟩, fun pp hn => ?_⟩
      have g := f1.newH (o := .dK ws) hn
      exact k pp _ _ G1 _ (f1.step g) (g1.trans g) upd_same h2 (f1.gnone hn) (f1.h0none hn) (g1.fresh hn) (f1.noOwn hn) hq
    · exact hq.elim⟩
end
end Y

/-! tuple(t) of a clean tuple, self.f as a value, sorted(set(xs)) -/
namespace Y
open PySem L2 PyProof.Rows
section
variable {P : Program} {w : World} {A : Around} {E : Value → Shared → Prop} {s : Shared}
abbrev noSet (w : World) : Obj := { cls := .type "set", dict := none, data := .set #[] 0 (.fresh 0 0 (!w.params.followText "set-order")) }
theorem set_lstI {l : Addr} {its : Array Value} (ns : List Int) {Q : Value → Shared → Prop} (hh : A.handled = none) (hl : s.heap.IsList l its) (hi : IntsAre its.toList ns) (hb : ns.length + 1 < scanBound)
    (fin : ∀ (h' : Heap) (tk c : Nat), SetR w h' s.heap.objs.size (fun j => decide (j ∈ ns)) c → c ≤ ns.length → (∀ b o, s.heap.get? b = some o → h'.get? b = some o) → Q (.ref s.heap.objs.size) { s with heap := h', toks := tk }) : wpAny (model P w) A (call (.type "set") [.ref l]) Q E s := by
  have zl : its.size = ns.length := by
    have := IntsAre.length hi
    rwa [Array.length_toList] at this
  obtain ⟨c, tl, hmro⟩ := F.called_set.mro
  have m1 := F.called_set.made; have m2 := F.called_set.sub; have m3 := F.called_set.notType; have m4 := F.called_set.canCreate
  have m5 := F.typeCall_set_1 (.ref l)
  refine wpAny_call (codeAny_of_tree (show wpAny _ _ (callAny (.type "set") _) _ _ _ from wpAny_pure ⟨Code.quiet_builtin _ (by decide +kernel), codeAny_builtin F.entry_type_call ?_⟩))
  rw [Around.under_plain (weight_type_call_type "set" [.ref l] []) rfl]
  repeat (any_goals first | assumption | wp_step)
  refine codeAny_mono (code_set_led1 (.ref l) (E := E) (Q₁ := fun z s1 => z = .ref s.heap.objs.size ∧ s1 = { s with heap := s.heap.push (noSet w) }) ⟨rfl, rfl⟩) fun r s1 hr => ?_
  cases r with
  | error e => exact hr
  | ok fl =>
    cases fl with
    | ret z =>
      obtain ⟨rfl, rfl⟩ := hr
      have g0 : (s.heap.push (noSet w)).get? s.heap.objs.size = some (noSet w) := Heap.get?_push_size _ rfl
      have ty : Shared.TypeIs { s with heap := s.heap.push (noSet w) } (.ref s.heap.objs.size) "set" := ⟨_, g0, rfl⟩
      have b1 := F.called_set.init.lookup; have b2 := F.called_set.init.bind (.ref s.heap.objs.size)
      repeat (any_goals first | assumption | wp_step)
      refine codeAny_mono (codeAny_call_builtin (R := wants (fun r s2 => r = .none ∧ ∃ h' tk c, s2 = { s with heap := h', toks := tk } ∧ SetR w h' s.heap.objs.size (fun j => decide (j ∈ ns)) c ∧ c ≤ ns.length ∧ (∀ b o, s.heap.get? b = some o → h'.get? b = some o)) E) F.called_set.init.plain F.entry_set_init (check_set_init_1 ty ?_)) fun r2 s2 hr2 => ?_
      · obtain ⟨⟨oc, od, odt, osl⟩, hol, e1, nl, e2⟩ := hl
        simp only at e1 e2
        subst e1 e2
        have hol2 : (s.heap.push (noSet w)).get? l = some { cls := .type "list", dict := od, data := .seq its nl, slots := osl } := Heap.get?_push_of_some _ hol
        have n1 := F.sub_list_set; have n2 := F.sub_list_frozenset
        have n3 : (Value.type "list" == Value.type "dict") = false := by decide
        have hl1 : (s.heap.push (noSet w)).IsList l its := ⟨_, hol2, rfl, nl, rfl⟩
        unfold Builtin.«set.__init__» noKeywords Builtin.Frozenset.updateFrom
        generalize hPI : pyIter = PI
        wp_walk
        subst hPI
        refine wpAny_pyIter_list hl1 (wpAny_bind (wpAny_runValue ?_))
        have lt : l < s.heap.objs.size := Heap.lt_size hol
        have zz : (s.heap.push (noSet w)).objs.size = s.heap.objs.size + 1 := Heap.size_push ..
        have nI : l ≠ (s.heap.push (noSet w)).objs.size := by rw [zz]; exact Nat.ne_of_lt (Nat.lt_succ_of_lt lt)
        have nS : s.heap.objs.size ∉ [(s.heap.push (noSet w)).objs.size, l] := by rw [zz]; simp only [List.mem_cons, List.not_mem_nil, or_false, not_or]; exact ⟨Nat.ne_of_lt (Nat.lt_succ_self _), Nat.ne_of_gt lt⟩
        have hh3 : A.in1.in1.in1.handled = none := by simp [hh]
        refine set_update_ints ((Walks.list hh3 _ l nI its).toS) s.heap.objs.size nS ns zl hb (fun i v hv => ?vals) (its.size - 0) 0 _ (by omega) (Nat.zero_le _) ⟨⟨_, Heap.get?_push_size _ rfl, rfl, rfl⟩, (hl1.push _)⟩ ⟨0, Nat.le_refl 0, ?start⟩ ?stop
        case vals =>
          have hi2 : i < ns.length := by rw [← zl]; exact (Array.getElem?_eq_some_iff.mp hv).1
          obtain ⟨t, e⟩ := IntsAre.int_at hi i v (by rw [Array.getElem?_toList]; exact hv)
          exact ⟨ns[i], t, List.getElem?_eq_getElem hi2, by rw [e, List.getD_eq_getElem?_getD, List.getElem?_eq_getElem hi2]; rfl⟩
        case start => exact setR_new_at (Heap.get?_push_of_some _ g0)
        case stop =>
          intro s3 c3 hm hc3 hS3
          obtain ⟨h3, gg, dd, tt, oo⟩ := s3
          obtain rfl : gg = s.gens := hm.gens
          obtain rfl : dd = s.drawn := hm.drawn
          obtain rfl : oo = s.os := hm.os
          refine wpAny_pure (show wpAny _ _ (ret Value.none) _ _ _ from wpAny_pure ⟨rfl, h3, tt, c3, rfl, hS3, by rw [← zl]; exact hc3, fun b o e => ?_⟩)
          have lb := Heap.lt_size e
          exact hm.heap b o (by rw [zz]; simp only [List.mem_cons, List.not_mem_nil, or_false, not_or]; exact ⟨Nat.ne_of_lt lb, Nat.ne_of_lt (Nat.lt_succ_of_lt lb)⟩) (Heap.get?_push_of_some _ (Heap.get?_push_of_some _ e))
      · cases r2 with
        | error e => exact hr2
        | ok fl2 =>
          cases fl2 with
          | ret r =>
            obtain ⟨rfl, h', tk, c', rfl, hS', hc', hk'⟩ := hr2
            repeat (any_goals first | assumption | wp_step)
            exact fin _ _ _ hS' hc' hk'
          | _ => exact hr2.elim
    | _ => exact hr.elim
end
theorem ints_vals : ∀ {ns : List Int} {its : List Value}, Vals (ns.map V.int) its → IntsAre its ns
  | [], _, h => by cases h; exact .nil
  | n :: r, _, h => by cases h with | cons a t => obtain ⟨tk, rfl⟩ := a; exact .cons n tk (ints_vals t)
section
variable {X : Cx} {K : PySem.W.Frag} {o e a b : Expr} {f : Str} {pos p p2 q0 apos : Pos} {t ta tb : TE} {w wa wb : WE} {tA : TA} {wA : WA}
def rSetLs (K : PySem.W.Frag) (w : World) : List V → Hp → VK → Prop := fun xs H Q => ∃ (l : Addr) (ns : List Int), xs = [.ref l] ∧ SqL K H l (ns.map V.int) ∧ ns.length + 1 < scanBound ∧ ∀ p c, c ≤ ns.length → H p = none → Q (.ref p) (upd H p (SetO w p (fun j => decide (j ∈ ns)) c))
theorem call_setLs (hc : X.calm = true) : CallR X (.type "set") (rSetLs X.K X.w) := by
  intro pins s σ H xs us Q I r h
  obtain ⟨l, ns, rfl, hS, hb, q⟩ := h
  rw [Vals.ref1 r]
  obtain ⟨its, r2, pl, hz⟩ := I.list hS
  refine set_lstI ns (I.ok.hd hc) pl.isList (by simpa using ints_vals r2) hb fun h' tk c hR hl hk => ?_
  have hn : H s.heap.objs.size = none := I.hok.fresh (Nat.le_refl _)
  exact ⟨.ref _, _, I.laid (t' := tk) hk (Nat.le_refl _) (setO_new hR), rfl, q _ c hl hn⟩
def kSrtSet (q : List D → Prop) (d : D) : Prop := match d with | .lst ds => ∃ ns : List Int, ds = ns.map D.int ∧ ns.length < 63 ∧ ∀ ms : List Int, ms.Pairwise (· < ·) → (∀ k, k ∈ ms ↔ k ∈ ns) → q (ms.map D.int) | _ => False
theorem rl_intsE {G : Hp} : ∀ {ys : List Int} {vs : List V}, RL K G (ys.map D.int) vs → vs = ys.map V.int
  | [], vs, r => r.nilE
  | y :: ys, vs, r => by
    obtain ⟨v, us, rfl, r1, r2⟩ := r.consE
    rw [rl_intsE r2, show v = V.int y from r1]; rfl
theorem rl_intsI {G : Hp} : ∀ (ys : List Int), RL K G (ys.map D.int) (ys.map V.int)
  | [] => .nil
  | y :: ys => .cons R.int_ (rl_intsI ys)
theorem dn_srtSet (hc : X.calm = true) (hg : Gl X "sorted") (hm : X.mg "sorted" = none) (hg2 : Gl X "set") (hm2 : X.mg "set" = none) (ha : DE X e t w) (he : starEach [e] X.env = (false, eval e X.env) :: starEach [] X.env := by rfl) (hpl : (backTo q0 (starEach [] X.env)).any (·.1) = false := by rfl)
    (he2 : starEach [.Call (.Name "set" p2) [e] [] q0] X.env = (false, eval (.Call (.Name "set" p2) [e] [] q0) X.env) :: starEach [] X.env := by rfl) (hpl2 : (backTo pos (starEach [] X.env)).any (·.1) = false := by rfl) :
    DN X (.Call (.Name "sorted" p) [.Call (.Name "set" p2) [e] [] q0] [] pos) (tCB (rSortedSet X.w) (tCons (tCB (rSetLs X.K X.w) (tCons t tNil)) tNil)) (fun env q => w env (kSrtSet q)) :=
  ⟨pe_callB (cr_sortedSet hc) hg hm (by with_unfolding_all rfl) (pa_cons (pe_callTy (call_setLs hc) hg2 hm2 (by with_unfolding_all rfl) (pa_cons ha.pe pa_nil he) (by decide) (by decide) he hpl) pa_nil he2) (by decide) (by decide) he2 hpl2, fun c G H env σ Q q f hw k => ha.snd c G H env σ _ _ f hw fun v d G1 H1 f1 g1 r1 hq => by
    unfold kSrtSet at hq
    split at hq
    · obtain ⟨ns, rfl, hl, hq⟩ := hq
      obtain ⟨l, vs, rfl, h1, h2⟩ := r1.lstE
      have e := rl_intsE h2
      subst e
      refine ⟨l, ns, rfl, SqL.of (f1.gh _ _ h1), by unfold scanBound; omega, fun p c hcl hn => ?_⟩
      have g2 := f1.newH (o := SetO X.w p (fun j => decide (j ∈ ns)) c) hn
      have f2 := f1.step g2
      refine ⟨p, _, c, rfl, upd_same, by omega, fun ms m hs hmm hlen hn2 => ?_⟩
      have g3 := f2.newH (o := .lst (ms.map V.int)) hn2
      exact k m _ _ G1 _ (f2.step g3) ((g1.trans g2).trans g3) upd_same (rl_intsI ms) (f2.gnone hn2) (f2.h0none hn2) ((g1.trans g2).fresh hn2) (f2.noOwn hn2) (hq ms hs fun x => by rw [hmm]; exact decide_eq_true_iff)
    · exact hq.elim⟩
/-! ### a clean tuple again -/
def wTupleC : WC := fun ds q => match ds with | [.tupc xs] => q (.tupc xs) | _ => False
theorem sc_tupleC : SndC K (fun xs H Q => ∃ p ys, xs = [.ref p] ∧ ((SqL K H p ys ∧ ∀ l, H l = none → Q (.ref l) (upd H l (.tup ys))) ∨ (SqT K H p ys ∧ Q (.ref p) H))) wTupleC := fun c G H env σ xs ds Q q f hx hw k => by
  unfold wTupleC at hw
  split at hw
  · obtain ⟨v, rfl, h⟩ := hx.one
    obtain ⟨a, vs, rfl, h1, h2⟩ := R.tupcE h
    exact ⟨a, vs, rfl, .inr ⟨sqt_same f.gh h1.t, k _ _ G H f (Gr.refl f) (.tupc h1 h2) hw⟩⟩
  · exact hw.elim
/-! ### self.f, a value -/
def wOFd (K : PySem.W.Frag) (i : Nat) (f : Str) : WE := fun env q => match env[i]? with
  | some (.oi a C fs) => AtOk K C f ∧ (match fs.lookup f with | some (.d d) => q d | _ => False)
  | _ => False
theorem de_of (i : Nat) (ho : PE X o (tVar i)) (hK : X.K = K := by rfl) (hb : attributeBase o f X.env (eval o X.env) = eval o X.env := by rfl) : DE X (.Attribute o f pos) (tFld K (tVar i) f) (wOFd K i f) := by
  subst hK
  exact ⟨pe_fld ho hb, fun c G H env σ Q q fr hw k => by
    unfold wOFd at hw
    split at hw
    · rename_i a C fs he
      obtain ⟨ok, hw⟩ := hw
      obtain ⟨hs, dx, ws, h1, h2, h3, h4, nd⟩ := fr.getOi he
      refine ⟨.ref a, hs, ?_⟩
      split at hw
      · rename_i d hf
        obtain ⟨v, l, r⟩ := h2.get hf
        exact ⟨a, C, dx, ws, v, rfl, h1, ok.1, ok.2, l, k v d G H fr (Gr.refl fr) r hw⟩
      · exact hw.elim
    · exact hw.elim⟩
end
end Y

namespace S07
open PySem L2 Y
def top (i : Nat) : Stmt := PySem.Challenge.pw_streamsure_k07_whole_wrong_trees.main.body.getD i (.Pass ⟨0, 0, 0, 0⟩)
abbrev sBadQuery_init : Stmt := inClass (top 3) 0
abbrev sis_whole : Stmt := top 7
abbrev slow_of : Stmt := top 8
abbrev sis_interval : Stmt := top 9
abbrev snormal : Stmt := top 10
abbrev sunion : Stmt := top 11
abbrev sothers : Stmt := top 12
abbrev smeet : Stmt := top 13
abbrev shas : Stmt := top 14
abbrev ssome_member : Stmt := top 15
abbrev sis_name : Stmt := top 21
abbrev sKinds_init : Stmt := inClass (top 22) 0
abbrev sKinds_eq : Stmt := inClass (top 22) 1
abbrev sKinds_is_event : Stmt := inClass (top 22) 2
abbrev sKinds_place : Stmt := inClass (top 22) 3
abbrev sSide_init : Stmt := inClass (top 23) 0
abbrev sSide_told : Stmt := inClass (top 23) 1
abbrev sSide_is_empty : Stmt := inClass (top 23) 2
abbrev sSide_lets : Stmt := inClass (top 23) 3
abbrev sSide_places : Stmt := inClass (top 23) 4
abbrev sSide_set_at : Stmt := inClass (top 23) 5
abbrev sSide_keys_many : Stmt := inClass (top 23) 6
abbrev sSide_lets_key : Stmt := inClass (top 23) 7
abbrev scheck_keys : Stmt := top 24
abbrev scheck_number : Stmt := top 25
abbrev scheck_worths : Stmt := top 26
abbrev sEach_init : Stmt := inClass (top 27) 0
abbrev sEach_form : Stmt := inClass (top 27) 1
abbrev sEach_is_empty : Stmt := inClass (top 27) 2
abbrev sWindows_init : Stmt := inClass (top 28) 0
abbrev sWindows_form : Stmt := inClass (top 28) 1
abbrev sWindows_is_empty : Stmt := inClass (top 28) 2
abbrev sBlocks_init : Stmt := inClass (top 29) 0
abbrev sBlocks_form : Stmt := inClass (top 29) 1
abbrev sBlocks_is_empty : Stmt := inClass (top 29) 2
abbrev sSessions_init : Stmt := inClass (top 30) 0
abbrev sSessions_form : Stmt := inClass (top 30) 1
abbrev sSessions_is_empty : Stmt := inClass (top 30) 2
abbrev scheck_two : Stmt := top 31
abbrev sPairs_init : Stmt := inClass (top 32) 0
abbrev sPairs_form : Stmt := inClass (top 32) 1
abbrev sPairs_is_empty : Stmt := inClass (top 32) 2
abbrev sLonely_init : Stmt := inClass (top 33) 0
abbrev sLonely_form : Stmt := inClass (top 33) 1
abbrev sLonely_is_empty : Stmt := inClass (top 33) 2
abbrev sis_seen : Stmt := top 35
abbrev ssides_of : Stmt := top 37
abbrev srows_of : Stmt := top 38
abbrev scuts_of : Stmt := top 39
abbrev sinner_cuts : Stmt := top 40
abbrev srows_within : Stmt := top 41
abbrev swith_pair : Stmt := top 42
abbrev snode_for : Stmt := top 43
abbrev swhole_box : Stmt := top 44
abbrev stree_for : Stmt := top 45
abbrev swalked : Stmt := top 46
abbrev slot_of : Stmt := top 47
abbrev smembers_of : Stmt := top 48
abbrev swrong_at : Stmt := top 49
abbrev ssets_by : Stmt := top 50
abbrev swrong_lot : Stmt := top 51
abbrev swrong_node : Stmt := top 52
abbrev swrong_tree : Stmt := top 53
abbrev sL_number : Stmt := top 55
abbrev sL_take : Stmt := top 56
abbrev sL_pick : Stmt := top 57
abbrev sL_set : Stmt := top 58
abbrev sL_side : Stmt := top 59
abbrev sL_worths : Stmt := top 60
abbrev sL_query : Stmt := top 61
abbrev sL_kind : Stmt := top 62
abbrev sL_spoilt : Stmt := top 63
abbrev sL_is_brought : Stmt := top 64
abbrev slaw : Stmt := top 65
theorem same_new {H : Hp} {p : Addr} {o : HO} (h : H p = none) : Same H (upd H p o) := fun b u e => by rw [upd_ne (ne_of_none e h)]; exact e
structure DTxt (mg : Str → Option Value) : Prop where
  int : mg "int" = none
  len : mg "len" = none
  abs : mg "abs" = none
def spNumber (K : PySem.W.Frag) : Sp := fun vs H Q _ => ∃ (a : Addr) (ns : List Int) (i : Int), vs = [.ref a, .int i] ∧ SqL K H a (ns.map V.int) ∧ ∀ (v : Int) (H' : Hp), Same H H' → Q (.int v) H'
section
variable {P : Program} {w : World} {K : PySem.W.Frag} {mg : Str → Option Value} {base : Heap}
theorem dp_ints {K : PySem.W.Frag} {H : Hp} : ∀ ns : List Int, DpAll K H (ns.map V.int) (ns.map PyData.int)
  | [] => .nil
  | i :: r => .cons (.int i) (dp_ints r)
theorem scN : FnScope ["_law_script", "_law_index", "_law_cell", "_law_blend"] ["_law_script", "_law_index"] (defScope sL_number) := ⟨rfl, rfl, rfl, by decide +kernel, rfl, by decide +kernel, by decide +kernel⟩
theorem lay_ints : ∀ ns : List Int, PyData.canLayAll0 (ns.map PyData.int) = true
  | [] => rfl
  | i :: r => by
    show (PyData.canLay0 (.int i) && PyData.canLayAll0 (r.map PyData.int)) = true
    rw [lay_ints r]; rfl
theorem dep_ints : ∀ ns : List Int, PyData.depthAll (ns.map PyData.int) ≤ 1
  | [] => by decide
  | i :: r => by
    have h := dep_ints r
    show max (PyData.depth (.int i)) (PyData.depthAll (r.map PyData.int)) ≤ 1
    have e : PyData.depth (.int i) ≤ 1 := by first | (show 0 ≤ 1; decide) | (show 1 ≤ 1; decide)
    omega
theorem shp_ints (ns : List Int) : SeqAt.shaped (.list (ns.map PyData.int)) = true := by
  have h1 := lay_ints ns
  have h2 := dep_ints ns
  unfold SeqAt.shaped
  rw [Bool.and_eq_true]
  refine ⟨h1, decide_eq_true ?_⟩
  show PyData.depthAll (ns.map PyData.int) + 1 ≤ 64
  omega
theorem ok_number {f : Addr} {fd : FuncData} (F : Fun K "_law_number" "_law_number" sL_number f fd) (T : DTxt mg) : FnOk P w K mg base CX0 1 f fd ["_law_script", "_law_index"] (spNumber K) := by
  refine F.ok scN (fun vs H Q E h => ?_) (fun cdv A outer s H vs Q E hr h => ?_)
  · obtain ⟨a, ns, i, rfl, _⟩ := h
    rfl
  · obtain ⟨a, ns, i, rfl, hS, k⟩ := h
    refine ⟨_, pss_cons (ps_if (pt_cmpR (op_eqD hr.units) (pv 0) (pe_lst pa_nil) (nomark _)) (pss_one (ps_ret (pe_callTy call_int1 (by rfl) T.int (by decide +kernel) (pa_cons (pe_op op_mod (pe_op op_add (pe_op op_mul (pv 1) pe_int) pe_int) pe_int) pa_nil)))) pss_nil)
      (pss_cons (ps_set (i := 2) scN.nd rfl (Or.inl rfl) (pe_ix ix_list (pv 0) (pe_op op_mod (pv 1) (pe_callB call_len_seq (by rfl) T.len PySem.boot_len (pa_cons (pv 0) pa_nil))) (fun _ _ => rfl)))
      (pss_cons (ps_if (pt_cmpR op_ge (pe_callB call_abs (by rfl) T.abs (by decide +kernel) (pa_cons (pv 2) pa_nil)) (pe_op op_pow pe_int pe_int) (nomark _)) (pss_one (ps_set (i := 2) scN.nd rfl (Or.inl rfl) (pe_op op_mod (pv 2) (pe_op op_pow pe_int pe_int)))) pss_nil)
      (pss_cons (ps_set (i := 3) scN.nd rfl (Or.inl rfl) (pe_op op_mod (pe_op op_add (pe_op op_mul (pe_op op_add (pv 2) (pe_op op_mul pe_int (pv 1))) pe_int) (pe_op op_mul pe_int (pe_callB call_len_seq (by rfl) T.len PySem.boot_len (pa_cons (pv 0) pa_nil)))) pe_int))
      (pss_one (ps_ret (pe_callTy call_int1 (by rfl) T.int (by decide +kernel) (pa_cons (pe_op op_mod (pe_op op_add (pe_op op_mul (pe_op op_mod (pe_op op_mul (pv 3) pe_int) pe_int) pe_int) (pv 1)) pe_int) pa_nil))))))), ?_⟩
    refine ⟨_, rfl, Nat.zero_le _, fun p hp => ?_⟩
    have s1 : Same H (upd H p (.lst [])) := same_new hp
    refine ⟨.list (ns.map .int), .list [], .lst (s1.seq hS) (dp_ints ns), .lst (SqL.of upd_same) .nil, shp_ints ns, shp_ints [], _, rfl, ?_⟩
    cases ns with
    | nil =>
      refine iteT ?_
      refine ⟨_, rfl, _, _, rfl, rfl, .inr (by decide), _, _, rfl, rfl, _, _, rfl, rfl, (by show (0 : Int) < 2147483647; decide), .inl ⟨_, rfl, k _ _ s1⟩⟩
    | cons n0 r =>
      refine iteF ?_
      have hl : 0 < (((n0 :: r).map V.int).length : Int) := by simp only [List.map_cons, List.length_cons]; omega
      refine ⟨_, rfl, _, rfl, _, rfl, a, _, rfl, .inl (s1.seq hS), _, _, rfl, rfl, hl, ?_⟩
      have hm0 := Int.emod_nonneg i (Int.ne_of_gt hl)
      have hm1 := Int.emod_lt_of_pos i hl
      obtain ⟨j, hj⟩ : ∃ j : Nat, i % (((n0 :: r).map V.int).length : Int) = (j : Int) := ⟨_, (Int.toNat_of_nonneg hm0).symm⟩
      have hjl : j < (n0 :: r).length := by
        rw [hj, List.length_map] at hm1
        omega
      refine ⟨a, _, _, V.int ((n0 :: r)[j]), rfl, rfl, s1.seq hS, ?_, ?_⟩
      · rw [hj]
        refine atI_nat ?_
        rw [List.getElem?_map, List.getElem?_eq_getElem hjl]
        rfl
      · refine ⟨_, rfl, _, rfl, _, _, rfl, rfl, ⟨by decide, by decide, by decide⟩, _, _, rfl, rfl, _, rfl, ?_⟩
        refine ite2 (fun _ => ?_) (fun _ => ?_)
        · refine ⟨_, rfl, _, _, rfl, rfl, ⟨by decide, by decide, by decide⟩, _, _, rfl, rfl, (by show (0 : Int) < 10 ^ 18; decide), ?_⟩
          refine ⟨_, rfl, _, rfl, _, _, rfl, rfl, .inl (by decide), _, _, rfl, rfl, _, _, rfl, rfl, .inr (by decide), _, rfl, a, _, rfl, .inl (s1.seq hS), _, _, rfl, rfl, .inl (by decide), _, _, rfl, rfl, _, _, rfl, rfl, (by show (0 : Int) < 2147483647; decide), ?_⟩
          exact ⟨_, rfl, _, _, rfl, rfl, .inr (by decide), _, _, rfl, rfl, (by show (0 : Int) < 2147483629; decide), _, _, rfl, rfl, .inr (by decide), _, rfl, _, _, rfl, rfl, _, _, rfl, rfl, (by show (0 : Int) < 2147483587; decide), .inl ⟨_, rfl, k _ _ s1⟩⟩
        · refine ⟨_, rfl, _, rfl, _, _, rfl, rfl, .inl (by decide), _, _, rfl, rfl, _, _, rfl, rfl, .inr (by decide), _, rfl, a, _, rfl, .inl (s1.seq hS), _, _, rfl, rfl, .inl (by decide), _, _, rfl, rfl, _, _, rfl, rfl, (by show (0 : Int) < 2147483647; decide), ?_⟩
          exact ⟨_, rfl, _, _, rfl, rfl, .inr (by decide), _, _, rfl, rfl, (by show (0 : Int) < 2147483629; decide), _, _, rfl, rfl, .inr (by decide), _, rfl, _, _, rfl, rfl, _, _, rfl, rfl, (by show (0 : Int) < 2147483587; decide), .inl ⟨_, rfl, k _ _ s1⟩⟩

theorem get_list {X : Cx} : PGet X (rIxL X.K) := by
  intro pins s σ H x y v u Q I rx ry h
  obtain ⟨p, xs, i, z, rfl, rfl, hq, he, q⟩ := h
  cases rx
  obtain ⟨t, rfl⟩ := ry
  obtain ⟨its, r, pl, hz⟩ := I.list hq
  obtain ⟨j, h1, h2, h3, h4, h5⟩ := atI_get he
  obtain ⟨w, ew, rw'⟩ := r.get h2
  have hl := r.length
  have hn := line63
  have fin : EP X pins σ Q w s := ⟨z, H, I, rw', q⟩
  by_cases h0 : 0 ≤ i
  · have hj : i.toNat = j := by
      rw [seqIndex_of h0 h5] at h1
      exact Option.some.inj h1
    exact wpAny_getItem_list pl.isList h0 (by omega) (by rw [hj]; simpa using ew) fin
  · have hj : (i + (its.toArray.size : Int)).toNat = j := by
      rw [seqIndex_neg (by omega) h4] at h1
      rw [List.size_toArray, ← hl]
      exact Option.some.inj h1
    exact wpAny_getItem_list_neg pl.isList (by omega) (by rw [List.size_toArray] <;> omega) (by omega) (by rw [hj]; simpa using ew) fin
theorem scT : FnScope ["_law_draw", "_law_many"] ["_law_draw", "_law_many"] (defScope sL_take) := ⟨rfl, rfl, rfl, by decide +kernel, rfl, by decide +kernel, by decide +kernel⟩
theorem dr_take (h0 : Here K mg "_law_take" ["_law_draw", "_law_many"] sL_take) (hN : Here K mg "_law_number" ["_law_script", "_law_index"] sL_number) (T : DTxt mg) : Dr P w K mg base 2 "_law_take" ["_law_draw", "_law_many"] wTake := by
  obtain ⟨f, fd, F, hmT, hbT⟩ := h0.ex
  obtain ⟨fN, fdN, FN, mN, bN⟩ := hN.ex
  have GN : FnOk P w K mg base CX0 1 fN fdN ["_law_script", "_law_index"] (spNumber K) := ok_number FN T
  refine ⟨f, fd, F.ok scT (fun vs H Q E h => ?_) (fun cdv A outer s H vs Q E hr h => ?_), hmT, F.kp, hbT⟩
  · obtain ⟨G, a, us, ds, q, rfl, _, _, r, ⟨m, rfl, _⟩, _⟩ := h
    rw [List.length_cons, r.length]; rfl
  · obtain ⟨G, d, us, ds, q, rfl, sg, ⟨gn, a, n, ns, hd, hSG⟩, r, ⟨m, rfl, hm, hq⟩, fin⟩ := h
    obtain ⟨v0, us', rfl, rv, r2⟩ := r.consE
    cases r2.nilE
    cases (show v0 = V.int m from rv)
    have sG1 : ∀ o, Same G (upd H d o) := fun o b u e => by
      have nb : b ≠ d := fun z => by rw [z, gn] at e; cases e
      rw [upd_ne nb]; exact sg b u e
    refine ⟨_, pss_cons (ps_augS (pv 0) pe_int get_list pe_int ip_add set_list)
      (pss_one (ps_ret (pe_op op_mod (pe_callTy call_int1 (by rfl) T.int (by decide +kernel) (pa_cons (pe_call GN hr rfl mN FN.kp bN .nil pass0 (pa_cons (pe_ix ix_list (pv 0) pe_int (fun _ _ => rfl)) (pa_cons (pe_callTy call_int1 (by rfl) T.int (by decide +kernel) (pa_cons (pe_ix ix_list (pv 0) pe_int (fun _ _ => rfl)) pa_nil)) pa_nil))) pa_nil)) (pv 1)))), ?_⟩
    have hd1 : (upd H d (.lst [.ref a, .int (n + 1)])) d = some (.lst [.ref a, .int (n + 1)]) := upd_same
    have hS1 := (sG1 (.lst [.ref a, .int (n + 1)])).seq hSG
    refine ⟨_, rfl, d, _, 1, .int n, rfl, rfl, SqL.of hd, rfl, n, 1, rfl, rfl, d, _, 1, 1, rfl, rfl, hd, rfl, ?_⟩
    refine ⟨_, rfl, d, _, 0, .ref a, rfl, rfl, SqL.of hd1, rfl, ?_⟩
    refine ⟨_, rfl, d, _, 1, .int (n + 1), rfl, rfl, SqL.of hd1, rfl, .inl ⟨_, rfl, a, ns, _, rfl, hS1, fun v H' s' => ?_⟩⟩
    refine .inl ⟨v, rfl, _, rfl, v, m, rfl, rfl, hm, ?_⟩
    exact fin _ (.int (v % m)) G H' (fun b o hb nb => s' b o (by rw [upd_ne nb]; exact hb)) (Same.refl G) ((sG1 _).trans s') (fun _ _ _ n => n) ⟨gn, a, n + 1, ns, s' _ _ hd1, hSG⟩ R.int_ (hq _ (Int.emod_nonneg v (Int.ne_of_gt hm)) (Int.emod_lt_of_pos v hm))
end
end S07

namespace S07
open Y
/-! the plain law of sets -/
abbrev P2 := Option Int × Option Int
def loB (lo : Option Int) (n : Int) : Bool := match lo with | none => true | some l => decide (l ≤ n)
def hiB (hi : Option Int) (n : Int) : Bool := match hi with | none => true | some h => decide (n ≤ h)
def inB (p : P2) (n : Int) : Bool := loB p.1 n && hiB p.2 n
def mem (n : Int) (l : List P2) : Bool := l.any fun p => inB p n
def okP (p : P2) : Prop := ∀ l h, p.1 = some l → p.2 = some h → l ≤ h
def gap (p q : P2) : Prop := ∃ h l, p.2 = some h ∧ q.1 = some l ∧ h + 1 < l
def Norm : List P2 → Prop
  | [] => True
  | [p] => okP p
  | p :: q :: r => okP p ∧ gap p q ∧ Norm (q :: r)
theorem mem_nil (n : Int) : mem n [] = false := rfl
theorem mem_cons (n : Int) (p : P2) (r : List P2) : mem n (p :: r) = (inB p n || mem n r) := rfl
theorem mem_app (n : Int) (a b : List P2) : mem n (a ++ b) = (mem n a || mem n b) := List.any_append
theorem mem_one (n : Int) (p : P2) : mem n [p] = inB p n := by rw [mem_cons, mem_nil, Bool.or_false]
theorem Norm.ok {p : P2} {r : List P2} (h : Norm (p :: r)) : okP p := by
  cases r with
  | nil => exact h
  | cons q r => exact h.1
theorem Norm.tail {p : P2} {r : List P2} (h : Norm (p :: r)) : Norm r := by
  cases r with
  | nil => trivial
  | cons q r => exact h.2.2
theorem Norm.last {p : P2} {r : List P2} (h : Norm (p :: r)) (e : p.2 = none) : r = [] := by
  cases r with
  | nil => rfl
  | cons q r => obtain ⟨x, l, e1, _⟩ := h.2.1; rw [e] at e1; cases e1
theorem inB_lo {p : P2} {n l : Int} (h : inB p n = true) (e : p.1 = some l) : l ≤ n := by
  unfold inB loB at h; rw [e] at h
  rw [Bool.and_eq_true] at h
  exact of_decide_eq_true h.1
theorem inB_hi {p : P2} {n l : Int} (h : inB p n = true) (e : p.2 = some l) : n ≤ l := by
  unfold inB hiB at h; rw [e] at h
  rw [Bool.and_eq_true] at h
  exact of_decide_eq_true h.2
theorem inB_mk {p : P2} {n : Int} (h1 : ∀ l, p.1 = some l → l ≤ n) (h2 : ∀ l, p.2 = some l → n ≤ l) : inB p n = true := by
  obtain ⟨lo, hi⟩ := p
  unfold inB loB hiB
  cases lo <;> cases hi <;> simp <;> first | exact h1 _ rfl | exact h2 _ rfl | exact ⟨h1 _ rfl, h2 _ rfl⟩
theorem Norm.above : ∀ {r : List P2} {p : P2} {h n : Int}, Norm (p :: r) → p.2 = some h → mem n r = true → h + 1 < n
  | [], _, _, _, _, _, m => by cases m
  | q :: r, p, h, n, N, e, m => by
    obtain ⟨x, l, e1, e2, g⟩ := N.2.1
    rw [e] at e1; cases e1
    rw [mem_cons, Bool.or_eq_true] at m
    rcases m with m | m
    · have := inB_lo m e2; omega
    · cases hq : q.2 with
      | none => have := N.2.2.last hq; rw [this] at m; cases m
      | some h' =>
        have h1 := Norm.above N.2.2 hq m
        have h2 := N.2.2.ok l h' e2 hq
        omega
theorem Norm.low {r : List P2} {p : P2} {l n : Int} (N : Norm (p :: r)) (e : p.1 = some l) (m : mem n (p :: r) = true) : l ≤ n := by
  rw [mem_cons, Bool.or_eq_true] at m
  rcases m with m | m
  · exact inB_lo m e
  · cases hq : p.2 with
    | none => have := N.last hq; rw [this] at m; cases m
    | some h =>
      have h1 := N.above hq m
      have h2 := N.ok l h e hq
      omega
theorem mem_head {p : P2} {r : List P2} {n : Int} (h : inB p n = true) : mem n (p :: r) = true := by rw [mem_cons, h]; rfl
theorem Norm.low_mem {r : List P2} {p : P2} {l : Int} (N : Norm (p :: r)) (e : p.1 = some l) : mem l (p :: r) = true :=
  mem_head (inB_mk (fun l' e' => by rw [e] at e'; cases e'; exact Int.le_refl _) fun h eh => N.ok l h e eh)
theorem Norm.some_mem {r : List P2} {p : P2} (N : Norm (p :: r)) (m : Int) (e : p.1 = none) : ∃ n, n ≤ m ∧ mem n (p :: r) = true := by
  cases h : p.2 with
  | none => exact ⟨m, Int.le_refl _, mem_head (inB_mk (fun l e' => by rw [e] at e'; cases e') fun l e' => by rw [h] at e'; cases e')⟩
  | some x => exact ⟨min m x, by omega, mem_head (inB_mk (fun l e' => by rw [e] at e'; cases e') fun l e' => by rw [h] at e'; cases e'; omega)⟩
theorem Norm.wit {r : List P2} {p : P2} (N : Norm (p :: r)) : ∃ n, mem n (p :: r) = true := by
  cases h : p.1 with
  | none => obtain ⟨n, _, m⟩ := N.some_mem 0 h; exact ⟨n, m⟩
  | some l => exact ⟨l, N.low_mem h⟩
theorem Norm.next {r : List P2} {p : P2} {h : Int} (N : Norm (p :: r)) (e : p.2 = some h) : mem (h + 1) (p :: r) = false := by
  rw [mem_cons, Bool.or_eq_false_iff]
  refine ⟨Bool.eq_false_iff.mpr fun z => ?_, Bool.eq_false_iff.mpr fun z => ?_⟩
  · have := inB_hi z e; omega
  · have := N.above e z; omega
theorem lo_eq {p q : P2} {r s : List P2} (A : Norm (p :: r)) (B : Norm (q :: s)) (h : ∀ n, mem n (p :: r) = true → mem n (q :: s) = true) : ∀ l, q.1 = some l → ∃ l', p.1 = some l' ∧ l ≤ l' := by
  intro l e
  cases hp : p.1 with
  | none =>
    obtain ⟨n, hn, m⟩ := A.some_mem (l - 1) hp
    have := B.low e (h n m)
    omega
  | some l' => exact ⟨l', rfl, B.low e (h l' (A.low_mem hp))⟩
theorem hi_eq {p q : P2} {r s : List P2} (A : Norm (p :: r)) (B : Norm (q :: s)) (e0 : p.1 = q.1) (h : ∀ n, mem n (p :: r) = true → mem n (q :: s) = true) : ∀ x, q.2 = some x → ∃ y, p.2 = some y ∧ y ≤ x := by
  intro x e
  have go : (∀ y, p.2 = some y → x + 1 ≤ y) → False := fun z => by
    have m := h (x + 1) (mem_head (inB_mk (fun l el => by have := B.ok l x (e0 ▸ el) e; omega) z))
    rw [B.next e] at m; cases m
  cases hp : p.2 with
  | none => exact (go fun y ey => by rw [hp] at ey; cases ey).elim
  | some y =>
    refine ⟨y, rfl, ?_⟩
    by_cases hc : y ≤ x
    · exact hc
    · exact (go fun y' ey => by rw [hp] at ey; cases ey; omega).elim
theorem norm_uniq : ∀ (a b : List P2), Norm a → Norm b → (∀ n, mem n a = mem n b) → a = b
  | [], [], _, _, _ => rfl
  | [], q :: s, _, B, h => by obtain ⟨n, m⟩ := B.wit; rw [← h n] at m; cases m
  | p :: r, [], A, _, h => by obtain ⟨n, m⟩ := A.wit; rw [h n] at m; cases m
  | p :: r, q :: s, A, B, h => by
    have h1 : ∀ n, mem n (p :: r) = true → mem n (q :: s) = true := fun n m => h n ▸ m
    have h2 : ∀ n, mem n (q :: s) = true → mem n (p :: r) = true := fun n m => (h n).symm ▸ m
    have e1 : p.1 = q.1 := by
      have a1 := lo_eq A B h1
      have a2 := lo_eq B A h2
      cases hq : q.1 with
      | none =>
        cases hp : p.1 with
        | none => rfl
        | some l => obtain ⟨l', e, _⟩ := a2 l hp; rw [hq] at e; cases e
      | some l =>
        obtain ⟨l', e, g⟩ := a1 l hq
        obtain ⟨l2, e2, g2⟩ := a2 l' e
        rw [hq] at e2; cases e2
        rw [e]; congr 1; omega
    have e2 : p.2 = q.2 := by
      have a1 := hi_eq A B e1 h1
      have a2 := hi_eq B A e1.symm h2
      cases hq : q.2 with
      | none =>
        cases hp : p.2 with
        | none => rfl
        | some l => obtain ⟨l', e, _⟩ := a2 l hp; rw [hq] at e; cases e
      | some l =>
        obtain ⟨l', e, g⟩ := a1 l hq
        obtain ⟨l2, e2, g2⟩ := a2 l' e
        rw [hq] at e2; cases e2
        rw [e]; congr 1; omega
    have ep : p = q := Prod.ext e1 e2
    subst ep
    cases hp : p.2 with
    | none => rw [A.last hp, B.last hp]
    | some x =>
      congr 1
      refine norm_uniq r s A.tail B.tail fun n => ?_
      have hn := h n
      rw [mem_cons, mem_cons] at hn
      cases hr : mem n r with
      | true =>
        have g := A.above hp hr
        have hf : inB p n = false := Bool.eq_false_iff.mpr fun z => by have := inB_hi z hp; omega
        rw [hf, hr] at hn
        simpa using hn
      | false =>
        cases hs : mem n s with
        | false => rfl
        | true =>
          have g := B.above hp hs
          have hf : inB p n = false := Bool.eq_false_iff.mpr fun z => by have := inB_hi z hp; omega
          rw [hf, hr, hs] at hn
          simp at hn
/-! ### normal's loop -/
theorem norm_set : ∀ (a : List P2) {q q' : P2}, Norm (a ++ [q]) → okP q' → q'.1 = q.1 → Norm (a ++ [q'])
  | [], _, _, _, o, _ => o
  | [p], q, q', N, o, e => ⟨N.1, (by obtain ⟨h, l, e1, e2, g⟩ := N.2.1; exact ⟨h, l, e1, e.trans e2, g⟩), o⟩
  | p :: p2 :: a, q, q', N, o, e => ⟨N.1, N.2.1, norm_set (p2 :: a) N.2.2 o e⟩
theorem norm_snoc : ∀ (a : List P2) {q x : P2}, Norm (a ++ [q]) → gap q x → okP x → Norm ((a ++ [q]) ++ [x])
  | [], _, _, N, g, o => ⟨N, g, o⟩
  | [p], q, x, N, g, o => ⟨N.1, N.2.1, N.2.2, g, o⟩
  | p :: p2 :: a, q, x, N, g, o => ⟨N.1, N.2.1, norm_snoc (p2 :: a) N.2.2 g o⟩
theorem norm_last : ∀ (a : List P2) {q : P2}, Norm (a ++ [q]) → okP q
  | [], _, N => N
  | [p], q, N => N.2.2
  | p :: p2 :: a, q, N => norm_last (p2 :: a) N.2.2
structure InvN (pre post acc : List P2) : Prop where
  n : Norm acc
  m : ∀ n, mem n acc = mem n pre
  le : ∀ a q, acc = a ++ [q] → ∀ x ∈ post, kLe q.1 x.1
  len : acc.length ≤ pre.length
theorem InvN.start (xs : List P2) : InvN [] xs [] := ⟨trivial, fun _ => rfl, fun a q e => by simp at e, Nat.le_refl _⟩
theorem InvN.skip {pre post acc : List P2} {x : P2} {l h : Int} (I : InvN pre (x :: post) acc) (e1 : x.1 = some l) (e2 : x.2 = some h) (hn : ¬ l ≤ h) : InvN (pre ++ [x]) post acc := by
  refine ⟨I.n, fun n => ?_, fun a q e y hy => I.le a q e y (List.mem_cons_of_mem _ hy), by have := I.len; rw [List.length_append]; omega⟩
  rw [mem_app, mem_one, I.m]
  have : inB x n = false := Bool.eq_false_iff.mpr fun z => by have := inB_lo z e1; have := inB_hi z e2; omega
  rw [this, Bool.or_false]
def mrg (q x : P2) : P2 := (q.1, match q.2, x.2 with | some a, some b => some (max a b) | _, _ => none)
theorem InvN.merge {pre post a : List P2} {q x : P2} (I : InvN pre (x :: post) (a ++ [q])) (ox : okP x) (hm : q.2 = none ∨ x.1 = none ∨ ∃ h l, q.2 = some h ∧ x.1 = some l ∧ l ≤ h + 1) : InvN (pre ++ [x]) post (a ++ [mrg q x]) := by
  have oq := norm_last a I.n
  have hle := I.le a q rfl x List.mem_cons_self
  have ok : okP (mrg q x) := by
    intro l h e1 e2
    obtain ⟨ql, qh⟩ := q
    obtain ⟨xl, xh⟩ := x
    cases qh <;> cases xh <;> simp only [mrg] at e1 e2 <;> try cases e2
    have := oq _ _ e1 rfl
    omega
  refine ⟨norm_set a I.n ok rfl, fun n => ?_, fun a' q' e y hy => ?_, by have := I.len; simp only [List.length_append, List.length_cons, List.length_nil] at this ⊢; omega⟩
  · have hq := I.m n
    rw [mem_app, mem_one] at hq
    rw [mem_app, mem_app, mem_one, mem_one, ← hq, Bool.or_assoc]
    congr 1
    obtain ⟨ql, qh⟩ := q
    obtain ⟨xl, xh⟩ := x
    rw [Bool.eq_iff_iff, Bool.or_eq_true]
    unfold kLe kA kB at hle
    unfold okP at oq ox
    cases ql <;> cases qh <;> cases xl <;> cases xh <;> simp [mrg, inB, loB, hiB] at hm hle oq ox ⊢ <;> omega
  · have e' : a' = a ∧ q' = mrg q x := by
      have := List.append_inj' e rfl
      exact ⟨this.1.symm, by simpa using this.2.symm⟩
    rw [e'.2]
    exact I.le a q rfl y (List.mem_cons_of_mem _ hy)
theorem InvN.push {pre post acc : List P2} {x : P2} (I : InvN pre (x :: post) acc) (ox : okP x) (hs : ∀ y ∈ post, kLe x.1 y.1) (hg : acc = [] ∨ ∃ a q, acc = a ++ [q] ∧ gap q x) : InvN (pre ++ [x]) post (acc ++ [x]) := by
  refine ⟨?_, fun n => ?_, fun a' q' e y hy => ?_, by have := I.len; simp only [List.length_append, List.length_cons, List.length_nil] at this ⊢; omega⟩
  · rcases hg with rfl | ⟨a, q, rfl, g⟩
    · exact ox
    · exact norm_snoc a I.n g ox
  · rw [mem_app, mem_app, I.m]
  · have := List.append_inj' e rfl
    have e2 : x = q' := by simpa using this.2
    rw [← e2]
    exact hs y hy
/-! ### others' loop -/
structure InvO (pre post found : List P2) (low : Option Int) (op : Bool) : Prop where
  n : Norm post
  o : op = true → (∀ n, (mem n found = true ∨ loB low n = true) ↔ mem n pre = false) ∧ (∀ n l, low = some l → mem n found = true → n < l) ∧ (low = none → pre = [] ∧ found = []) ∧ (∀ x r l, post = x :: r → low = some l → ∃ s, x.1 = some s ∧ l ≤ s)
  c : op = false → post = [] ∧ ∀ n, mem n found = true ↔ mem n pre = false
  len : found.length ≤ pre.length
theorem InvO.start {xs : List P2} (N : Norm xs) : InvO [] xs [] none true := ⟨N, fun _ => ⟨fun n => by simp [mem_nil, loB], fun n l e => (by cases e), fun _ => ⟨rfl, rfl⟩, fun x r l _ e => (by cases e)⟩, fun h => (by cases h), Nat.le_refl _⟩
def oStep (found : List P2) (low : Option Int) (x : P2) : List P2 := match x.1 with | none => found | some s => found ++ [(low, some (s - 1))]
theorem InvO.op {pre post found : List P2} {low : Option Int} {op : Bool} {x : P2} (I : InvO pre (x :: post) found low op) : op = true := by
  cases op with
  | true => rfl
  | false => cases (I.c rfl).1
theorem InvO.step {pre post found : List P2} {low : Option Int} {x : P2} (I : InvO pre (x :: post) found low true) : InvO (pre ++ [x]) post (oStep found low x) (x.2.map (· + 1)) x.2.isSome := by
  obtain ⟨h1, h2, h3, h4⟩ := I.o rfl
  have ox := I.n.ok
  have hl : (oStep found low x).length ≤ (pre ++ [x]).length := by
    have := I.len
    unfold oStep
    split <;> simp only [List.length_append, List.length_cons, List.length_nil] <;> omega
  have key : ∀ n, mem n (oStep found low x) = true ↔ (mem n found = true ∨ ∃ s, x.1 = some s ∧ loB low n = true ∧ n < s) := by
    intro n
    unfold oStep
    split
    · rename_i e; simp [e]
    · rename_i s e
      rw [mem_app, mem_one, Bool.or_eq_true]
      refine or_congr Iff.rfl ?_
      unfold inB hiB
      rw [Bool.and_eq_true]
      constructor
      · rintro ⟨a, b⟩; exact ⟨s, e, a, by have := of_decide_eq_true b; omega⟩
      · rintro ⟨s', e', a, b⟩; rw [e] at e'; cases e'; exact ⟨a, decide_eq_true (by omega)⟩
  have hpre : ∀ n, mem n (pre ++ [x]) = false ↔ (mem n pre = false ∧ inB x n = false) := fun n => by rw [mem_app, mem_one, Bool.or_eq_false_iff]
  have hin : ∀ n, inB x n = false ↔ ¬ ((∀ s, x.1 = some s → s ≤ n) ∧ (∀ e, x.2 = some e → n ≤ e)) := fun n => by
    rw [Bool.eq_false_iff]
    exact not_congr ⟨fun z => ⟨fun s e => inB_lo z e, fun s e => inB_hi z e⟩, fun z => inB_mk z.1 z.2⟩
  have hst : ∀ n, mem n found = true → ∀ s, x.1 = some s → n < s := fun n m s e => by
    cases hlow : low with
    | none => rw [(h3 hlow).2] at m; cases m
    | some l =>
      obtain ⟨s', e', g⟩ := h4 x post l rfl hlow
      rw [e] at e'; cases e'
      have := h2 n l hlow m
      omega
  have hnn : ∀ n, mem n found = true → x.1 = none → False := fun n m e => by
    cases hlow : low with
    | none => rw [(h3 hlow).2] at m; cases m
    | some l => obtain ⟨s', e', g⟩ := h4 x post l rfl hlow; rw [e] at e'; cases e'
  have hlo : ∀ n s, x.1 = some s → s ≤ n → loB low n = true := fun n s e g => by
    cases hlow : low with
    | none => rfl
    | some l =>
      obtain ⟨s', e', g'⟩ := h4 x post l rfl hlow
      rw [e] at e'; cases e'
      exact decide_eq_true (by omega)
  have hlo2 : ∀ n, x.1 = none → loB low n = true := fun n e => by
    cases hlow : low with
    | none => rfl
    | some l => obtain ⟨s', e', g'⟩ := h4 x post l rfl hlow; rw [e] at e'; cases e'
  cases hx2 : x.2 with
  | some e =>
    refine ⟨I.n.tail, fun _ => ⟨fun n => ?_, fun n l el m => ?_, fun z => (by cases z), fun y r l er el => ?_⟩, fun z => (by cases z), hl⟩
    · rw [hpre, hin, key]
      show _ ∨ loB (some (e + 1)) n = true ↔ _
      have hle : loB (some (e + 1)) n = true ↔ e + 1 ≤ n := decide_eq_true_iff
      rw [hle, ← h1]
      cases hx1 : x.1 with
      | none =>
        constructor
        · rintro ((m | ⟨s, es, _⟩) | g)
          · exact (hnn n m hx1).elim
          · cases es
          · exact ⟨.inr (hlo2 n hx1), fun z => by have := z.2 e hx2; omega⟩
        · rintro ⟨_, z⟩
          refine .inr ?_
          rcases (by omega : e < n ∨ n ≤ e) with g | g
          · omega
          · exact (z ⟨fun s es => (by cases es), fun e' ee => by rw [hx2] at ee; cases ee; exact g⟩).elim
      | some s =>
        have hse := ox s e hx1 hx2
        constructor
        · rintro ((m | ⟨s', es, a, b⟩) | g)
          · exact ⟨.inl m, fun z => by have := hst n m s hx1; have := z.1 s rfl; omega⟩
          · cases es; exact ⟨.inr a, fun z => by have := z.1 s rfl; omega⟩
          · exact ⟨.inr (hlo n s hx1 (by omega)), fun z => by have := z.2 e hx2; omega⟩
        · rintro ⟨m | a, z⟩
          · exact .inl (.inl m)
          · rcases (by omega : n < s ∨ s ≤ n) with g | g
            · exact .inl (.inr ⟨s, rfl, a, g⟩)
            · refine .inr ?_
              rcases (by omega : e < n ∨ n ≤ e) with g' | g'
              · omega
              · exact (z ⟨fun s' es => (by cases es; exact g), fun e' ee => by rw [hx2] at ee; cases ee; exact g'⟩).elim
    · have el : e + 1 = l := Option.some.inj el
      subst el
      rcases (key n).mp m with m | ⟨s, es, a, b⟩
      · cases hx1 : x.1 with
        | none => exact (hnn n m hx1).elim
        | some s => have := hst n m s hx1; have := ox s e hx1 hx2; omega
      · have := ox s e es hx2; omega
    · have el : e + 1 = l := Option.some.inj el
      subst el
      subst er
      obtain ⟨h, l, e1, e2, g⟩ := I.n.2.1
      rw [hx2] at e1; cases e1
      exact ⟨l, e2, by omega⟩
  | none =>
    have hp := I.n.last hx2
    refine ⟨I.n.tail, fun z => (by cases z), fun _ => ⟨hp, fun n => ?_⟩, hl⟩
    rw [hpre, hin, key, ← h1]
    cases hx1 : x.1 with
    | none =>
      constructor
      · rintro (m | ⟨s, es, _⟩)
        · exact (hnn n m hx1).elim
        · cases es
      · rintro ⟨_, z⟩
        exact (z ⟨fun s es => (by cases es), fun e' ee => by rw [hx2] at ee; cases ee⟩).elim
    | some s =>
      constructor
      · rintro (m | ⟨s', es, a, b⟩)
        · exact ⟨.inl m, fun z => by have := hst n m s hx1; have := z.1 s rfl; omega⟩
        · cases es; exact ⟨.inr a, fun z => by have := z.1 s rfl; omega⟩
      · rintro ⟨m | a, z⟩
        · exact .inl m
        · rcases (by omega : n < s ∨ s ≤ n) with g | g
          · exact .inr ⟨s, rfl, a, g⟩
          · exact (z ⟨fun s' es => (by cases es; exact g), fun e' ee => by rw [hx2] at ee; cases ee⟩).elim
theorem InvO.done_open {pre found : List P2} {low : Option Int} (I : InvO pre [] found low true) (n : Int) : mem n (found ++ [(low, none)]) = !mem n pre := by
  obtain ⟨h1, _⟩ := I.o rfl
  rw [mem_app, mem_one, Bool.eq_iff_iff, Bool.or_eq_true, Bool.not_eq_true']
  rw [← h1]
  simp [inB, hiB]
theorem InvO.done_shut {pre found : List P2} {low : Option Int} (I : InvO pre [] found low false) (n : Int) : mem n found = !mem n pre := by
  obtain ⟨_, h⟩ := I.c rfl
  rw [Bool.eq_iff_iff, Bool.not_eq_true']
  exact h n
end S07

namespace S07
open PySem L2 Y
abbrev pD (p : P2) : D := .tup [oD p.1, oD p.2]
theorem ixn_snoc (n : Nat) : ixN (n + 1) (-1) = some n := by
  unfold ixN
  simp
  first | omega | (constructor <;> omega) | skip
theorem ixn_last {a : List P2} {q : P2} : ixN (List.map pD (a ++ [q])).length (-1) = some a.length := by rw [List.length_map, List.length_append]; exact ixn_snoc _
theorem at_last {a : List P2} {q : P2} : atI (List.map pD (a ++ [q])) (-1) = some (pD q) := by
  unfold atI
  rw [ixn_last, List.map_append]
  show (List.map pD a ++ [pD q])[a.length]? = _
  rw [List.getElem?_append_right (by rw [List.length_map]; exact Nat.le_refl _), List.length_map, Nat.sub_self]; rfl
theorem set_last {a : List P2} {q x : P2} : (List.map pD (a ++ [q])).set a.length (pD x) = List.map pD (a ++ [x]) := by
  rw [List.map_append, List.map_append, List.set_append_right _ _ (by rw [List.length_map]; exact Nat.le_refl _), List.length_map, Nat.sub_self]; rfl
def unO (d : D) : Option Int := match d with | .int i => some i | _ => none
def unP (d : D) : P2 := match d with | .tup [a, b] => (unO a, unO b) | _ => (none, none)
theorem unO_oD (o : Option Int) : unO (oD o) = o := by cases o <;> rfl
theorem unP_pD (p : P2) : unP (pD p) = p := by show (unO (oD p.1), unO (oD p.2)) = p; rw [unO_oD, unO_oD]
theorem perm_back {l : List P2} {ds : List D} (h : ds.Perm (l.map pD)) : ∃ l' : List P2, ds = l'.map pD ∧ l'.Perm l := by
  refine ⟨ds.map unP, ?_, ?_⟩
  · rw [List.map_map]
    refine (List.map_id ds).symm.trans (List.map_congr_left fun d hd => ?_)
    obtain ⟨p, _, rfl⟩ := List.mem_map.mp (h.mem_iff.mp hd)
    show pD p = pD (unP (pD p))
    rw [unP_pD]
  · have := h.map unP
    rw [List.map_map] at this
    refine this.trans (List.Perm.of_eq ?_)
    refine (List.map_congr_left fun p _ => ?_).trans (List.map_id l)
    exact unP_pD p
theorem fst_pD (p : P2) : fst? (pD p) = p.1 := by obtain ⟨lo, hi⟩ := p; cases lo <;> rfl
theorem isPr_pD (p : P2) : isPr (pD p) := ⟨_, _, rfl, by obtain ⟨lo, hi⟩ := p; cases lo; exact .inl rfl; exact .inr ⟨_, rfl⟩⟩
theorem split_at {pre post : List P2} {d : D} (h : (List.map pD (pre ++ post))[pre.length]? = some d) : ∃ x r, post = x :: r ∧ d = pD x := by
  rw [List.map_append, List.getElem?_append_right (by rw [List.length_map]; exact Nat.le_refl _), List.length_map, Nat.sub_self] at h
  cases post with
  | nil => cases h
  | cons x r => cases h; exact ⟨x, r, rfl, rfl⟩
theorem puO (o : Option Int) (n : Nat) : Pu n (oD o) := by cases o <;> (show Pu n _; unfold Pu; trivial)
theorem puP (p : P2) (n : Nat) : Pu (n + 1) (pD p) := by show Pu (n + 1) (.tup [oD p.1, oD p.2]); unfold Pu; unfold PuL; exact ⟨puO _ _, by unfold PuL; exact ⟨puO _ _, by unfold PuL; trivial⟩⟩
theorem puL (l : List P2) : Pu 32 (.lst (l.map pD)) := by unfold Pu; exact PuL.map fun p _ => puP p 30
theorem puT (l : List P2) : Pu 32 (.tup (l.map pD)) := by unfold Pu; exact PuL.map fun p _ => puP p 30
theorem pu_nl : Pu 32 (.lst []) := puL []
theorem pu_nt : Pu 32 (.tup []) := puT []
theorem pD_inj {a b : List P2} (h : a.map pD = b.map pD) : a = b := by
  have := congrArg (List.map unP) h
  rw [List.map_map, List.map_map] at this
  have e : ∀ l : List P2, l.map (unP ∘ pD) = l := fun l => (List.map_congr_left fun p _ => unP_pD p).trans (List.map_id l)
  rwa [e, e] at this
local macro_rules | `(tactic| walk_at $_:str) => `(tactic| (conv => whnf) <;> repeat' (first
  | (refine And.intro (fun (hc : (_ : Prop)) => ?_) (fun (hc : (_ : Prop)) => ?_) <;> first | exact (d_ni hc).elim | exact (d_nt hc).elim | exact (d_nl hc).elim | exact (hc rfl).elim | (conv => whnf))
  | (refine And.intro (by with_reducible first | exact lz1 | exact lz2 | exact lz3 | exact lz0 | exact lq2 | exact lq1 | exact lq3 | exact lq5 | assumption | exact ⟨puL _, pu_nl⟩ | exact rfl) ?_ <;> (conv => whnf))
  | (rw [at_last]; conv => whnf) | (rw [ixn_last]; conv => whnf)))
theorem eq_nil {acc : List P2} (h : D.lst (List.map pD acc) = D.lst []) : acc = [] := by
  have := D.lst.inj h
  simpa using this
theorem ne_snoc {acc : List P2} (h : D.lst (List.map pD acc) ≠ D.lst []) : ∃ a q, acc = a ++ [q] := by
  rcases List.eq_nil_or_concat acc with rfl | ⟨a, q, e⟩
  · exact (h rfl).elim
  · exact ⟨a, q, by rw [e, List.concat_eq_append]⟩
def InN (l' : List P2) (x0 : D) (i : Nat) (env : List Sl) : Prop := ∃ (pre post acc : List P2) (x2 x3 x4 : Sl), l' = pre ++ post ∧ pre.length = i ∧ InvN pre post acc ∧ env = [.d x0, .ol (acc.map pD), x2, x3, x4, .no]
theorem inN_mk {pre r acc : List P2} {x : P2} {x0 : D} {x2 x3 x4 : Sl} {env : List Sl} (I : InvN (pre ++ [x]) r acc) (e : env = [.d x0, .ol (acc.map pD), x2, x3, x4, .no]) : InN (pre ++ x :: r) x0 (pre.length + 1) env :=
  ⟨pre ++ [x], r, acc, x2, x3, x4, by rw [List.append_assoc]; rfl, by rw [List.length_append]; rfl, I, e⟩
theorem inN_ps {pre r acc : List P2} {x : P2} {x0 : D} {x2 x3 x4 : Sl} {env : List Sl} (I : InvN (pre ++ [x]) r (acc ++ [x])) (e : env = [.d x0, .ol (acc.map pD ++ [pD x]), x2, x3, x4, .no]) : InN (pre ++ x :: r) x0 (pre.length + 1) env :=
  inN_mk I (by rw [e, List.map_append]; rfl)
theorem inN_mg {pre r a : List P2} {q x : P2} {x0 : D} {x2 x3 x4 : Sl} {env : List Sl} (I : InvN (pre ++ [x]) r (a ++ [mrg q x])) (e : env = [.d x0, .ol ((List.map pD (a ++ [q])).set a.length (pD (mrg q x))), x2, x3, x4, .no]) : InN (pre ++ x :: r) x0 (pre.length + 1) env :=
  inN_mk I (by rw [e, set_last])
structure Txt (K : PySem.W.Frag) (mg : Str → Option Value) : Prop where
  d : DTxt mg
  len : mg "len" = none
  range : mg "range" = none
  tuple : mg "tuple" = none
  list : mg "list" = none
  dict : mg "dict" = none
  set : mg "set" = none
  any : mg "any" = none
  all : mg "all" = none
  max : mg "max" = none
  min : mg "min" = none
  zip : mg "zip" = none
  sorted : mg "sorted" = none
  enumerate : mg "enumerate" = none
  isinstance : mg "isinstance" = none
  bool : mg "bool" = none
  int : mg "int" = none
  str : mg "str" = none
  nothing : CstD K mg "NOTHING" (.tup [])
  every : CstD K mg "EVERYTHING" (.tup [.tup [.non, .non]])
  own : CstD K mg "OWN_FIELDS" (.tupc [.str "time", .str "id"])
  letters : CstD K mg "LETTERS" (.str "abcdefghijklmnopqrstuvwxyz")
  fworth : CstD K mg "FIELD_WORTHS" (.tup [.str "sum", .str "least", .str "greatest", .str "unlike"])
  pworth : CstD K mg "PLAIN_WORTHS" (.tup [.str "count", .str "first", .str "last"])
structure Low (K : PySem.W.Frag) (mg : Str → Option Value) : Prop where
  ex : ∃ f, mg "low_of" = some (.ref f) ∧ ∀ {X : Cx} {k : Nat}, X.K = K → Room k X.A → CallRK X (.builtin "sorted") [Str.ofString "key"] (rSortLow X.K f)
abbrev WD := List D → (D → Prop) → Prop
def wNormal : WD := fun ds q => ∃ l : List P2, (ds = [.lst (l.map pD)] ∨ ds = [.tup (l.map pD)]) ∧ l.length ≤ 100 ∧ ∀ r, Norm r → (∀ n, mem n r = mem n l) → r.length ≤ l.length → q (.tup (r.map pD))
section
variable {P : Program} {w : World} {K : PySem.W.Frag} {mg : Str → Option Value} {base : Heap}
theorem sc_normal : FnScope ["pairs", "found", "low", "high", "last", "pair"] ["pairs"] (defScope snormal) := ⟨rfl, rfl, rfl, by decide +kernel, rfl, by decide +kernel, by decide +kernel⟩
-- slots: 0 pairs, 1 found, 2 low, 3 high, 4 last, 5 pair
theorem ok_normal (T : Txt K mg) (h0 : Here K mg "normal" ["pairs"] snormal) (Lo : Low K mg)  : Df P w K mg base 1 "normal" ["pairs"] wNormal := by
  obtain ⟨fl, mg_low_of, cr_low_of⟩ := Lo.ex
  refine df_of h0 sc_normal (fun ds q h => by obtain ⟨l, h | h, _⟩ := h <;> rw [h] <;> rfl) fun f cdv A outer s H E hr => ⟨_, _,
  (dss_cons (ds_setN (i := 1) sc_normal.nd rfl (by first | exact Or.inl rfl | exact Or.inr rfl) (dn_lst da_nil))
  (dss_cons (ds_for PassesOwn.never rfl (di_seq (DN.toE (dn_sortLow (cr_low_of rfl hr) rfl T.sorted rfl mg_low_of (by decide) (DN.toE (dn_lc (own := [("pair", 5)]) rfl sc_normal.nd (dib_seq (db_var 0)) (blkOk_by (N := ["pairs", "found", "low", "high", "last", "pair"]) (sc := defScope snormal) (by decide +kernel)) (fun _ _ _ _ _ => (dg_name (i := 5) sc_normal.nd rfl (by first | exact Or.inl rfl | exact Or.inr rfl))) (fun _ _ _ _ _ => dts_nil) (fun _ _ _ _ _ => (de_ty (call_tupleK (K := K)) sc_tuple rfl T.tuple (by with_unfolding_all rfl) (dab_cons (db_var 5) dab_nil)))))))) (dg_tupK (K := K) (n := 2) rfl (dgs_cons (dg_name (i := 2) sc_normal.nd rfl (by first | exact Or.inl rfl | exact Or.inr rfl)) (dgs_cons (dg_name (i := 3) sc_normal.nd rfl (by first | exact Or.inl rfl | exact Or.inr rfl)) dgs_nil))) (dss_one (ds_if (DW.dt (dw_or (dt_cmp op_isN so_isN (db_var 2) (DE.toB de_non) (nomark _)) (dw_or (dt_cmp op_isN so_isN (db_var 3) (DE.toB de_non) (nomark _)) (dw_or1 (dt_cmp op_le so_le (db_var 2) (db_var 3) (nomark _)))))) (dss_one (ds_if (DW.dt (dw_and (dt_cmp (op_neDK (K := K) hr.units) so_neU (db_var 1) (DE.toB (DN.toE (dn_lst da_nil))) (nomark _)) (dw_and1 (DW.dt (dw_or (dt_cmp op_isN so_isN (DE.toB (de_ixK (K := K) (DE.toB (de_ixK (K := K) (db_var 1) (DE.toB (de_neg de_int)) (fun _ _ => rfl))) (DE.toB de_int) (fun _ _ => rfl))) (DE.toB de_non) (nomark _)) (dw_or (dt_cmp op_isN so_isN (db_var 2) (DE.toB de_non) (nomark _)) (dw_or1 (dt_cmp op_le so_le (db_var 2) (DE.toB (de_op (op_addUK (K := K)) so_add (DE.toB (de_ixK (K := K) (DE.toB (de_ixK (K := K) (db_var 1) (DE.toB (de_neg de_int)) (fun _ _ => rfl))) (DE.toB de_int) (fun _ _ => rfl))) (DE.toB de_int))) (nomark _))))))))) (dss_cons (ds_set (i := 4) sc_normal.nd rfl (by first | exact Or.inl rfl | exact Or.inr rfl) (de_ixK (K := K) (DE.toB (de_ixK (K := K) (db_var 1) (DE.toB (de_neg de_int)) (fun _ _ => rfl))) (DE.toB de_int) (fun _ _ => rfl)))
  (dss_one (ds_ixset 1 (pe_var rfl (by first | exact Or.inl rfl | exact Or.inr (Or.inl rfl) | exact Or.inr (Or.inr rfl)) (by decide) (by decide)) (de_neg de_int) (de_tup (da_cons (de_ixK (K := K) (DE.toB (de_ixK (K := K) (db_var 1) (DE.toB (de_neg de_int)) (fun _ _ => rfl))) (DE.toB de_int) (fun _ _ => rfl)) (da_cons (de_ifE (DW.dt (dw_or (dt_cmp op_isN so_isN (db_var 4) (DE.toB de_non) (nomark _)) (dw_or1 (dt_cmp op_isN so_isN (db_var 3) (DE.toB de_non) (nomark _))))) de_non (de_cb (call_max2 rfl) sc_max2 rfl T.max (by with_unfolding_all rfl) (dab_cons (db_var 4) (dab_cons (db_var 3) dab_nil)))) da_nil)))))) (dss_one (ds_append 1 (pe_var rfl (by first | exact Or.inl rfl | exact Or.inr (Or.inl rfl) | exact Or.inr (Or.inr rfl)) (by decide) (by decide)) (de_tup (da_cons (de_var 2) (da_cons (de_var 3) da_nil))))))) dss_nil)))
  (dss_one (ds_ret (de_ty (call_tupleK (K := K)) sc_tuple rfl T.tuple (by with_unfolding_all rfl) (dab_cons (db_var 1) dab_nil)))))), fun ds q h => ?_⟩
  obtain ⟨l, hl, hn, hq⟩ := h
  obtain ⟨x0, rfl, hs⟩ : ∃ x0, ds = [x0] ∧ ∀ Q : List D → Prop, Q (l.map pD) → kSeq Q x0 := by
    rcases hl with rfl | rfl
    · exact ⟨_, rfl, fun Q h => h⟩
    · exact ⟨_, rfl, fun Q h => h⟩
  walk_at "x"
  refine hs _ ?_
  have hsz : (l.map pD).length ≤ sizeLine := by rw [List.length_map]; exact Nat.le_trans hn (by decide)
  refine g_lcm (fun d => d) hsz (fun d L R hm hL hR => ?_) ?_
  · obtain ⟨p, _, rfl⟩ := List.mem_map.mp hm
    walk_at "x"
    exact hR
  rw [List.map_id' (l.map pD)]
  conv => whnf
  refine ⟨fun z hz => ?_, fun ds' hp hw => ?_⟩
  · obtain ⟨p, _, rfl⟩ := List.mem_map.mp hz
    exact isPr_pD p
  obtain ⟨l', rfl, hp'⟩ := perm_back hp
  have hw' : l'.Pairwise (fun p q => kLe p.1 q.1) := by
    have := List.pairwise_map.mp hw
    refine this.imp ?_
    intro p q h
    rwa [fst_pD, fst_pD] at h
  walk_at "x"
  have hlen : l'.length ≤ 100 := by rw [hp'.length_eq]; exact hn
  refine g_for (InN l' x0) ⟨[], l', [], _, _, _, rfl, rfl, InvN.start l', rfl⟩ ?_ ?_
  · rintro i d env' hd ⟨pre, post, acc, x2, x3, x4, rfl, rfl, I, rfl⟩
    obtain ⟨⟨lo, hi⟩, r, rfl, rfl⟩ := split_at hd
    have hacc : (List.map pD acc).length < sizeLine := by
      have := I.len
      rw [List.length_append] at hlen
      rw [List.length_map]
      exact Nat.lt_of_le_of_lt (Nat.le_trans this (by omega : _ ≤ 100)) (by decide)
    have hs2 : ∀ y ∈ r, kLe lo y.1 := (List.pairwise_cons.mp (List.pairwise_append.mp hw').2.1).1
    cases lo <;> cases hi <;> walk_at "x"
    all_goals first
      | exact inN_mk (InvN.skip I rfl rfl ‹_›) rfl
      | exact inN_ps (I.push (by intro l h e1 e2; simp at e1 e2 <;> omega) hs2 (.inl (eq_nil ‹D.lst (List.map pD acc) = D.lst []›))) rfl
      | (obtain ⟨a, ⟨ql, qh⟩, rfl⟩ := ne_snoc ‹D.lst (List.map pD acc) ≠ D.lst []›
         cases ql <;> cases qh <;> walk_at "x")
    all_goals first
      | exact inN_mg (I.merge (by intro l h e1 e2; simp at e1 e2 <;> omega) (by first | exact .inl rfl | exact .inr (.inl rfl) | exact .inr (.inr ⟨_, _, rfl, rfl, by assumption⟩))) rfl
      | exact inN_ps (I.push (by intro l h e1 e2; simp at e1 e2 <;> omega) hs2 (.inr ⟨a, _, rfl, _, _, rfl, rfl, by omega⟩)) rfl
  · rintro env' ⟨pre, post, acc, x2, x3, x4, rfl, hp2, I, rfl⟩
    have : post = [] := by
      rw [List.length_map, List.length_append] at hp2
      cases post with
      | nil => rfl
      | cons x r => simp at hp2
    subst this
    walk_at "x"
    refine hq acc I.n (fun n => ?_) ?_
    · rw [I.m n]
      have e := hp'
      rw [List.append_nil] at e
      rw [Bool.eq_iff_iff]
      unfold mem
      rw [List.any_eq_true, List.any_eq_true]
      exact ⟨fun ⟨p, h1, h2⟩ => ⟨p, e.mem_iff.mp h1, h2⟩, fun ⟨p, h1, h2⟩ => ⟨p, e.mem_iff.mpr h1, h2⟩⟩
    · have := I.len
      have e := hp'.length_eq
      rw [List.append_nil] at e
      omega
end
end S07

namespace S07
open PySem L2 Y
local macro_rules | `(tactic| walk_at $_:str) => `(tactic| (conv => whnf) <;> repeat' (first
  | (refine And.intro (fun (hc : (_ : Prop)) => ?_) (fun (hc : (_ : Prop)) => ?_) <;> first | exact (d_ni hc).elim | exact (d_nt hc).elim | exact (d_nl hc).elim | exact (hc rfl).elim | (conv => whnf))
  | (refine And.intro (by with_reducible first | exact lz1 | exact lz2 | exact lz3 | exact lz0 | exact lq2 | exact lq1 | exact lq3 | exact lq5 | assumption | exact ⟨puL _, pu_nl⟩ | exact rfl) ?_ <;> (conv => whnf))
  | (rw [at_last]; conv => whnf) | (rw [ixn_last]; conv => whnf)))

abbrev sD (l : List P2) : D := .tup (l.map pD)
def wUnion : WD := fun ds q => ∃ a b : List P2, ds = [sD a, sD b] ∧ Norm a ∧ Norm b ∧ a.length + b.length ≤ 100 ∧ ∀ r, Norm r → (∀ n, mem n r = (mem n a || mem n b)) → r.length ≤ a.length + b.length → q (sD r)
def wOthers : WD := fun ds q => ∃ a : List P2, ds = [sD a] ∧ Norm a ∧ a.length ≤ 90 ∧ ∀ r, Norm r → (∀ n, mem n r = !mem n a) → r.length ≤ a.length + 1 → q (sD r)
def wMeet : WD := fun ds q => ∃ a b : List P2, ds = [sD a, sD b] ∧ Norm a ∧ Norm b ∧ a.length + b.length ≤ 60 ∧ ∀ r, Norm r → (∀ n, mem n r = (mem n a && mem n b)) → r.length ≤ a.length + b.length + 3 → q (sD r)
def wHas : WD := fun ds q => ∃ (a : List P2) (n : Int), ds = [sD a, .int n] ∧ a.length ≤ 100 ∧ q (.bl (mem n a))
theorem len_le {n : Nat} {l : List P2} (h : l.length ≤ n) (hn : n ≤ sizeLine) : (l.map pD).length ≤ sizeLine := by rw [List.length_map]; exact Nat.le_trans h hn
theorem len_lt {n : Nat} {l : List P2} (h : l.length ≤ n) (hn : n < sizeLine) : (l.map pD).length < sizeLine := by rw [List.length_map]; exact Nat.lt_of_le_of_lt h hn
def InOt (a : List P2) (i : Nat) (env : List Sl) : Prop := ∃ (pre post found : List P2) (low : Option Int) (op : Bool) (x4 x5 : Sl), a = pre ++ post ∧ pre.length = i ∧ InvO pre post found low op ∧ env = [.d (sD a), .ol (found.map pD), .d (oD low), .d (.bl op), x4, x5]
theorem inOt_mk {pre r found : List P2} {low : Option Int} {x : P2} {x4 x5 : Sl} {env : List Sl} (I : InvO pre (x :: r) found low true) (e : env = [.d (sD (pre ++ x :: r)), .ol ((oStep found low x).map pD), .d (oD (x.2.map (· + 1))), .d (.bl x.2.isSome), x4, x5]) : InOt (pre ++ x :: r) (pre.length + 1) env :=
  ⟨pre ++ [x], r, _, _, _, x4, x5, by rw [List.append_assoc]; rfl, by rw [List.length_append]; rfl, I.step, e⟩
theorem map_snoc {found : List P2} {x : P2} : List.map pD found ++ [pD x] = List.map pD (found ++ [x]) := by rw [List.map_append]; rfl
section
variable {P : Program} {w : World} {K : PySem.W.Frag} {mg : Str → Option Value} {base : Heap}
theorem sc_union : FnScope ["one", "other"] ["one", "other"] (defScope sunion) := ⟨rfl, rfl, rfl, by decide +kernel, rfl, by decide +kernel, by decide +kernel⟩
-- slots: 0 one, 1 other
theorem ok_union (T : Txt K mg) (h0 : Here K mg "union" ["one", "other"] sunion)  (F_normal : Df P w K mg base 1 "normal" ["pairs"] wNormal) : Df P w K mg base 2 "union" ["one", "other"] wUnion := by
  refine df_of h0 sc_union (fun ds q h => by obtain ⟨a, b, rfl, _⟩ := h; rfl) fun f cdv A outer s H E hr => ⟨_, _,
  (dss_one (ds_ret (de_clK (K := K) F_normal (hr.mono (by omega)) rfl (da_cons (de_op (op_addUK (K := K)) so_add (db_var 0) (db_var 1)) da_nil)))), fun ds q h => ?_⟩
  obtain ⟨a, b, rfl, na, nb, hl, hq⟩ := h
  walk_at "x"
  refine ⟨by rw [List.length_map, List.length_map]; exact Nat.le_trans hl (by decide), ?_⟩
  walk_at "x"
  exact ⟨a ++ b, .inr (by rw [List.map_append]), by rw [List.length_append]; exact hl, fun r hn hm hlr => hq r hn (fun n => by rw [hm, mem_app]) (by rw [List.length_append] at hlr; exact hlr)⟩
theorem sc_others : FnScope ["one", "found", "low", "is_open", "start", "end"] ["one"] (defScope sothers) := ⟨rfl, rfl, rfl, by decide +kernel, rfl, by decide +kernel, by decide +kernel⟩
-- slots: 0 one, 1 found, 2 low, 3 is_open, 4 start, 5 end
theorem ok_others (T : Txt K mg) (h0 : Here K mg "others" ["one"] sothers)  (F_normal : Df P w K mg base 1 "normal" ["pairs"] wNormal) : Df P w K mg base 2 "others" ["one"] wOthers := by
  refine df_of h0 sc_others (fun ds q h => by obtain ⟨a, rfl, _⟩ := h; rfl) fun f cdv A outer s H E hr => ⟨_, _,
  (dss_cons (ds_ownPar3 (i := 1) (j := 2) (l := 3) rfl sc_others.nd rfl rfl rfl (by decide) (by decide) (by decide) rfl rfl rfl (dn_lst da_nil) (da_cons de_non (da_cons de_bl da_nil)) (by rfl))
  (dss_cons (ds_for PassesOwn.never rfl (di_seq (de_var 0)) (dg_tupK (K := K) (n := 2) rfl (dgs_cons (dg_name (i := 4) sc_others.nd rfl (by first | exact Or.inl rfl | exact Or.inr rfl)) (dgs_cons (dg_name (i := 5) sc_others.nd rfl (by first | exact Or.inl rfl | exact Or.inr rfl)) dgs_nil))) (dss_cons (ds_if (DW.dt (dw_and (dt_cmp op_notN so_notN (db_var 4) (DE.toB de_non) (nomark _)) (dw_and1 (dt_val (de_var 3))))) (dss_one (ds_append 1 (pe_var rfl (by first | exact Or.inl rfl | exact Or.inr (Or.inl rfl) | exact Or.inr (Or.inr rfl)) (by decide) (by decide)) (de_tup (da_cons (de_var 2) (da_cons (de_op op_sub so_sub (db_var 4) (DE.toB de_int)) da_nil))))) dss_nil)
  (dss_cons (ds_set (i := 3) sc_others.nd rfl (by first | exact Or.inl rfl | exact Or.inr rfl) (de_cmp op_notN so_notN (db_var 5) (DE.toB de_non) (nomark _)))
  (dss_one (ds_set (i := 2) sc_others.nd rfl (by first | exact Or.inl rfl | exact Or.inr rfl) (de_ifE (dt_cmp op_isN so_isN (db_var 5) (DE.toB de_non) (nomark _)) de_non (de_op (op_addUK (K := K)) so_add (db_var 5) (DE.toB de_int))))))))
  (dss_cons (ds_if (dt_val (de_var 3)) (dss_one (ds_append 1 (pe_var rfl (by first | exact Or.inl rfl | exact Or.inr (Or.inl rfl) | exact Or.inr (Or.inr rfl)) (by decide) (by decide)) (de_tup (da_cons (de_var 2) (da_cons de_non da_nil))))) dss_nil)
  (dss_one (ds_frz 1 (ds_ret (de_clK (K := K) F_normal (hr.mono (by omega)) rfl (da_cons (de_var 1) da_nil)))))))), fun ds q h => ?_⟩
  obtain ⟨a, rfl, na, hl, hq⟩ := h
  walk_at "x"
  refine g_for (InOt a) ⟨[], a, [], none, true, _, _, rfl, rfl, InvO.start na, rfl⟩ ?_ ?_
  · rintro i d env' hd ⟨pre, post, found, low, op, x4, x5, rfl, rfl, I, rfl⟩
    obtain ⟨⟨st, en⟩, r, rfl, rfl⟩ := split_at hd
    have hop := I.op
    subst hop
    have hacc : (List.map pD found).length < sizeLine := len_lt (n := 90) (by have := I.len; rw [List.length_append] at hl; omega) (by decide)
    cases st <;> cases en <;> walk_at "x"
    · exact inOt_mk I rfl
    · exact inOt_mk I rfl
    · exact inOt_mk I (by rw [show oStep found low (some _, none) = found ++ [(low, some _)] from rfl, ← map_snoc]; try rfl)
    · exact inOt_mk I (by rw [show oStep found low (some _, some _) = found ++ [(low, some _)] from rfl, ← map_snoc]; try rfl)
  · rintro env' ⟨pre, post, found, low, op, x4, x5, rfl, hp2, I, rfl⟩
    have : post = [] := by
      rw [List.length_map, List.length_append] at hp2
      cases post with
      | nil => rfl
      | cons x r => simp at hp2
    subst this
    rw [List.append_nil] at *
    have hacc : (List.map pD found).length < sizeLine := len_lt (n := 90) (by have := I.len; omega) (by decide)
    have hfl := I.len
    cases op
    · walk_at "x"
      exact ⟨found, .inl rfl, by omega, fun r hn hm hlr => hq r hn (fun n => by rw [hm, I.done_shut]) (by omega)⟩
    · walk_at "x"
      exact ⟨found ++ [(low, none)], .inl (by rw [← map_snoc]; try rfl), by rw [List.length_append]; show found.length + 1 ≤ 100; omega, fun r hn hm hlr => hq r hn (fun n => by rw [hm, I.done_open]) (by rw [List.length_append] at hlr; exact Nat.le_trans hlr (by show found.length + 1 ≤ _; omega))⟩
theorem sc_meet : FnScope ["one", "other"] ["one", "other"] (defScope smeet) := ⟨rfl, rfl, rfl, by decide +kernel, rfl, by decide +kernel, by decide +kernel⟩
-- slots: 0 one, 1 other
theorem ok_meet (T : Txt K mg) (h0 : Here K mg "meet" ["one", "other"] smeet)  (F_others : Df P w K mg base 2 "others" ["one"] wOthers) (F_union : Df P w K mg base 2 "union" ["one", "other"] wUnion) : Df P w K mg base 3 "meet" ["one", "other"] wMeet := by
  refine df_of h0 sc_meet (fun ds q h => by obtain ⟨a, b, rfl, _⟩ := h; rfl) fun f cdv A outer s H E hr => ⟨_, _,
  (dss_one (ds_ret (de_clK (K := K) F_others (hr.mono (by omega)) rfl (da_cons (de_clK (K := K) F_union (hr.mono (by omega)) rfl (da_cons (de_clK (K := K) F_others (hr.mono (by omega)) rfl (da_cons (de_var 0) da_nil)) (da_cons (de_clK (K := K) F_others (hr.mono (by omega)) rfl (da_cons (de_var 1) da_nil)) da_nil))) da_nil)))), fun ds q h => ?_⟩
  obtain ⟨a, b, rfl, na, nb, hl, hq⟩ := h
  walk_at "x"
  refine ⟨a, rfl, na, by omega, fun r1 n1 m1 l1 => ?_⟩
  walk_at "x"
  refine ⟨b, rfl, nb, by omega, fun r2 n2 m2 l2 => ?_⟩
  walk_at "x"
  refine ⟨r1, r2, rfl, n1, n2, by omega, fun r3 n3 m3 l3 => ?_⟩
  walk_at "x"
  refine ⟨r3, rfl, n3, by omega, fun r hn hm hlr => hq r hn (fun n => ?_) (by omega)⟩
  rw [hm, m3, m1, m2]
  cases mem n a <;> cases mem n b <;> rfl
theorem sc_has : FnScope ["one", "number", "low", "high"] ["one", "number"] (defScope shas) := ⟨rfl, rfl, rfl, by decide +kernel, rfl, by decide +kernel, by decide +kernel⟩
-- slots: 0 one, 1 number, 2 low, 3 high
theorem ok_has (T : Txt K mg) (h0 : Here K mg "has" ["one", "number"] shas)   : Df P w K mg base 1 "has" ["one", "number"] wHas := by
  refine df_of h0 sc_has (fun ds q h => by obtain ⟨a, b, rfl, _⟩ := h; rfl) fun f cdv A outer s H E hr => ⟨_, _,
  (dss_one (ds_ret (de_cb (cr_anyK (K := K) rfl) sc_any rfl T.any (by with_unfolding_all rfl) (dab_cons (DE.toB (DN.toE (dn_lc (own := [("low", 2), ("high", 3)]) rfl sc_has.nd (dib_seq (db_var 0)) (blkOk_by (N := ["one", "number", "low", "high"]) (sc := defScope shas) (by decide +kernel)) (fun _ _ _ _ _ => (dg_tupK (K := K) (n := 2) rfl (dgs_cons (dg_name (i := 2) sc_has.nd rfl (by first | exact Or.inl rfl | exact Or.inr rfl)) (dgs_cons (dg_name (i := 3) sc_has.nd rfl (by first | exact Or.inl rfl | exact Or.inr rfl)) dgs_nil)))) (fun _ _ _ _ _ => dts_nil) (fun _ _ _ _ _ => (de_and (de_or (de_cmp op_isN so_isN (db_var 2) (DE.toB de_non) (nomark _)) (de_one (de_cmp op_le so_le (db_var 2) (db_var 1) (nomark _)))) (de_one (de_or (de_cmp op_isN so_isN (db_var 3) (DE.toB de_non) (nomark _)) (de_one (de_cmp op_le so_le (db_var 1) (db_var 3) (nomark _)))))))))) dab_nil)))), fun ds q h => ?_⟩
  obtain ⟨a, n, rfl, hl, hq⟩ := h
  walk_at "x"
  refine g_lcm (fun d => .bl (inB (unP d) n)) (len_le hl (by decide)) (fun d L R hm hL hR => ?_) ?_
  · obtain ⟨⟨lo, hi⟩, _, rfl⟩ := List.mem_map.mp hm
    simp only [unP_pD, inB, loB, hiB] at hR
    cases lo <;> cases hi <;> walk_at "x"
    all_goals simpa [*] using hR
  · have e : List.map (fun d => D.bl (inB (unP d) n)) (List.map pD a) = List.map D.bl (a.map fun p => inB p n) := by
      rw [List.map_map, List.map_map]
      exact List.map_congr_left fun p _ => by show D.bl (inB (unP (pD p)) n) = D.bl (inB p n); rw [unP_pD]
    rw [e]
    refine g_any ?_
    show q (.bl ((a.map fun p => inB p n).any id))
    rw [List.any_map]
    exact hq
end
end S07

namespace S07
open PySem L2 Y
theorem at_zero {p : P2} {r : List P2} : atI (List.map pD (p :: r)) 0 = some (pD p) := by
  unfold atI
  have e : ixN (List.map pD (p :: r)).length 0 = some 0 := by
    unfold ixN
    simp
  rw [e]; rfl
theorem d_ts {b : List P2} {p : P2} (h : D.tup (List.map pD (b ++ [p])) = .tup []) : False := by
  have := D.tup.inj h
  simp at this
local macro_rules | `(tactic| walk_at $_:str) => `(tactic| (conv => whnf) <;> repeat' (first
  | (refine And.intro (fun (hc : (_ : Prop)) => ?_) (fun (hc : (_ : Prop)) => ?_) <;> first | exact (d_ni hc).elim | exact (d_nt hc).elim | exact (d_nl hc).elim | exact (d_tc hc).elim | exact (d_lc hc).elim | exact (d_ts hc).elim | exact (hc rfl).elim | (conv => whnf))
  | (refine And.intro (by with_reducible first | exact lz1 | exact lz2 | exact lz3 | exact lz0 | exact lq2 | exact lq1 | exact lq3 | exact lq5 | assumption | exact ⟨puL _, pu_nl⟩ | exact ⟨puT _, pu_nt⟩ | exact ⟨puT _, puT _⟩ | exact rfl) ?_ <;> (conv => whnf))
  | (rw [at_last]; conv => whnf) | (rw [ixn_last]; conv => whnf) | (rw [at_zero]; conv => whnf)))

def loOf (a : List P2) : Option Int := match a with | [] => none | p :: _ => p.1
def hiOf (a : List P2) : Option Int := match a.getLast? with | none => none | some p => p.2
def isOpen (a : List P2) : Bool := a.any fun p => p.1.isNone || p.2.isNone
def count (a : List P2) : Int := (a.map fun p => p.2.getD 0 - p.1.getD 0 + 1).sum
def smem (p : P2) : Int := match p with | (none, none) => 0 | (none, some h) => h | (some l, _) => l
def wLeast : WD := fun ds q => ∃ a : List P2, ds = [sD a] ∧ q (oD (loOf a))
def wGreatest : WD := fun ds q => ∃ a : List P2, ds = [sD a] ∧ q (oD (hiOf a))
def wMany : WD := fun ds q => ∃ a : List P2, ds = [sD a] ∧ a.length ≤ 100 ∧ (isOpen a = true → q .non) ∧ (isOpen a = false → q (.int (count a)))
def wSome : WD := fun ds q => ∃ (p : P2) (r : List P2), ds = [sD (p :: r)] ∧ q (.int (smem p))
def wIn : WD := fun ds q => ∃ (l : List P2) (n : Int), ds = [.lst (l.map pD), .int n] ∧ q (.bl (mem n l))
section
variable {P : Program} {w : World} {K : PySem.W.Frag} {mg : Str → Option Value} {base : Heap}
theorem sc_some_member : FnScope ["one", "low", "high"] ["one"] (defScope ssome_member) := ⟨rfl, rfl, rfl, by decide +kernel, rfl, by decide +kernel, by decide +kernel⟩
-- slots: 0 one, 1 low, 2 high
theorem ok_some_member (T : Txt K mg) (h0 : Here K mg "some_member" ["one"] ssome_member)   : Df P w K mg base 1 "some_member" ["one"] wSome := by
  refine df_of h0 sc_some_member (fun ds q h => by obtain ⟨a, b, rfl, _⟩ := h; rfl) fun f cdv A outer s H E hr => ⟨_, _,
  (dss_cons (ds_asg (de_ixK (K := K) (db_var 0) (DE.toB de_int) (fun _ _ => rfl)) (dg_tupK (K := K) (n := 2) rfl (dgs_cons (dg_name (i := 1) sc_some_member.nd rfl (by first | exact Or.inl rfl | exact Or.inr rfl)) (dgs_cons (dg_name (i := 2) sc_some_member.nd rfl (by first | exact Or.inl rfl | exact Or.inr rfl)) dgs_nil))))
  (dss_cons (ds_if (DW.dt (dw_and (dt_cmp op_isN so_isN (db_var 1) (DE.toB de_non) (nomark _)) (dw_and1 (dt_cmp op_isN so_isN (db_var 2) (DE.toB de_non) (nomark _))))) (dss_one (ds_ret de_int)) dss_nil)
  (dss_one (ds_ret (de_ifE (dt_cmp op_isN so_isN (db_var 1) (DE.toB de_non) (nomark _)) (de_var 2) (de_var 1)))))), fun ds q h => ?_⟩
  obtain ⟨⟨lo, hi⟩, r, rfl, hq⟩ := h
  cases lo <;> cases hi <;> walk_at "x"
  all_goals exact hq
end
end S07

namespace S07
open PySem L2 Y
/-! the plain law of trees of tests -/
abbrev Sets := List (List P2)
abbrev Box := List P2
abbrev Row := Nat × Sets
def NormS (s : Sets) : Prop := s.length = 2 ∧ ∀ one ∈ s, Norm one ∧ one.length ≤ 20
def OkBox (b : Box) : Prop := b.length = 2 ∧ ∀ p ∈ b, okP p
def Meets (b : Box) (s : Sets) : Prop := ∀ (i : Nat) (one : List P2) (p : P2), s[i]? = some one → b[i]? = some p → ∃ n, mem n one = true ∧ inB p n = true
def Within (b : Box) (s : Sets) : Prop := ∀ (i : Nat) (one : List P2) (p : P2), s[i]? = some one → b[i]? = some p → ∀ n, inB p n = true → mem n one = true
def InBox (b : Box) (e : List Int) : Prop := ∀ (i : Nat) (n : Int) (p : P2), e[i]? = some n → b[i]? = some p → inB p n = true
def InS (s : Sets) (e : List Int) : Prop := ∀ (i : Nat) (n : Int) (one : List P2), e[i]? = some n → s[i]? = some one → mem n one = true
def cutsP (p : P2) : List Int := (match p.1 with | none => [] | some l => [l]) ++ (match p.2 with | none => [] | some h => [h + 1])
def cutsOf (one : List P2) : List Int := one.flatMap cutsP
def insideP (p : P2) (c : Int) : Bool := (match p.1 with | none => true | some l => decide (l < c)) && (match p.2 with | none => true | some h => decide (c ≤ h))
def atB (b : Box) (i : Nat) : P2 := (b[i]?).getD (none, none)
def atS (s : Sets) (i : Nat) : List P2 := (s[i]?).getD []
def rawCuts (rows : List Row) (b : Box) (i : Nat) : List Int := rows.flatMap fun r => (cutsOf (atS r.2 i)).filter (insideP (atB b i))
/-! ### strictly sorted lists of numbers -/
def insS (c : Int) : List Int → List Int
  | [] => [c]
  | d :: r => if c < d then c :: d :: r else if c = d then d :: r else d :: insS c r
def sortS (l : List Int) : List Int := l.foldr insS []
abbrev Srt (l : List Int) : Prop := l.Pairwise (· < ·)
theorem mem_insS {c x : Int} : ∀ {l : List Int}, x ∈ insS c l ↔ x = c ∨ x ∈ l
  | [] => by unfold insS; simp
  | d :: r => by
    unfold insS
    split
    · simp
    · split
      · rename_i h; subst h; simp
      · rw [List.mem_cons, mem_insS, List.mem_cons]
        constructor
        · rintro (h | h | h); exact .inr (.inl h); exact .inl h; exact .inr (.inr h)
        · rintro (h | h | h); exact .inr (.inl h); exact .inl h; exact .inr (.inr h)
theorem srt_insS {c : Int} : ∀ {l : List Int}, Srt l → Srt (insS c l)
  | [], _ => List.pairwise_singleton ..
  | d :: r, h => by
    have h' := List.pairwise_cons.mp h
    unfold insS
    split
    · rename_i hc
      exact List.pairwise_cons.mpr ⟨fun x hx => by rcases List.mem_cons.mp hx with rfl | hx; exact hc; exact Int.lt_trans hc (h'.1 x hx), h⟩
    · split
      · exact h
      · refine List.pairwise_cons.mpr ⟨fun x hx => ?_, srt_insS h'.2⟩
        rcases mem_insS.mp hx with rfl | hx
        · omega
        · exact h'.1 x hx
theorem mem_sortS {x : Int} : ∀ {l : List Int}, x ∈ sortS l ↔ x ∈ l
  | [] => Iff.rfl
  | c :: r => by
    show x ∈ insS c (sortS r) ↔ _
    rw [mem_insS, mem_sortS, List.mem_cons]
theorem srt_sortS : ∀ {l : List Int}, Srt (sortS l)
  | [] => .nil
  | c :: r => srt_insS (srt_sortS (l := r))
theorem srt_uniq : ∀ {a b : List Int}, Srt a → Srt b → (∀ x, x ∈ a ↔ x ∈ b) → a = b
  | [], [], _, _, _ => rfl
  | [], y :: s, _, _, h => absurd ((h y).mpr List.mem_cons_self) (by simp)
  | x :: r, [], _, _, h => absurd ((h x).mp List.mem_cons_self) (by simp)
  | x :: r, y :: s, ha, hb, h => by
    have ha' := List.pairwise_cons.mp ha
    have hb' := List.pairwise_cons.mp hb
    have exy : x = y := by
      rcases List.mem_cons.mp ((h x).mp List.mem_cons_self) with e | m1
      · exact e
      · rcases List.mem_cons.mp ((h y).mpr List.mem_cons_self) with e | m2
        · exact e.symm
        · have := hb'.1 x m1; have := ha'.1 y m2; omega
    subst exy
    congr 1
    refine srt_uniq ha'.2 hb'.2 fun z => ?_
    constructor
    · intro hz
      rcases List.mem_cons.mp ((h z).mp (List.mem_cons_of_mem _ hz)) with e | m
      · have := ha'.1 z hz; omega
      · exact m
    · intro hz
      rcases List.mem_cons.mp ((h z).mpr (List.mem_cons_of_mem _ hz)) with e | m
      · have := hb'.1 z hz; omega
      · exact m
theorem srt_sub_len {a b : List Int} (ha : Srt a) (hb : Srt b) (h : ∀ x ∈ a, x ∈ b) : a.length ≤ b.length := by
  have e : a = b.filter (fun x => decide (x ∈ a)) := srt_uniq ha (hb.filter _) fun x => by
    rw [List.mem_filter, decide_eq_true_iff]
    exact ⟨fun z => ⟨h x z, z⟩, fun z => z.2⟩
  rw [e]
  exact List.length_filter_le ..
def cutsF (rows : List Row) (b : Box) (i : Nat) : List Int := sortS (rawCuts rows b i)
theorem mem_cutsF {rows : List Row} {b : Box} {i : Nat} {c : Int} : c ∈ cutsF rows b i ↔ ∃ r ∈ rows, c ∈ cutsOf (atS r.2 i) ∧ insideP (atB b i) c = true := by
  unfold cutsF rawCuts
  rw [mem_sortS, List.mem_flatMap]
  simp only [List.mem_filter]
theorem srt_cutsF {rows : List Row} {b : Box} {i : Nat} : Srt (cutsF rows b i) := srt_sortS
/-! ### bits -/
def bl (n : Nat) : Nat := if n = 0 then 0 else n.log2 + 1
theorem bl_pos {n : Nat} (h : n ≠ 0) : bl n = bl (n / 2) + 1 := by
  unfold bl
  rw [if_neg h, Nat.log2_def]
  by_cases h2 : n ≥ 2
  · rw [if_pos h2, if_neg (by omega)]
  · rw [if_neg h2, if_pos (by omega)]
theorem bl_mono : ∀ {m n : Nat}, m ≤ n → bl m ≤ bl n := by
  intro m
  induction m using Nat.strongRecOn with
  | _ m ih =>
    intro n h
    by_cases hm : m = 0
    · subst hm; exact Nat.zero_le _
    · rw [bl_pos hm, bl_pos (by omega : n ≠ 0)]
      have := ih (m / 2) (by omega) (n := n / 2) (by omega)
      omega
theorem bl_lt {n k : Nat} (h : n < 2 ^ k) : bl n ≤ k := by
  unfold bl
  split
  · exact Nat.zero_le _
  · rename_i hn
    have := (Nat.log2_lt hn).mpr h
    omega
def M (rows : List Row) (b : Box) : Nat := bl (cutsF rows b 0).length + bl (cutsF rows b 1).length
/-! ### trees -/
inductive Tr where
  | lot (ns : List Int) | bel (i : Nat) (cut : Int) (l r : Tr)
def height : Tr → Nat
  | .lot _ => 0
  | .bel _ _ l r => 1 + max (height l) (height r)
def lotAt (e : List Int) : Tr → List Int
  | .lot ns => ns
  | .bel i cut l r => if (e[i]?).getD 0 < cut then lotAt e l else lotAt e r
def testsAt (e : List Int) : Tr → Nat
  | .lot _ => 0
  | .bel i cut l r => (if (e[i]?).getD 0 < cut then testsAt e l else testsAt e r) + 1
theorem tests_le (e : List Int) : ∀ t : Tr, testsAt e t ≤ height t
  | .lot _ => Nat.le_refl _
  | .bel i cut l r => by
    have := tests_le e l
    have := tests_le e r
    unfold testsAt height
    split <;> omega
def loBox (b : Box) (i : Nat) (cut : Int) : Box := b.set i ((atB b i).1, some (cut - 1))
def hiBox (b : Box) (i : Nat) (cut : Int) : Box := b.set i (some cut, (atB b i).2)
def GoodT (leaf : Box → List Int → Prop) : Box → Tr → Prop
  | b, .lot ns => leaf b ns
  | b, .bel i cut l r => (i < 2 ∧ insideP (atB b i) cut = true) ∧ GoodT leaf (loBox b i cut) l ∧ GoodT leaf (hiBox b i cut) r
theorem in_lo {p : P2} {c : Int} (h : insideP p c = true) : ∀ l, p.1 = some l → l < c := fun l e => by
  unfold insideP at h; rw [e, Bool.and_eq_true] at h; exact of_decide_eq_true h.1
theorem in_hi {p : P2} {c : Int} (h : insideP p c = true) : ∀ l, p.2 = some l → c ≤ l := fun l e => by
  unfold insideP at h; rw [e, Bool.and_eq_true] at h; exact of_decide_eq_true h.2
theorem in_mk {p : P2} {c : Int} (h1 : ∀ l, p.1 = some l → l < c) (h2 : ∀ l, p.2 = some l → c ≤ l) : insideP p c = true := by
  obtain ⟨lo, hi⟩ := p
  unfold insideP
  cases lo <;> cases hi <;> simp <;> first | exact h1 _ rfl | exact h2 _ rfl | exact ⟨h1 _ rfl, h2 _ rfl⟩
theorem atB_get {b : Box} {i : Nat} {p : P2} (h : b[i]? = some p) : atB b i = p := by unfold atB; rw [h]; rfl
theorem atB_some {b : Box} {i : Nat} (h : i < b.length) : b[i]? = some (atB b i) := by unfold atB; rw [List.getElem?_eq_getElem h]; rfl
theorem atS_get {b : Sets} {i : Nat} {p : List P2} (h : b[i]? = some p) : atS b i = p := by unfold atS; rw [h]; rfl
theorem atS_some {b : Sets} {i : Nat} (h : i < b.length) : b[i]? = some (atS b i) := by unfold atS; rw [List.getElem?_eq_getElem h]; rfl
theorem atB_self {b : Box} {i : Nat} {p : P2} (h : i < b.length) : atB (b.set i p) i = p := by unfold atB; rw [List.getElem?_set_self h]; rfl
theorem atB_ne {b : Box} {i j : Nat} {p : P2} (h : i ≠ j) : atB (b.set i p) j = atB b j := by unfold atB; rw [List.getElem?_set_ne h]
theorem ok_set {b : Box} {i : Nat} {p : P2} (h : OkBox b) (o : okP p) : OkBox (b.set i p) := ⟨by rw [List.length_set]; exact h.1, fun q hq => by
  rcases List.mem_or_eq_of_mem_set hq with m | rfl
  · exact h.2 q m
  · exact o⟩
theorem OkBox.lo {b : Box} {i : Nat} {c : Int} (h : OkBox b) (hc : insideP (atB b i) c = true) : OkBox (loBox b i c) := ok_set h fun l x e1 e2 => by
  have := in_lo hc l e1
  cases e2; omega
theorem OkBox.hi {b : Box} {i : Nat} {c : Int} (h : OkBox b) (hc : insideP (atB b i) c = true) : OkBox (hiBox b i c) := ok_set h fun l x e1 e2 => by
  have := in_hi hc x e2
  cases e1; omega
/-! sub boxes -/
def Sub (a b : Box) : Prop := a.length = b.length ∧ ∀ (i : Nat) (p q : P2) (n : Int), a[i]? = some p → b[i]? = some q → inB p n = true → inB q n = true
theorem Sub.refl (b : Box) : Sub b b := ⟨rfl, fun i p q n h1 h2 h => by rw [h1] at h2; cases h2; exact h⟩
theorem Sub.trans {a b c : Box} (h : Sub a b) (g : Sub b c) : Sub a c := ⟨h.1.trans g.1, fun i p q n h1 h2 hn => by
  have hi : i < b.length := by rw [← h.1]; exact (List.getElem?_eq_some_iff.mp h1).1
  exact g.2 i _ q n (List.getElem?_eq_getElem hi) h2 (h.2 i p _ n h1 (List.getElem?_eq_getElem hi) hn)⟩
theorem sub_set {b : Box} {i : Nat} {p : P2} (h : ∀ n, inB p n = true → inB (atB b i) n = true) : Sub (b.set i p) b := ⟨List.length_set, fun j u v n h1 h2 hn => by
  by_cases e : i = j
  · subst e
    have hi : i < b.length := (List.getElem?_eq_some_iff.mp h2).1
    rw [List.getElem?_set_self hi] at h1; cases h1
    have := h n hn
    rw [atB_get h2] at this; exact this
  · rw [List.getElem?_set_ne e, h2] at h1; cases h1; exact hn⟩
theorem sub_lo {b : Box} {i : Nat} {c : Int} (hc : insideP (atB b i) c = true) : Sub (loBox b i c) b := sub_set fun n h => inB_mk (fun l e => inB_lo h e) fun x e => by
  have := in_hi hc x e
  have := inB_hi (l := c - 1) h rfl
  omega
theorem sub_hi {b : Box} {i : Nat} {c : Int} (hc : insideP (atB b i) c = true) : Sub (hiBox b i c) b := sub_set fun n h => inB_mk (fun l e => by
  have := in_lo hc l e
  have := inB_lo (l := c) h rfl
  omega) fun x e => inB_hi h e
theorem Meets.sub {a b : Box} {s : Sets} (h : Sub a b) (m : Meets a s) : Meets b s := fun i one q h1 h2 => by
  have hi : i < a.length := by rw [h.1]; exact (List.getElem?_eq_some_iff.mp h2).1
  obtain ⟨n, k1, k2⟩ := m i one _ h1 (List.getElem?_eq_getElem hi)
  exact ⟨n, k1, h.2 i _ q n (List.getElem?_eq_getElem hi) h2 k2⟩
theorem GoodT.imp {leaf leaf' : Box → List Int → Prop} {top : Box} (h : ∀ b ns, Sub b top → leaf b ns → leaf' b ns) : ∀ {t : Tr} {b : Box}, Sub b top → GoodT leaf b t → GoodT leaf' b t
  | .lot ns, b, s, g => h b ns s g
  | .bel i c l r, b, s, g => ⟨g.1, GoodT.imp h ((sub_lo g.1.2).trans s) g.2.1, GoodT.imp h ((sub_hi g.1.2).trans s) g.2.2⟩
theorem GoodT.walk {leaf : Box → List Int → Prop} {e : List Int} : ∀ {t : Tr} {b : Box}, e.length = 2 → b.length = 2 → InBox b e → GoodT leaf b t → ∃ b', b'.length = 2 ∧ InBox b' e ∧ leaf b' (lotAt e t)
  | .lot ns, b, _, hb, hi, g => ⟨b, hb, hi, g⟩
  | .bel i c l r, b, he, hb, hi, g => by
    have hie : i < e.length := by rw [he]; exact g.1.1
    have hib : i < b.length := by rw [hb]; exact g.1.1
    have e0 : e[i]? = some ((e[i]?).getD 0) := by rw [List.getElem?_eq_getElem hie]; rfl
    have hin := hi i _ _ e0 (atB_some hib)
    unfold lotAt
    by_cases hc : (e[i]?).getD 0 < c
    · rw [if_pos hc]
      refine GoodT.walk he (by unfold loBox; rw [List.length_set]; exact hb) (fun j n p h1 h2 => ?_) g.2.1
      unfold loBox at h2
      by_cases hj : i = j
      · subst hj
        rw [List.getElem?_set_self hib] at h2; cases h2
        rw [e0] at h1; cases h1
        exact inB_mk (fun l e => inB_lo hin e) fun x e => by cases e; omega
      · rw [List.getElem?_set_ne hj] at h2; exact hi j n p h1 h2
    · rw [if_neg hc]
      refine GoodT.walk he (by unfold hiBox; rw [List.length_set]; exact hb) (fun j n p h1 h2 => ?_) g.2.2
      unfold hiBox at h2
      by_cases hj : i = j
      · subst hj
        rw [List.getElem?_set_self hib] at h2; cases h2
        rw [e0] at h1; cases h1
        exact inB_mk (fun l e => by cases e; omega) fun x e => inB_hi hin e
      · rw [List.getElem?_set_ne hj] at h2; exact hi j n p h1 h2
/-! ### leaves -/
noncomputable def meetsB (b : Box) (r : Row) : Bool := @decide (Meets b r.2) (Classical.propDecidable _)
theorem meetsB_iff {b : Box} {r : Row} : meetsB b r = true ↔ Meets b r.2 := by unfold meetsB; exact @decide_eq_true_iff _ (Classical.propDecidable _)
noncomputable def inBox (rows : List Row) (b : Box) : List Row := rows.filter (meetsB b)
def leafR (rows : List Row) (b : Box) (ns : List Int) : Prop := ns = (inBox rows b).map (fun r => (r.1 : Int)) ∧ ∀ r ∈ rows, Meets b r.2 → Within b r.2
theorem leafR_up {rows : List Row} {b b' : Box} {ns : List Int} (s : Sub b' b) (h : leafR (inBox rows b) b' ns) : leafR rows b' ns := by
  refine ⟨?_, fun r hr m => h.2 r ?_ m⟩
  · rw [h.1]
    unfold inBox
    rw [List.filter_filter]
    congr 1
    refine List.filter_congr fun r _ => ?_
    rw [Bool.eq_iff_iff, Bool.and_eq_true, meetsB_iff, meetsB_iff]
    exact ⟨fun z => z.1, fun z => ⟨z, z.sub s⟩⟩
  · exact List.mem_filter.mpr ⟨hr, meetsB_iff.mpr (m.sub s)⟩
theorem cut_of_ne {p : P2} {n : Int} (h : inB p n ≠ inB p (n + 1)) : n + 1 ∈ cutsP p := by
  obtain ⟨lo, hi⟩ := p
  rw [Ne, Bool.eq_iff_iff] at h
  cases lo <;> cases hi <;> simp [inB, loB, hiB, cutsP] at h ⊢ <;> omega
theorem cutsOf_ne {one : List P2} {n : Int} (h : mem n one ≠ mem (n + 1) one) : n + 1 ∈ cutsOf one := by
  unfold cutsOf
  induction one with
  | nil => exact (h rfl).elim
  | cons p r ih =>
    rw [List.flatMap_cons, List.mem_append]
    by_cases hp : inB p n = inB p (n + 1)
    · refine .inr (ih fun z => h ?_)
      rw [mem_cons, mem_cons, hp, z]
    · exact .inl (cut_of_ne hp)
theorem flat_up {one : List P2} {p : P2} (hno : ∀ c ∈ cutsOf one, insideP p c = false) (m : Int) : ∀ k : Nat, inB p m = true → inB p (m + k) = true → mem (m + k) one = mem m one
  | 0, _, _ => by rw [show m + ((0 : Nat) : Int) = m from by omega]
  | k + 1, h1, h2 => by
    have h3 : inB p (m + k) = true := inB_mk (fun l e => by have := inB_lo h1 e; omega) fun x e => by have := inB_hi h2 e; omega
    rw [← flat_up hno m k h1 h3]
    by_cases hne : mem (m + k) one = mem (m + k + 1) one
    · rw [hne]; congr 1; omega
    · have hc := cutsOf_ne hne
      have := hno _ hc
      rw [in_mk (fun l e => by have := inB_lo h3 e; omega) fun x e => by have := inB_hi h2 e; omega] at this
      cases this
theorem flat_all {one : List P2} {p : P2} (hno : ∀ c ∈ cutsOf one, insideP p c = false) {m n : Int} (h1 : inB p m = true) (h2 : inB p n = true) : mem m one = mem n one := by
  rcases (by omega : m ≤ n ∨ n ≤ m) with h | h
  · have := flat_up hno m (n - m).toNat h1 (by rw [show m + ((n - m).toNat : Int) = n from by omega]; exact h2)
    rw [show m + ((n - m).toNat : Int) = n from by omega] at this
    exact this.symm
  · have := flat_up hno n (m - n).toNat h2 (by rw [show n + ((m - n).toNat : Int) = m from by omega]; exact h1)
    rw [show n + ((m - n).toNat : Int) = m from by omega] at this
    exact this
theorem node_leaf {rows : List Row} {b : Box} (hb : b.length = 2) (h : ∀ i < 2, cutsF (inBox rows b) b i = []) : leafR rows b ((inBox rows b).map fun r => (r.1 : Int)) := by
  refine ⟨rfl, fun r hr m i one p h1 h2 n hn => ?_⟩
  obtain ⟨n0, k1, k2⟩ := m i one p h1 h2
  have hi : i < 2 := by rw [← hb]; exact (List.getElem?_eq_some_iff.mp h2).1
  rw [← k1]
  refine flat_all (p := p) (fun c hc => ?_) hn k2
  rw [Bool.eq_false_iff]
  intro hin
  have : c ∈ cutsF (inBox rows b) b i := mem_cutsF.mpr ⟨r, List.mem_filter.mpr ⟨hr, meetsB_iff.mpr m⟩, by rw [atS_get h1]; exact hc, by rw [atB_get h2]; exact hin⟩
  rw [h i hi] at this
  cases this
theorem cutsF_sub {rows : List Row} {b : Box} {i : Nat} : (cutsF (inBox rows b) b i).length ≤ (cutsF rows b i).length := srt_sub_len srt_cutsF srt_cutsF fun c hc => by
  obtain ⟨r, hr, h⟩ := mem_cutsF.mp hc
  exact mem_cutsF.mpr ⟨r, (List.mem_filter.mp hr).1, h⟩
theorem M_within {rows : List Row} {b : Box} : M (inBox rows b) b ≤ M rows b := by
  have h0 := bl_mono (cutsF_sub (rows := rows) (b := b) (i := 0))
  have h1 := bl_mono (cutsF_sub (rows := rows) (b := b) (i := 1))
  unfold M; omega
theorem cutsF_ne {rows : List Row} {b : Box} {i j : Nat} {p : P2} (h : i ≠ j) : cutsF rows (b.set i p) j = cutsF rows b j := by
  unfold cutsF rawCuts; rw [atB_ne h]
theorem M_set {rows : List Row} {b : Box} {i : Nat} {p : P2} (hi : i < 2) (h : bl (cutsF rows (b.set i p) i).length + 1 ≤ bl (cutsF rows b i).length) : M rows (b.set i p) + 1 ≤ M rows b := by
  unfold M
  rcases (by omega : i = 0 ∨ i = 1) with rfl | rfl
  · rw [cutsF_ne (b := b) (show (0:Nat) ≠ 1 by decide)]; omega
  · rw [cutsF_ne (b := b) (show (1:Nat) ≠ 0 by decide)]; omega
theorem srt_get {l : List Int} (h : Srt l) {i j : Nat} {x y : Int} (hi : l[i]? = some x) (hj : l[j]? = some y) : x < y ↔ i < j := by
  obtain ⟨a1, a2⟩ := List.getElem?_eq_some_iff.mp hi
  obtain ⟨b1, b2⟩ := List.getElem?_eq_some_iff.mp hj
  have hp := List.pairwise_iff_getElem.mp h
  rcases Nat.lt_trichotomy i j with c | c | c
  · have := hp i j a1 b1 c; rw [a2, b2] at this; exact ⟨fun _ => c, fun _ => this⟩
  · subst c; rw [hi] at hj; cases hj; exact ⟨fun z => by omega, fun z => by omega⟩
  · have := hp j i b1 a1 c; rw [a2, b2] at this; exact ⟨fun z => by omega, fun z => by omega⟩
theorem srt_below {l : List Int} (h : Srt l) {k : Nat} {c : Int} (hk : l[k]? = some c) (x : Int) : x ∈ l.take k ↔ x ∈ l ∧ x < c := by
  rw [List.mem_take_iff_getElem]
  constructor
  · rintro ⟨j, hj, e⟩
    have hj' : j < l.length := by omega
    have ej : l[j]? = some x := by rw [List.getElem?_eq_getElem hj', e]
    exact ⟨List.mem_of_getElem? ej, (srt_get h ej hk).mpr (by omega)⟩
  · rintro ⟨m, lt⟩
    obtain ⟨j, hj, e⟩ := List.mem_iff_getElem.mp m
    have ej : l[j]? = some x := by rw [List.getElem?_eq_getElem hj, e]
    exact ⟨j, by have := (srt_get h ej hk).mp lt; omega, e⟩
theorem srt_above {l : List Int} (h : Srt l) {k : Nat} {c : Int} (hk : l[k]? = some c) (x : Int) : x ∈ l.drop (k + 1) ↔ x ∈ l ∧ c < x := by
  rw [List.mem_drop_iff_getElem]
  constructor
  · rintro ⟨j, hj, e⟩
    have ej : l[k + 1 + j]? = some x := by rw [List.getElem?_eq_getElem (by omega), e]
    exact ⟨List.mem_of_getElem? ej, (srt_get h hk ej).mpr (by omega)⟩
  · rintro ⟨m, lt⟩
    obtain ⟨j, hj, e⟩ := List.mem_iff_getElem.mp m
    have ej : l[j]? = some x := by rw [List.getElem?_eq_getElem hj, e]
    have := (srt_get h hk ej).mp lt
    exact ⟨j - (k + 1), by omega, by rw [← e]; congr 1; omega⟩
theorem M_lo {rows : List Row} {b : Box} {i : Nat} {cut : Int} (hb : b.length = 2) (hi : i < 2) (hc : (cutsF rows b i)[(cutsF rows b i).length / 2]? = some cut) : M rows (loBox b i cut) + 1 ≤ M rows b := by
  have hl : (cutsF rows b i).length / 2 < (cutsF rows b i).length := (List.getElem?_eq_some_iff.mp hc).1
  refine M_set hi ?_
  have e : cutsF rows (loBox b i cut) i = (cutsF rows b i).take ((cutsF rows b i).length / 2) := srt_uniq srt_cutsF (srt_cutsF.sublist (List.take_sublist ..)) fun x => by
    rw [srt_below srt_cutsF hc, mem_cutsF, mem_cutsF]
    unfold loBox
    rw [atB_self (by omega)]
    constructor
    · rintro ⟨r, hr, h1, h2⟩
      have a := in_lo h2
      have z := in_hi h2 _ rfl
      have hcm := (mem_cutsF.mp (List.mem_of_getElem? hc))
      obtain ⟨_, _, _, hci⟩ := hcm
      exact ⟨⟨r, hr, h1, in_mk a fun l el => by have := in_hi hci l el; omega⟩, by omega⟩
    · rintro ⟨⟨r, hr, h1, h2⟩, lt⟩
      exact ⟨r, hr, h1, in_mk (fun l el => in_lo (p := atB b i) h2 l el) fun l el => by cases el; omega⟩
  rw [show b.set i ((atB b i).1, some (cut - 1)) = loBox b i cut from rfl, e, List.length_take, bl_pos (n := (cutsF rows b i).length) (by omega)]
  have := bl_mono (m := min ((cutsF rows b i).length / 2) (cutsF rows b i).length) (n := (cutsF rows b i).length / 2) (by omega)
  omega
theorem M_hi {rows : List Row} {b : Box} {i : Nat} {cut : Int} (hb : b.length = 2) (hi : i < 2) (hc : (cutsF rows b i)[(cutsF rows b i).length / 2]? = some cut) : M rows (hiBox b i cut) + 1 ≤ M rows b := by
  have hl : (cutsF rows b i).length / 2 < (cutsF rows b i).length := (List.getElem?_eq_some_iff.mp hc).1
  refine M_set hi ?_
  have e : cutsF rows (hiBox b i cut) i = (cutsF rows b i).drop ((cutsF rows b i).length / 2 + 1) := srt_uniq srt_cutsF (srt_cutsF.sublist (List.drop_sublist ..)) fun x => by
    rw [srt_above srt_cutsF hc, mem_cutsF, mem_cutsF]
    unfold hiBox
    rw [atB_self (by omega)]
    constructor
    · rintro ⟨r, hr, h1, h2⟩
      have a := in_lo h2 _ rfl
      have z := in_hi h2
      have hcm := (mem_cutsF.mp (List.mem_of_getElem? hc))
      obtain ⟨_, _, _, hci⟩ := hcm
      exact ⟨⟨r, hr, h1, in_mk (fun l el => by have := in_lo hci l el; omega) z⟩, a⟩
    · rintro ⟨⟨r, hr, h1, h2⟩, lt⟩
      exact ⟨r, hr, h1, in_mk (fun l el => by cases el; exact lt) fun l el => in_hi (p := atB b i) h2 l el⟩
  rw [show b.set i (some cut, (atB b i).2) = hiBox b i cut from rfl, e, List.length_drop, bl_pos (n := (cutsF rows b i).length) (by omega)]
  have := bl_mono (m := (cutsF rows b i).length - ((cutsF rows b i).length / 2 + 1)) (n := (cutsF rows b i).length / 2) (by omega)
  omega
theorem node_bel {rows : List Row} {b : Box} {i : Nat} {cut : Int} {l r : Tr} (hi : i < 2) (hc : insideP (atB b i) cut = true) (hl : GoodT (leafR (inBox rows b)) (loBox b i cut) l) (hr : GoodT (leafR (inBox rows b)) (hiBox b i cut) r) : GoodT (leafR rows) b (.bel i cut l r) :=
  ⟨⟨hi, hc⟩, GoodT.imp (top := b) (fun b' ns s h => leafR_up s h) (sub_lo hc) hl, GoodT.imp (top := b) (fun b' ns s h => leafR_up s h) (sub_hi hc) hr⟩
theorem two {α : Type} {l : List α} (h : l.length = 2) : ∃ x y, l = [x, y] := by
  match l, h with
  | [x, y], _ => exact ⟨x, y, rfl⟩
/-! ### events and lots -/
def inSb (s : Sets) (e : List Int) : Bool := (List.zipWith (fun one n => mem n one) s e).all id
theorem inSb_two {x y : List P2} {m n : Int} : inSb [x, y] [m, n] = (mem m x && mem n y) := by
  show (mem m x && (mem n y && true)) = _
  rw [Bool.and_true]
/-- an event of two numbers in a box -/
def InB2 (b : Box) (e : List Int) : Prop := ∃ p q m n, b = [p, q] ∧ e = [m, n] ∧ inB p m = true ∧ inB q n = true
/-- a lot is right for an event -/
def LotOk (lots : List Sets) (ns : List Int) (e : List Int) : Prop := ∀ (i : Nat) (s : Sets), lots[i]? = some s → ((i : Int) ∈ ns ↔ inSb s e = true)
def ixOk : Tr → Prop
  | .lot _ => True
  | .bel i _ l r => i < 2 ∧ ixOk l ∧ ixOk r
theorem GoodT.ix {leaf : Box → List Int → Prop} : ∀ {t : Tr} {b : Box}, GoodT leaf b t → ixOk t
  | .lot _, _, _ => trivial
  | .bel _ _ l r, _, g => ⟨g.1.1, GoodT.ix g.2.1, GoodT.ix g.2.2⟩
/-- each lot has numbers below m, strictly ascending -/
def LotsIn (m : Nat) : Tr → Prop
  | .lot ns => Srt ns ∧ ∀ n ∈ ns, 0 ≤ n ∧ n < m
  | .bel _ _ l r => LotsIn m l ∧ LotsIn m r
theorem LotsIn.at {m : Nat} {e : List Int} : ∀ {t : Tr}, LotsIn m t → Srt (lotAt e t) ∧ ∀ n ∈ lotAt e t, 0 ≤ n ∧ n < m
  | .lot ns, h => h
  | .bel i c l r, h => by
    unfold lotAt
    split
    · exact LotsIn.at h.1
    · exact LotsIn.at h.2
theorem GoodT.lots {leaf : Box → List Int → Prop} {m : Nat} (h : ∀ b ns, leaf b ns → Srt ns ∧ ∀ n ∈ ns, 0 ≤ n ∧ n < m) : ∀ {t : Tr} {b : Box}, GoodT leaf b t → LotsIn m t
  | .lot ns, b, g => h b ns g
  | .bel _ _ l r, _, g => ⟨GoodT.lots h g.2.1, GoodT.lots h g.2.2⟩
/-! the halves of a part -/
def minO (hi : Option Int) (c : Int) : Int := match hi with | none => c | some h => min h c
def maxO (lo : Option Int) (c : Int) : Int := match lo with | none => c | some l => max l c
theorem inB_iff {p : P2} {n : Int} : inB p n = true ↔ (∀ l, p.1 = some l → l ≤ n) ∧ (∀ h, p.2 = some h → n ≤ h) := ⟨fun h => ⟨fun l e => inB_lo h e, fun l e => inB_hi h e⟩, fun h => inB_mk h.1 h.2⟩
theorem inB_below {p : P2} {c n : Int} : inB (p.1, some (minO p.2 (c - 1))) n = true ↔ inB p n = true ∧ n < c := by
  obtain ⟨lo, hi⟩ := p
  rw [inB_iff, inB_iff]
  cases hi with
  | none => simp [minO]; omega
  | some h =>
    simp only [minO, Option.some.injEq, forall_eq']
    constructor
    · rintro ⟨a, b⟩; exact ⟨⟨a, by omega⟩, by omega⟩
    · rintro ⟨⟨a, b⟩, d⟩; exact ⟨a, by omega⟩
theorem inB_above {p : P2} {c n : Int} : inB (some (maxO p.1 c), p.2) n = true ↔ inB p n = true ∧ c ≤ n := by
  obtain ⟨lo, hi⟩ := p
  rw [inB_iff, inB_iff]
  cases lo with
  | none =>
    simp only [maxO, Option.some.injEq, forall_eq']
    constructor
    · rintro ⟨a, b⟩; exact ⟨⟨fun l e => (by cases e), b⟩, a⟩
    · rintro ⟨⟨a, b⟩, d⟩; exact ⟨d, b⟩
  | some l =>
    simp only [maxO, Option.some.injEq, forall_eq']
    constructor
    · rintro ⟨a, b⟩; exact ⟨⟨by omega, b⟩, by omega⟩
    · rintro ⟨⟨a, b⟩, d⟩; exact ⟨by omega, b⟩
end S07

namespace S07
open PySem L2 Y
theorem szl {m : Nat} (h : m ≤ 10000) : m ≤ sizeLine := Nat.le_trans h (by decide)
theorem szl2 {m : Nat} (h : m ≤ 10000) : m < sizeLine := Nat.lt_of_le_of_lt h (by decide)
theorem pu_ii {m n : Int} : Pu 32 (D.int m) ∧ Pu 32 (D.int n) := ⟨by unfold Pu; trivial, by unfold Pu; trivial⟩
structure Ad where
  (k s e w b n p l : Addr)
local macro_rules | `(tactic| walk_at $_:str) => `(tactic| (conv => whnf) <;> repeat' (first
  | (refine And.intro (fun (hc : (_ : Prop)) => ?_) (fun (hc : (_ : Prop)) => ?_) <;> first | exact (d_ni hc).elim | exact (d_nt hc).elim | exact (d_nl hc).elim | exact (d_tc hc).elim | exact (d_lc hc).elim | exact (hc rfl).elim | (conv => whnf))
  | (refine And.intro (by first | exact dr_t rfl | (with_reducible first | exact lz1 | exact lz2 | exact lz3 | exact lz0 | exact lz5 | exact pu_ii | exact lq2 | exact lq1 | exact lq3 | exact lq5 | assumption | exact ⟨puL _, pu_nl⟩ | exact rfl) | (with_reducible first | refine szl ?_ | refine szl2 ?_) <;> (first | omega | (simp only [List.length_append, List.length_map, List.length_cons, List.length_nil, List.length_set]; omega) | (simp only [List.length_append, List.length_map, List.length_cons, List.length_nil, List.length_set]; done)) | fail) ?_ <;> (conv => whnf))
  | fail))

abbrev iD (l : List Int) : D := .lst (l.map D.int)
abbrev itD (l : List Int) : D := .tup (l.map D.int)
abbrev ssD (s : Sets) : D := .tup (s.map sD)
abbrev rowD (r : Row) : D := .tup [.int (r.1 : Nat), ssD r.2]
abbrev rowsD (rows : List Row) : D := .lst (rows.map rowD)
def wWhole : WD := fun ds q => ∃ i : Int, ds = [.int i] ∧ q (.bl true)
def wNumber : WD := fun ds q => ∃ (i lo : Int) (x : Str), ds = [.int i, .int lo, .str x] ∧ lo ≤ i ∧ q .non
def wIsIv : WD := fun ds q => ∃ p : P2, ds = [pD p] ∧ q (.bl true)
def wIsName : WD := fun ds q => ∃ s : Str, ds = [.str s] ∧ (s = "a" ∨ s = "b" ∨ s = "k" ∨ s = "v" ∨ s = "w") ∧ q (.bl true)
def wCuts : WD := fun ds q => ∃ one : List P2, ds = [sD one] ∧ one.length ≤ 20 ∧ q (iD (cutsOf one))
def wWith : WD := fun ds q => ∃ (b : Box) (i : Nat) (p : P2), ds = [sD b, .int (i : Nat), pD p] ∧ b.length = 2 ∧ i < 2 ∧ q (sD (b.set i p))
theorem splitG {α : Type} {f : α → D} {pre post : List α} {d : D} (h : (List.map f (pre ++ post))[pre.length]? = some d) : ∃ x r, post = x :: r ∧ d = f x := by
  rw [List.map_append, List.getElem?_append_right (by rw [List.length_map]; exact Nat.le_refl _), List.length_map, Nat.sub_self] at h
  cases post with
  | nil => cases h
  | cons x r => cases h; exact ⟨x, r, rfl, rfl⟩
theorem endG {α : Type} {f : α → D} {pre post : List α} (h : pre.length = (List.map f (pre ++ post)).length) : post = [] := by
  rw [List.length_map, List.length_append] at h
  cases post with
  | nil => rfl
  | cons x r => simp at h
theorem cuts_app (a b : List P2) : cutsOf (a ++ b) = cutsOf a ++ cutsOf b := List.flatMap_append
theorem cuts_len : ∀ one : List P2, (cutsOf one).length ≤ 2 * one.length
  | [] => Nat.le_refl _
  | p :: r => by
    have h := cuts_len r
    have : (cutsP p).length ≤ 2 := by obtain ⟨lo, hi⟩ := p; cases lo <;> cases hi <;> simp [cutsP]
    show (cutsP p ++ cutsOf r).length ≤ _
    rw [List.length_append, List.length_cons]; omega
def InCu (one : List P2) (i : Nat) (env : List Sl) : Prop := ∃ (pre post : List P2) (x2 x3 : Sl), one = pre ++ post ∧ pre.length = i ∧ env = [.d (sD one), .ol ((cutsOf pre).map D.int), x2, x3]
section
variable {P : Program} {w : World} {K : PySem.W.Frag} {mg : Str → Option Value} {base : Heap} {c : Ad}
theorem sc_is_whole : FnScope ["thing"] ["thing"] (defScope sis_whole) := ⟨rfl, rfl, rfl, by decide +kernel, rfl, by decide +kernel, by decide +kernel⟩
-- slots: 0 thing
theorem ok_is_whole  (T : Txt K mg) (h0 : Here K mg "is_whole" ["thing"] sis_whole)   : Df P w K mg base 1 "is_whole" ["thing"] wWhole := by
  refine df_of h0 sc_is_whole (fun ds q h => by obtain ⟨i, rfl, _⟩ := h; rfl) fun f cdv A outer s H E hr => ⟨_, _,
  (dss_one (ds_ret (de_and (de_isi (K := K) .int (de_var 0) rfl T.isinstance rfl T.int (by with_unfolding_all rfl)) (de_one (de_not (de_isi (K := K) .bool (de_var 0) rfl T.isinstance rfl T.bool (by with_unfolding_all rfl))))))), fun ds q h => ?_⟩
  obtain ⟨i, rfl, hq⟩ := h
  walk_at "x"
  exact hq
theorem sc_is_interval : FnScope ["pair", "end"] ["pair"] (defScope sis_interval) := ⟨rfl, rfl, rfl, by decide +kernel, rfl, by decide +kernel, by decide +kernel⟩
-- slots: 0 pair, 1 end
theorem ok_is_interval  (T : Txt K mg) (h0 : Here K mg "is_interval" ["pair"] sis_interval) (F_is_whole : Df P w K mg base 1 "is_whole" ["thing"] wWhole)  : Df P w K mg base 2 "is_interval" ["pair"] wIsIv := by
  refine df_of h0 sc_is_interval (fun ds q h => by obtain ⟨i, rfl, _⟩ := h; rfl) fun f cdv A outer s H E hr => ⟨_, _,
  (dss_cons (ds_if (DW.dt (dw_or (dt_not (dt_val (de_isi2 .lst .tup (de_var 0) rfl T.isinstance rfl T.list (by with_unfolding_all rfl) rfl T.tuple (by with_unfolding_all rfl) (K := K)))) (dw_or1 (dt_cmp (op_neDK (K := K) hr.units) so_neU (DE.toB (de_cb (call_lenK (K := K)) sc_len rfl T.len (by with_unfolding_all rfl) (dab_cons (db_var 0) dab_nil))) (DE.toB de_int) (nomark _))))) (dss_one (ds_ret de_bl)) dss_nil)
  (dss_one (ds_ret (de_cb (cr_allK (K := K) rfl) sc_all rfl T.all (by with_unfolding_all rfl) (dab_cons (DE.toB (DN.toE (dn_lc (own := [("end", 1)]) rfl sc_is_interval.nd (dib_seq (db_var 0)) (blkOk_by (N := ["pair", "end"]) (sc := defScope sis_interval) (by decide +kernel)) (fun _ _ _ _ _ => (dg_name (i := 1) sc_is_interval.nd rfl (by first | exact Or.inl rfl | exact Or.inr rfl))) (fun _ _ _ _ _ => dts_nil) (fun _ _ _ _ _ => (de_or (de_cmp op_isN so_isN (db_var 1) (DE.toB de_non) (nomark _)) (de_one (de_clK (K := K) F_is_whole (hr.mono (by omega)) rfl (da_cons (de_var 1) da_nil)))))))) dab_nil))))), fun ds q h => ?_⟩
  obtain ⟨⟨lo, hi⟩, rfl, hq⟩ := h
  walk_at "x"
  refine g_lcm (fun d => .bl true) lz2 (fun d L R hm hL hR => ?_) ?_
  · simp only [List.mem_cons, List.not_mem_nil, or_false] at hm
    rcases hm with rfl | rfl
    · cases lo <;> walk_at "x"
      · exact hR
      · exact ⟨_, rfl, hL, hR⟩
    · cases hi <;> walk_at "x"
      · exact hR
      · exact ⟨_, rfl, hL, hR⟩
  · exact g_all (bs := [true, true]) hq
theorem sc_is_name : FnScope ["thing", "sign"] ["thing"] (defScope sis_name) := ⟨rfl, rfl, rfl, by decide +kernel, rfl, by decide +kernel, by decide +kernel⟩
-- slots: 0 thing, 1 sign
theorem ok_is_name  (T : Txt K mg) (h0 : Here K mg "is_name" ["thing"] sis_name)   : Df P w K mg base 1 "is_name" ["thing"] wIsName := by
  obtain ⟨_, _, letters1, letters2, letters3⟩ := T.letters.ex
  refine df_of h0 sc_is_name (fun ds q h => by obtain ⟨i, rfl, _⟩ := h; rfl) fun f cdv A outer s H E hr => ⟨_, _,
  (dss_one (ds_ret (de_and (de_isi (K := K) .str (de_var 0) rfl T.isinstance rfl T.str (by with_unfolding_all rfl)) (de_and (de_chain op_le so_le op_le so_le (DE.toB de_int) (DE.toB (de_cb (call_lenK (K := K)) sc_len rfl T.len (by with_unfolding_all rfl) (dab_cons (db_var 0) dab_nil))) (DE.toB de_int)) (de_one (de_cb (cr_allK (K := K) rfl) sc_all rfl T.all (by with_unfolding_all rfl) (dab_cons (DE.toB (DN.toE (dn_lc (own := [("sign", 1)]) rfl sc_is_name.nd (DI.toB (di_str (de_var 0))) (blkOk_by (N := ["thing", "sign"]) (sc := defScope sis_name) (by decide +kernel)) (fun _ _ _ _ _ => (dg_name (i := 1) sc_is_name.nd rfl (by first | exact Or.inl rfl | exact Or.inr rfl))) (fun _ _ _ _ _ => dts_nil) (fun _ _ _ _ _ => (de_cmp op_in_sign so_inS (db_var 1) (DE.toB (de_glob rfl letters1 letters2 (fun G => letters3 G) (by decide))) (by with_unfolding_all rfl)))))) dab_nil))))))), fun ds q h => ?_⟩
  obtain ⟨s, rfl, hs, hq⟩ := h
  rcases hs with rfl | rfl | rfl | rfl | rfl
  all_goals
    walk_at "x"
    refine ⟨by decide, ?_⟩
    walk_at "x"
    · refine g_lcm (fun d => .bl true) ?hl (fun d L R hm hL hR => ?_) (g_all (bs := [true]) hq)
      case hl => decide
      rw [List.mem_singleton.mp hm]
      walk_at "x"
      have e : ∀ b : Bool, b = true → R (.bl b) := fun b z => z ▸ hR
      exact e _ (by decide +kernel)
    all_goals (exfalso; rename_i hc; revert hc; decide)
theorem sc_cuts_of : FnScope ["one", "found", "low", "high"] ["one"] (defScope scuts_of) := ⟨rfl, rfl, rfl, by decide +kernel, rfl, by decide +kernel, by decide +kernel⟩
-- slots: 0 one, 1 found, 2 low, 3 high
theorem ok_cuts_of  (T : Txt K mg) (h0 : Here K mg "cuts_of" ["one"] scuts_of)   : Df P w K mg base 1 "cuts_of" ["one"] wCuts := by
  refine df_of h0 sc_cuts_of (fun ds q h => by obtain ⟨i, rfl, _⟩ := h; rfl) fun f cdv A outer s H E hr => ⟨_, _,
  (dss_cons (ds_setN (i := 1) sc_cuts_of.nd rfl (by first | exact Or.inl rfl | exact Or.inr rfl) (dn_lst da_nil))
  (dss_cons (ds_for PassesOwn.never rfl (di_seq (de_var 0)) (dg_tupK (K := K) (n := 2) rfl (dgs_cons (dg_name (i := 2) sc_cuts_of.nd rfl (by first | exact Or.inl rfl | exact Or.inr rfl)) (dgs_cons (dg_name (i := 3) sc_cuts_of.nd rfl (by first | exact Or.inl rfl | exact Or.inr rfl)) dgs_nil))) (dss_cons (ds_extend 1 (pe_var rfl (by first | exact Or.inl rfl | exact Or.inr (Or.inl rfl) | exact Or.inr (Or.inr rfl)) (by decide) (by decide)) (de_ifE (dt_cmp op_isN so_isN (db_var 2) (DE.toB de_non) (nomark _)) (DN.toE (dn_lst da_nil)) (DN.toE (dn_lst (da_cons (de_var 2) da_nil)))))
  (dss_one (ds_extend 1 (pe_var rfl (by first | exact Or.inl rfl | exact Or.inr (Or.inl rfl) | exact Or.inr (Or.inr rfl)) (by decide) (by decide)) (de_ifE (dt_cmp op_isN so_isN (db_var 3) (DE.toB de_non) (nomark _)) (DN.toE (dn_lst da_nil)) (DN.toE (dn_lst (da_cons (de_op (op_addUK (K := K)) so_add (db_var 3) (DE.toB de_int)) da_nil))))))))
  (dss_one (ds_retO 1)))), fun ds q h => ?_⟩
  obtain ⟨one, rfl, hl, hq⟩ := h
  walk_at "x"
  refine g_for (InCu one) ⟨[], one, _, _, rfl, rfl, rfl⟩ ?_ ?_
  · rintro i d env' hd ⟨pre, post, x2, x3, e, rfl, rfl⟩
    subst e
    obtain ⟨⟨lo, hi⟩, r, rfl, rfl⟩ := splitG hd
    have hc : (cutsOf pre).length ≤ 40 := by have := cuts_len pre; rw [List.length_append] at hl; omega
    cases lo <;> cases hi <;> walk_at "x"
    all_goals exact ⟨pre ++ [_], r, _, _, by rw [List.append_assoc]; rfl, by rw [List.length_append]; rfl, by rw [cuts_app, List.map_append]; simp [cutsOf, cutsP]; exact ⟨rfl, rfl⟩⟩
  · rintro env' ⟨pre, post, x2, x3, e, hp, rfl⟩
    subst e
    obtain rfl := endG hp
    walk_at "x"
    rw [List.append_nil] at hq
    exact hq
theorem sc_with_pair : FnScope ["box", "at", "pair"] ["box", "at", "pair"] (defScope swith_pair) := ⟨rfl, rfl, rfl, by decide +kernel, rfl, by decide +kernel, by decide +kernel⟩
-- slots: 0 box, 1 at, 2 pair
theorem ok_with_pair  (T : Txt K mg) (h0 : Here K mg "with_pair" ["box", "at", "pair"] swith_pair)   : Df P w K mg base 1 "with_pair" ["box", "at", "pair"] wWith := by
  refine df_of h0 sc_with_pair (fun ds q h => by obtain ⟨b, i, p, rfl, _⟩ := h; rfl) fun f cdv A outer s H E hr => ⟨_, _,
  (dss_one (ds_ret (de_tup (da_star (de_sliceK (K := K) (db_var 0) do_none (do_some (de_var 1))) (da_cons (de_var 2) (da_star (de_sliceK (K := K) (db_var 0) (do_some (de_op (op_addUK (K := K)) so_add (db_var 1) (DE.toB de_int))) do_none) da_nil)))))), fun ds q h => ?_⟩
  obtain ⟨b, i, p, rfl, hb, hi, hq⟩ := h
  obtain ⟨p0, p1, rfl⟩ := two hb
  rcases (by omega : i = 0 ∨ i = 1) with rfl | rfl
  all_goals
    walk_at "x"
    exact ⟨lz2, hq⟩
theorem sc_check_number : FnScope ["number", "low", "word"] ["number", "low", "word"] (defScope scheck_number) := ⟨rfl, rfl, rfl, by decide +kernel, rfl, by decide +kernel, by decide +kernel⟩
-- slots: 0 number, 1 low, 2 word
theorem ok_check_number  (T : Txt K mg) (h0 : Here K mg "check_number" ["number", "low", "word"] scheck_number) (F_is_whole : Df P w K mg base 1 "is_whole" ["thing"] wWhole)  : Df P w K mg base 2 "check_number" ["number", "low", "word"] wNumber := by
  refine df_of h0 sc_check_number (fun ds q h => by obtain ⟨i, lo, x, rfl, _⟩ := h; rfl) fun f cdv A outer s H E hr => ⟨_, _,
  (dss_one (ds_if (DW.dt (dw_or (dt_not (dt_val (de_clK (K := K) F_is_whole (hr.mono (by omega)) rfl (da_cons (de_var 0) da_nil)))) (dw_or1 (dt_cmp op_lt so_lt (db_var 0) (db_var 1) (nomark _))))) (dss_one ds_never) dss_nil)), fun ds q h => ?_⟩
  obtain ⟨i, lo, x, rfl, hl, hq⟩ := h
  walk_at "x"
  refine ⟨i, rfl, ?_⟩
  walk_at "x"
  · exact absurd hl (by have := ‹i < lo›; omega)
  · exact hq
end
end S07

namespace S07
open PySem L2 Y
local macro_rules | `(tactic| walk_at $_:str) => `(tactic| (conv => whnf) <;> repeat' (first
  | (refine And.intro (fun (hc : (_ : Prop)) => ?_) (fun (hc : (_ : Prop)) => ?_) <;> first | exact (d_ni hc).elim | exact (d_nt hc).elim | exact (d_nl hc).elim | exact (d_tc hc).elim | exact (d_lc hc).elim | exact (hc rfl).elim | (conv => whnf))
  | (refine And.intro (by first | exact dr_t rfl | (with_reducible first | exact lz1 | exact lz2 | exact lz3 | exact lz0 | exact lz5 | exact pu_ii | exact lq2 | exact lq1 | exact lq3 | exact lq5 | assumption | exact ⟨puL _, pu_nl⟩ | exact rfl) | (with_reducible first | refine szl ?_ | refine szl2 ?_) <;> (first | omega | (simp only [List.length_append, List.length_map, List.length_cons, List.length_nil, List.length_set]; omega) | (simp only [List.length_append, List.length_map, List.length_cons, List.length_nil, List.length_set]; done)) | fail) ?_ <;> (conv => whnf))
  | fail))

/-! ### a dict as a set of numbers -/
def kdD (ks : List Int) : List (Key × D) := ks.map fun c => (Sum.inl c, .bl true)
def addK (ks : List Int) (c : Int) : List Int := if c ∈ ks then ks else ks ++ [c]
theorem put_kd (ks : List Int) (c : Int) : putD (kdD ks) (Sum.inl c) (.bl true) = kdD (addK ks c) := by
  unfold putD addK kdD
  by_cases h : c ∈ ks
  · rw [if_pos h, if_pos (by rw [List.any_eq_true]; exact ⟨_, List.mem_map.mpr ⟨c, h, rfl⟩, by simp⟩), List.map_map]
    refine List.map_congr_left fun x _ => ?_
    show (if (Sum.inl x : Key) = Sum.inl c then ((Sum.inl x : Key), D.bl true) else (Sum.inl x, .bl true)) = _
    split <;> rfl
  · rw [if_neg h, if_neg (by rw [List.any_eq_true]; rintro ⟨z, hz, e⟩; obtain ⟨y, hy, rfl⟩ := List.mem_map.mp hz; simp at e; exact h (e ▸ hy)), List.map_append]; rfl
theorem mem_addK {ks : List Int} {c x : Int} : x ∈ addK ks c ↔ x ∈ ks ∨ x = c := by
  unfold addK; split
  · rename_i h
    exact ⟨.inl, fun z => z.elim id fun e => e ▸ h⟩
  · rw [List.mem_append, List.mem_singleton]
theorem nd_addK {ks : List Int} {c : Int} (h : ks.Nodup) : (addK ks c).Nodup := by
  unfold addK; split
  · exact h
  · rename_i hc
    rw [List.nodup_append]
    exact ⟨h, by simp, fun a ha b hb e => hc (by rw [List.mem_singleton.mp hb] at e; exact e ▸ ha)⟩
theorem len_addK {ks : List Int} {c : Int} : (addK ks c).length ≤ ks.length + 1 := by
  unfold addK; split
  · omega
  · rw [List.length_append]; exact Nat.le_refl _
theorem int_le (a b : Int) : dLe (.int a) (.int b) = decide (a ≤ b) := by
  unfold dLe
  rw [PySem.W.dataLe_eq]
  show (!PySem.W.dataLt (.int b) (.int a)) = _
  rw [PySem.W.dataLt_int]
  by_cases g : a ≤ b
  · rw [decide_eq_true g, decide_eq_false (by omega)]; rfl
  · rw [decide_eq_false g, decide_eq_true (by omega)]; rfl
theorem sort_ints (ks : List Int) (nd : ks.Nodup) : List.mergeSort (ks.map D.int) dLe = (sortS ks).map D.int := by
  have e : List.mergeSort (ks.map D.int) dLe = (ks.mergeSort (fun a b => decide (a ≤ b))).map D.int := by
    rw [List.map_mergeSort]
    intro a _ b _
    exact (int_le a b).symm
  rw [e]
  congr 1
  have hp := List.mergeSort_perm ks (fun a b => decide (a ≤ b))
  have hs := List.pairwise_mergeSort (le := fun a b : Int => decide (a ≤ b)) (fun a b c h1 h2 => by simp at h1 h2 ⊢; omega) (fun a b => by simp; omega) ks
  refine srt_uniq ?_ srt_sortS fun x => by rw [hp.mem_iff, mem_sortS]
  have hn := hp.nodup_iff.mpr nd
  refine (hs.and hn).imp fun {a b} h => ?_
  have h1 : a ≤ b := of_decide_eq_true h.1
  have h2 := h.2
  omega
theorem ints_ok (ks : List Int) : PySem.W.AllAlike ((ks.map D.int).map D.py) ∧ PySem.W.Sortable ((ks.map D.int).map D.py) ∧ ∀ z ∈ ks.map D.int, Pu 31 z := by
  rw [List.map_map]
  refine ⟨PySem.W.AllAlike.of fun b b' => rfl, PySem.W.Sortable.others fun b => ⟨fun z => (by cases z), fun xs z => (by cases z)⟩, fun z hz => ?_⟩
  obtain ⟨i, _, rfl⟩ := List.mem_map.mp hz
  unfold Pu; trivial
theorem atI_m {α : Type} {f : α → D} {l : List α} {i : Nat} {x : α} (h : l[i]? = some x) : atI (List.map f l) (i : Int) = some (f x) := by
  exact atI_nat (by rw [List.getElem?_map, h]; rfl)
def InIn (rows : List Row) (b : Box) (i : Nat) (n : Nat) (env : List Sl) : Prop := ∃ (pre post : List Row) (ks : List Int) (x6 x7 x8 : Sl), rows = pre ++ post ∧ pre.length = n ∧ ks.Nodup ∧ ks.length ≤ 40 * n ∧ (∀ c, c ∈ ks ↔ c ∈ rawCuts pre b i) ∧
  env = [.d (rowsD rows), .d (sD b), .d (.int (i : Nat)), .d (oD (atB b i).1), .d (oD (atB b i).2), .od (kdD ks), x6, x7, x8]
def InCt (rows : List Row) (b : Box) (i : Nat) (n : Nat) (pre : List Row) (sets : Sets) (m : Nat) (env : List Sl) : Prop := ∃ (p2 q2 : List Int) (ks : List Int) (x6 x8 : Sl), cutsOf (atS sets i) = p2 ++ q2 ∧ p2.length = m ∧ ks.Nodup ∧ ks.length ≤ 40 * n + m ∧ (∀ c, c ∈ ks ↔ c ∈ rawCuts pre b i ∨ (c ∈ p2 ∧ insideP (atB b i) c = true)) ∧
  env = [.d (rowsD rows), .d (sD b), .d (.int (i : Nat)), .d (oD (atB b i).1), .d (oD (atB b i).2), .od (kdD ks), x6, .d (ssD sets), x8]
theorem raw_app (a c : List Row) (b : Box) (i : Nat) : rawCuts (a ++ c) b i = rawCuts a b i ++ rawCuts c b i := List.flatMap_append
theorem raw_one (r : Row) (b : Box) (i : Nat) : rawCuts [r] b i = (cutsOf (atS r.2 i)).filter (insideP (atB b i)) := by unfold rawCuts; simp
def OkRows (rows : List Row) : Prop := rows.length ≤ 20 ∧ ∀ r ∈ rows, NormS r.2
theorem zip_map {s : Sets} {b : Box} : zipD (s.map sD) (b.map pD) = (s.zip b).map fun r => .tup [sD r.1, pD r.2] := by
  induction s generalizing b with
  | nil => cases b <;> rfl
  | cons x r ih => cases b with
    | nil => rfl
    | cons y t => show _ :: zipD _ _ = _ :: _; rw [ih]; rfl
def meetZ (r : List P2 × P2) (y : D) : Prop := ∃ l, y = sD l ∧ Norm l ∧ l.length ≤ r.1.length + [r.2].length + 3 ∧ ∀ n, mem n l = (mem n r.1 && inB r.2 n)
theorem norm_nil {l : List P2} (h : Norm l) : (l = [] ↔ ∀ n, mem n l = false) := by
  constructor
  · rintro rfl n; rfl
  · intro z
    cases l with
    | nil => rfl
    | cons p r => obtain ⟨n, m⟩ := h.wit; rw [z n] at m; cases m
theorem meetZ_nil {r : List P2 × P2} {y : D} (h : meetZ r y) : y = .tup [] ↔ ¬ ∃ n, mem n r.1 = true ∧ inB r.2 n = true := by
  obtain ⟨l, rfl, nl, _, hm⟩ := h
  have e1 : sD l = .tup [] ↔ l = [] := ⟨fun z => by simpa using D.tup.inj z, fun z => by rw [z]; rfl⟩
  rw [e1, norm_nil nl]
  constructor
  · rintro z ⟨n, m1, m2⟩
    have := z n
    rw [hm, m1, m2] at this; cases this
  · intro z n
    rw [hm, Bool.eq_false_iff]
    intro h
    rw [Bool.and_eq_true] at h
    exact z ⟨n, h⟩
theorem pu_AllR {xs : List (List P2 × P2)} {l : List D} (h : AllR meetZ xs l) : Pu 32 (.lst l) := by
  unfold Pu
  induction xs generalizing l with
  | nil => rw [show l = [] from h]; unfold PuL; trivial
  | cons x r ih =>
    obtain ⟨y, l', rfl, ⟨z, rfl, _⟩, h2⟩ := h
    unfold PuL
    exact ⟨by show Pu 31 (.tup (z.map pD)); unfold Pu; exact PuL.map fun p _ => puP p 29, ih h2⟩
theorem mem_zip3 {s : Sets} {b : Box} {x : List P2 × P2} : x ∈ s.zip b ↔ ∃ i : Nat, s[i]? = some x.1 ∧ b[i]? = some x.2 := by
  rw [List.mem_iff_getElem?]
  refine exists_congr fun i => ?_
  rw [List.getElem?_zip_eq_some]
theorem meets_iff {s : Sets} {b : Box} {l : List D} (hs : s.length = 2) (hb : b.length = 2) (h : AllR meetZ (s.zip b) l) : Meets b s ↔ .tup [] ∉ l := by
  constructor
  · intro m hmem
    obtain ⟨x, hx, hz⟩ := h.mem hmem
    obtain ⟨i, h1, h2⟩ := mem_zip3.mp hx
    exact (meetZ_nil hz).mp rfl (m i _ _ h1 h2)
  · intro hno i one p h1 h2
    obtain ⟨y, hy, hz⟩ := h.mem' (x := (one, p)) (mem_zip3.mpr ⟨i, h1, h2⟩)
    by_cases z : ∃ n, mem n one = true ∧ inB p n = true
    · exact z
    · exact absurd ((meetZ_nil hz).mpr z ▸ hy) hno
def OkIn (b : Box) (s : Sets) : Prop := NormS s ∧ OkBox b
def wWithin : WD := fun ds q => ∃ (rows : List Row) (b : Box), ds = [rowsD rows, sD b] ∧ OkBox b ∧ OkRows rows ∧ q (rowsD (inBox rows b))
def wInner : WD := fun ds q => ∃ (rows : List Row) (b : Box) (i : Nat), ds = [rowsD rows, sD b, .int (i : Nat)] ∧ b.length = 2 ∧ i < 2 ∧ OkRows rows ∧ q (iD (cutsF rows b i))
section
variable {P : Program} {w : World} {K : PySem.W.Frag} {mg : Str → Option Value} {base : Heap} {c : Ad}
theorem sc_inner_cuts : FnScope ["rows", "box", "at", "low", "high", "found", "number", "sets", "cut"] ["rows", "box", "at"] (defScope sinner_cuts) := ⟨rfl, rfl, rfl, by decide +kernel, rfl, by decide +kernel, by decide +kernel⟩
-- slots: 0 rows, 1 box, 2 at, 3 low, 4 high, 5 found, 6 number, 7 sets, 8 cut
theorem ok_inner_cuts  (T : Txt K mg) (h0 : Here K mg "inner_cuts" ["rows", "box", "at"] sinner_cuts) (F_cuts_of : Df P w K mg base 1 "cuts_of" ["one"] wCuts)  : Df P w K mg base 2 "inner_cuts" ["rows", "box", "at"] wInner := by
  refine df_of h0 sc_inner_cuts (fun ds q h => by obtain ⟨rows, b, i, rfl, _⟩ := h; rfl) fun f cdv A outer s H E hr => ⟨_, _,
  (dss_cons (ds_asg (de_ixK (K := K) (db_var 1) (db_var 2) (fun _ _ => rfl)) (dg_tupK (K := K) (n := 2) rfl (dgs_cons (dg_name (i := 3) sc_inner_cuts.nd rfl (by first | exact Or.inl rfl | exact Or.inr rfl)) (dgs_cons (dg_name (i := 4) sc_inner_cuts.nd rfl (by first | exact Or.inl rfl | exact Or.inr rfl)) dgs_nil))))
  (dss_cons (ds_setM (i := 5) sc_inner_cuts.nd rfl (by first | exact Or.inl rfl | exact Or.inr rfl) dm_new)
  (dss_cons (ds_for PassesOwn.never rfl (di_seq (de_var 0)) (dg_tupK (K := K) (n := 2) rfl (dgs_cons (dg_name (i := 6) sc_inner_cuts.nd rfl (by first | exact Or.inl rfl | exact Or.inr rfl)) (dgs_cons (dg_name (i := 7) sc_inner_cuts.nd rfl (by first | exact Or.inl rfl | exact Or.inr rfl)) dgs_nil))) (dss_one (ds_for PassesOwn.never rfl (di_seq (de_clK (K := K) F_cuts_of (hr.mono (by omega)) rfl (da_cons (de_ixK (K := K) (db_var 7) (db_var 2) (fun _ _ => rfl)) da_nil))) (dg_name (i := 8) sc_inner_cuts.nd rfl (by first | exact Or.inl rfl | exact Or.inr rfl)) (dss_one (ds_if (DW.dt (dw_and (DW.dt (dw_or (dt_cmp op_isN so_isN (db_var 3) (DE.toB de_non) (nomark _)) (dw_or1 (dt_cmp op_gt so_gt (db_var 8) (db_var 3) (nomark _))))) (dw_and1 (DW.dt (dw_or (dt_cmp op_isN so_isN (db_var 4) (DE.toB de_non) (nomark _)) (dw_or1 (dt_cmp op_le so_le (db_var 8) (db_var 4) (nomark _)))))))) (dss_one (ds_dput 5 hr.units (pe_var rfl (by first | exact Or.inl rfl | exact Or.inr (Or.inl rfl) | exact Or.inr (Or.inr rfl)) (by decide) (by decide)) (de_var 8) de_bl)) dss_nil)))))
  (dss_one (ds_ret (DN.toE (dn_sortD hr.units rfl T.sorted (DN.toE (dn_listD rfl rfl T.list (db_var 5)))))))))), fun ds q h => ?_⟩
  obtain ⟨rows, b, i, rfl, hb, hi, ok, hq⟩ := h
  walk_at "x"
  rw [atI_m (atB_some (by omega))]
  generalize hp : atB b i = p
  obtain ⟨lo, hi'⟩ := p
  walk_at "x"
  refine g_for (InIn rows b i) ⟨[], rows, [], _, _, _, rfl, rfl, List.nodup_nil, Nat.le_refl _, fun c => Iff.rfl, by rw [hp]; rfl⟩ ?_ ?_
  · rintro n d env' hd ⟨pre, post, ks, x6, x7, x8, e, rfl, nd, hk, hm, rfl⟩
    subst e
    obtain ⟨⟨num, sets⟩, r, rfl, rfl⟩ := splitG hd
    have hns := ok.2 (num, sets) (List.mem_append_right _ List.mem_cons_self)
    have hsi := atS_some (b := sets) (i := i) (by rw [hns.1]; exact hi)
    have hl20 := (hns.2 _ (List.mem_of_getElem? hsi)).2
    have hlc := cuts_len (atS sets i)
    have hlc0 := cuts_len (atS sets i)
    have hpl : pre.length ≤ 20 := by have := ok.1; rw [List.length_append] at this; omega
    rw [hp]
    walk_at "x"
    rw [atI_m hsi]
    refine ⟨atS sets i, rfl, hl20, ?_⟩
    walk_at "x"
    refine g_for (InCt (pre ++ (num, sets) :: r) b i pre.length pre sets) ⟨[], _, ks, _, _, rfl, rfl, nd, hk, fun c => (hm c).trans ⟨.inl, fun z => z.elim id fun z => absurd z.1 (by simp)⟩, by rw [hp]; rfl⟩ ?_ ?_
    · rintro m d env' hd ⟨p2, q2, ks2, y6, y8, e2, rfl, nd2, hk2, hm2, rfl⟩
      rw [e2] at hd hlc
      obtain ⟨c, r2, rfl, rfl⟩ := splitG hd
      have hkd : (kdD ks2).length ≤ 2000 := by
        unfold kdD
        rw [List.length_map]
        rw [List.length_append, List.length_cons] at hlc
        omega
      have stepY : insideP (lo, hi') c = true → InCt (pre ++ (num, sets) :: r) b i pre.length pre sets (p2.length + 1) [.d (rowsD (pre ++ (num, sets) :: r)), .d (sD b), .d (.int (i : Nat)), .d (oD lo), .d (oD hi'), .od (putD (kdD ks2) (Sum.inl c) (.bl true)), y6, .d (ssD sets), .d (.int c)] := fun hin =>
        ⟨p2 ++ [c], r2, addK ks2 c, y6, _, by rw [e2, List.append_assoc]; rfl, by rw [List.length_append]; rfl, nd_addK nd2, by have := len_addK (ks := ks2) (c := c); omega, fun x => by
          rw [mem_addK, hm2, List.mem_append, List.mem_singleton, hp, or_assoc]
          refine or_congr Iff.rfl ⟨fun z => ?_, fun z => ?_⟩
          · rcases z with z | rfl
            · exact ⟨.inl z.1, z.2⟩
            · exact ⟨.inr rfl, hin⟩
          · rcases z.1 with z1 | rfl
            · exact .inl ⟨z1, z.2⟩
            · exact .inr rfl, by rw [put_kd, hp]⟩
      have stepN : ¬ insideP (lo, hi') c = true → InCt (pre ++ (num, sets) :: r) b i pre.length pre sets (p2.length + 1) [.d (rowsD (pre ++ (num, sets) :: r)), .d (sD b), .d (.int (i : Nat)), .d (oD lo), .d (oD hi'), .od (kdD ks2), y6, .d (ssD sets), .d (.int c)] := fun hin =>
        ⟨p2 ++ [c], r2, ks2, y6, _, by rw [e2, List.append_assoc]; rfl, by rw [List.length_append]; rfl, nd2, by omega, fun x => by
          rw [hm2, List.mem_append, List.mem_singleton, hp]
          refine or_congr Iff.rfl ⟨fun z => ⟨.inl z.1, z.2⟩, fun z => ?_⟩
          rcases z.1 with z1 | rfl
          · exact ⟨z1, z.2⟩
          · exact absurd z.2 hin, by rw [hp]⟩
      rw [hp]
      cases lo <;> cases hi' <;> walk_at "x"
      all_goals first
        | exact stepY (in_mk (by intro l e; cases e <;> omega) (by intro l e; cases e <;> omega))
        | exact stepN (by intro h; first | (have := in_lo h _ rfl; omega) | (have := in_hi h _ rfl; omega))
    · rintro env' ⟨p2, q2, ks2, y6, y8, e2, hlen, nd2, hk2, hm2, rfl⟩
      rw [e2] at hlen hlc
      obtain rfl := endG hlen
      rw [List.append_nil] at e2 hlc
      exact ⟨pre ++ [(num, sets)], r, ks2, _, _, _, by rw [List.append_assoc]; rfl, by rw [List.length_append]; rfl, nd2, by rw [List.length_map] at hk2; omega, fun c => by
        rw [hm2, raw_app, raw_one, List.mem_append, List.mem_filter, e2], rfl⟩
  · rintro env' ⟨pre, post, ks, x6, x7, x8, e, hlen, nd, hk, hm, rfl⟩
    subst e
    obtain rfl := endG hlen
    walk_at "x"
    rw [show List.map (fun kv => kD kv.fst) (kdD ks) = ks.map D.int from by unfold kdD; rw [List.map_map]; rfl, sort_ints ks nd]
    rw [List.append_nil] at hq
    have e : sortS ks = cutsF pre b i := srt_uniq srt_sortS srt_sortS fun x => by show _ ↔ x ∈ sortS (rawCuts pre b i); rw [mem_sortS, mem_sortS, hm]
    rw [e]
    exact ⟨ints_ok ks, hq⟩
theorem sc_rows_within : FnScope ["rows", "box", "row", "one", "pair"] ["rows", "box"] (defScope srows_within) := ⟨rfl, rfl, rfl, by decide +kernel, rfl, by decide +kernel, by decide +kernel⟩
-- slots: 0 rows, 1 box, 2 row, 3 one, 4 pair
theorem ok_rows_within  (T : Txt K mg) (h0 : Here K mg "rows_within" ["rows", "box"] srows_within) (F_meet : Df P w K mg base 3 "meet" ["one", "other"] wMeet)  : Df P w K mg base 4 "rows_within" ["rows", "box"] wWithin := by
  obtain ⟨_, _, nothing1, nothing2, nothing3⟩ := T.nothing.ex
  refine df_of h0 sc_rows_within (fun ds q h => by obtain ⟨rows, b, rfl, _⟩ := h; rfl) fun f cdv A outer s H E hr => ⟨_, _,
  (dss_one (ds_ret (DN.toE (dn_lc (own := [("row", 2)]) rfl sc_rows_within.nd (dib_seq (db_var 0)) (blkOk_by (N := ["rows", "box", "row", "one", "pair"]) (sc := defScope srows_within) (by decide +kernel)) (fun _ _ _ _ _ => (dg_name (i := 2) sc_rows_within.nd rfl (by first | exact Or.inl rfl | exact Or.inr rfl))) (fun _ _ _ _ _ => (dts_one (dt_cmp (op_notInDK (K := K) (u65 hr)) so_notInD (DE.toB (de_glob rfl nothing1 nothing2 (fun G => nothing3 G) (by decide))) (DE.toB (DN.toE (dn_lc (own := [("one", 3), ("pair", 4)]) rfl sc_rows_within.nd (DI.toB (di_zipK (K := K) rfl T.zip (da_cons (de_ixK (K := K) (db_var 2) (DE.toB de_int) (fun _ _ => rfl)) (da_cons (de_var 1) da_nil)))) (blkOk_by (N := ["rows", "box", "row", "one", "pair"]) (sc := _) (by with_unfolding_all rfl)) (fun _ _ _ _ _ => (dg_tupK (K := K) (n := 2) rfl (dgs_cons (dg_name (i := 3) sc_rows_within.nd rfl (by first | exact Or.inl rfl | exact Or.inr rfl)) (dgs_cons (dg_name (i := 4) sc_rows_within.nd rfl (by first | exact Or.inl rfl | exact Or.inr rfl)) dgs_nil)))) (fun _ _ _ _ _ => dts_nil) (fun _ _ _ _ _ => (de_clK (K := K) F_meet (hr.mono (by omega)) rfl (da_cons (de_var 3) (da_cons (de_tup (da_cons (de_var 4) da_nil)) da_nil))))))) (by with_unfolding_all rfl)))) (fun _ _ _ _ _ => (de_var 2)))))), fun ds q h => ?_⟩
  obtain ⟨rows, b, rfl, hb, ok, hq⟩ := h
  walk_at "x"
  refine g_lcR (meetsB b) rowD (szl (by have := ok.1; omega)) (fun r hr L n R hL hR hn => ?_) ?_
  · obtain ⟨num, s⟩ := r
    have hs := ok.2 _ hr
    walk_at "x"
    rw [zip_map]
    refine g_lcT meetZ (szl (by rw [List.length_zip, hs.1, hb.1]; decide)) (fun r hr2 L R hL hR => ?_) fun l hl => ?_
    · obtain ⟨one, p⟩ := r
      obtain ⟨h1, h2⟩ := List.of_mem_zip hr2
      walk_at "x"
      refine ⟨one, [p], rfl, (hs.2 one h1).1, hb.2 p h2, by have := (hs.2 one h1).2; simp only [List.length_cons, List.length_nil]; omega, fun r nr mr lr => ⟨hL, hR _ ⟨r, rfl, nr, lr, fun n => by rw [mr, mem_one]⟩⟩⟩
    · have hpu : Pu 32 (.tup []) ∧ Pu 32 (.lst l) := ⟨pu_nt, pu_AllR hl⟩
      have hiff := meets_iff hs.1 hb.1 hl
      walk_at "x"
      · exact hn (Bool.eq_false_iff.mpr fun z => hiff.mp (meetsB_iff.mp z) ‹_›)
      · exact hR (meetsB_iff.mpr (hiff.mpr ‹_›))
  · exact hq
end
end S07

namespace S07
open PySem L2 Y
local macro_rules | `(tactic| walk_at $_:str) => `(tactic| (conv => whnf) <;> repeat' (first
  | (refine And.intro (fun (hc : (_ : Prop)) => ?_) (fun (hc : (_ : Prop)) => ?_) <;> first | exact (d_ni hc).elim | exact (d_nt hc).elim | exact (d_nl hc).elim | exact (d_tc hc).elim | exact (d_lc hc).elim | exact (hc rfl).elim | (conv => whnf))
  | (refine And.intro (by first | exact dr_t rfl | (with_reducible first | exact lz1 | exact lz2 | exact lz3 | exact lz0 | exact lz5 | exact pu_ii | exact lq2 | exact lq1 | exact lq3 | exact lq5 | assumption | exact ⟨puL _, pu_nl⟩ | exact rfl) | (with_reducible first | refine szl ?_ | refine szl2 ?_) <;> (first | omega | (simp only [List.length_append, List.length_map, List.length_cons, List.length_nil, List.length_set]; omega) | (simp only [List.length_append, List.length_map, List.length_cons, List.length_nil, List.length_set]; done)) | fail) ?_ <;> (conv => whnf))
  | fail))

/-! ### kinds, sides, queries as data -/
def knd : Bool → Str
  | false => "a" | true => "b"
def nm1 : Bool → Str
  | false => "v" | true => "w"
abbrev namesD (κ : Bool) : D := .tupc [.str "k", .str (nm1 κ)]
abbrev fldD : List (Key × D) := [(.inr "a", .tupc [.str "k", .str "v"]), (.inr "b", .tupc [.str "k", .str "w"])]
abbrev kindsD (c : Ad) : D := .ins c.k [("fields", .dct fldD)]
abbrev setsK (κ : Bool) (s : Sets) : List (Key × D) := [(.inr "k", sD (atS s 0)), (.inr (nm1 κ), sD (atS s 1))]
abbrev sideD (c : Ad) (κ : Bool) (s : Sets) : D := .ins c.s [("kinds", kindsD c), ("kind", .str (knd κ)), ("sets", .dct (setsK κ s))]
inductive Qr where
  | each (s : Sets) (t : D) | win (s : Sets) (b l st ws : D) | blk (s : Sets) (b sz ws : D) | ses (s : Sets) (b g ws : D)
  | prs (s t : Sets) (k1 k2 m r t1 t2 : D) | lon (s t : Sets) (k1 k2 r t1 : D)
def queryD (c : Ad) : Qr → D
  | .each s t => .ins c.e [("side", sideD c false s), ("told", t)]
  | .win s b l st ws => .ins c.w [("side", sideD c false s), ("by", b), ("length", l), ("step", st), ("worths", ws)]
  | .blk s b sz ws => .ins c.b [("side", sideD c false s), ("by", b), ("size", sz), ("worths", ws)]
  | .ses s b g ws => .ins c.n [("side", sideD c false s), ("by", b), ("gap", g), ("worths", ws)]
  | .prs s t k1 k2 m r t1 t2 => .ins c.p [("first", sideD c false s), ("second", sideD c true t), ("first_keys", k1), ("second_keys", k2), ("mode", m), ("reach", r), ("first_told", t1), ("second_told", t2)]
  | .lon s t k1 k2 r t1 => .ins c.l [("first", sideD c false s), ("second", sideD c true t), ("first_keys", k1), ("second_keys", k2), ("reach", r), ("told", t1)]
abbrev sideT (κ : Bool) (s : Sets) : D := .tup [.str (knd κ), ssD s]
/-- the attributes that are put together by + are tuples -/
def formD : Qr → D
  | .each s t => .tup [.str "each", sideT false s, t]
  | .win s b l st ws => .tup [.str "windows", sideT false s, b, l, st, ws]
  | .blk s b sz ws => .tup [.str "blocks", sideT false s, b, sz, ws]
  | .ses s b g ws => .tup [.str "sessions", sideT false s, b, g, ws]
  | .prs s t k1 k2 m r t1 t2 => .tup ([.str "pairs", sideT false s, sideT true t, k1, k2] ++ [m, r, t1, t2])
  | .lon s t k1 k2 r t1 => .tup ([.str "lonely", sideT false s, sideT true t, k1, k2] ++ [r, t1])
def tagQ : Qr → Nat
  | .each .. => 0 | .win .. => 1 | .blk .. => 2 | .ses .. => 3 | .prs .. => 4 | .lon .. => 5
def EmpS : Sets := [[], []]
/-- the sets of a query for a kind -/
def lk : Bool → Qr → Sets
  | false, .each s _ => s | false, .win s .. => s | false, .blk s .. => s | false, .ses s .. => s | false, .prs s .. => s | false, .lon s .. => s
  | true, .prs _ t .. => t | true, .lon _ t .. => t
  | true, _ => EmpS
def OkQ (q : Qr) : Prop := NormS (lk false q) ∧ NormS (lk true q)
def sidesD (c : Ad) : Qr → List D
  | .prs s t .. => [sideD c false s, sideD c true t] | .lon s t .. => [sideD c false s, sideD c true t]
  | q => [sideD c false (lk false q)]
abbrev evD (κ : Str) (e : List Int) : D := .tup (.str κ :: .int 0 :: .int 0 :: e.map D.int)
structure Cl (K : PySem.W.Frag) (c : Ad) : Prop where
  a0 : AtOk K c.k "fields"
  a1 : AtOk K c.s "kinds"
  a2 : AtOk K c.s "kind"
  a3 : AtOk K c.s "sets"
  a4 : AtOk K c.e "side"
  a5 : AtOk K c.e "told"
  a6 : AtOk K c.w "side"
  a7 : AtOk K c.w "by"
  a8 : AtOk K c.w "length"
  a9 : AtOk K c.w "step"
  a10 : AtOk K c.w "worths"
  a11 : AtOk K c.b "side"
  a12 : AtOk K c.b "by"
  a13 : AtOk K c.b "size"
  a14 : AtOk K c.b "worths"
  a15 : AtOk K c.n "side"
  a16 : AtOk K c.n "by"
  a17 : AtOk K c.n "gap"
  a18 : AtOk K c.n "worths"
  a19 : AtOk K c.p "first"
  a20 : AtOk K c.p "second"
  a21 : AtOk K c.p "first_keys"
  a22 : AtOk K c.p "second_keys"
  a23 : AtOk K c.p "mode"
  a24 : AtOk K c.p "reach"
  a25 : AtOk K c.p "first_told"
  a26 : AtOk K c.p "second_told"
  a27 : AtOk K c.l "first"
  a28 : AtOk K c.l "second"
  a29 : AtOk K c.l "first_keys"
  a30 : AtOk K c.l "second_keys"
  a31 : AtOk K c.l "reach"
  a32 : AtOk K c.l "told"
def wTold (c : Ad) : WD := fun ds q => ∃ (κ : Bool) (s : Sets), ds = [sideD c κ s] ∧ s.length = 2 ∧ q (sideT κ s)
def emptyS (s : Sets) : Bool := s.any fun one => one.isEmpty
def wSEmpty (c : Ad) : WD := fun ds q => ∃ (κ : Bool) (s : Sets), ds = [sideD c κ s] ∧ s.length = 2 ∧ q (.bl (emptyS s))
def wLets (c : Ad) : WD := fun ds q => ∃ (κ κ' : Bool) (s : Sets) (e : List Int), ds = [sideD c κ s, evD (knd κ') e] ∧ NormS s ∧ e.length = 2 ∧ (κ = κ' → q (.bl (inSb s e))) ∧ (κ ≠ κ' → q (.bl false))
def wForm (c : Ad) (i : Nat) : WD := fun ds q => ∃ Q : Qr, ds = [queryD c Q] ∧ tagQ Q = i ∧ OkQ Q ∧ q (formD Q)
def wSeen (c : Ad) : WD := fun ds q => ∃ (Q : Qr) (κ : Bool) (e : List Int), ds = [queryD c Q, evD (knd κ) e] ∧ OkQ Q ∧ e.length = 2 ∧ q (.bl (inSb (lk κ Q) e))
def wSides (c : Ad) : WD := fun ds q => ∃ Q : Qr, ds = [queryD c Q] ∧ OkQ Q ∧ q (.lst (sidesD c Q))
def wBox (c : Ad) : WD := fun ds q => ∃ κ : Bool, ds = [kindsD c, .str (knd κ)] ∧ q (sD [(none, none), (none, none)])
def wIsEv (c : Ad) : WD := fun ds q => ∃ (κ : Bool) (e : List Int), ds = [kindsD c, evD (knd κ) e] ∧ e.length = 2 ∧ q (.bl true)
inductive Nm where
  | time | id | k | v
def nameS (κ : Bool) : Nm → Str
  | .time => "time" | .id => "id" | .k => "k" | .v => nm1 κ
def placeI : Nm → Int
  | .time => 1 | .id => 2 | .k => 3 | .v => 4
abbrev nmD (κ : Bool) (n : Nm) : D := .str (nameS κ n)
abbrev plD (n : Nm) : D := .int (placeI n)
def fld : Nm → Bool
  | .k => true | .v => true | _ => false
def wPlace (c : Ad) : WD := fun ds q => ∃ (κ : Bool) (n : Nm), ds = [kindsD c, .str (knd κ), nmD κ n] ∧ q (plD n)
def wPlaces (c : Ad) : WD := fun ds q => ∃ (κ : Bool) (s : Sets) (ns : List Nm) (x : D) (own : Bool), ds = [sideD c κ s, x, .bl own] ∧ (x = .lst (ns.map (nmD κ)) ∨ x = .tup (ns.map (nmD κ))) ∧ ns.length ≤ 100 ∧ (own = false → ∀ n ∈ ns, fld n = true) ∧ q (.tup (ns.map plD))
theorem q_no {x : Str} (h1 : x ≠ "pairs") (h2 : x ≠ "lonely") : D.str x ∉ [D.str "pairs", D.str "lonely"] := fun h => by
  rcases List.mem_cons.mp h with h | h
  · exact absurd (D.str.inj h) h1
  · exact absurd (D.str.inj (List.mem_singleton.mp h)) h2
theorem q_fl (x : Str) : Flat (D.str x) ∧ ∀ x ∈ [D.str "pairs", D.str "lonely"], Flat x := ⟨trivial, fun x h => by
  rcases List.mem_cons.mp h with rfl | h
  · trivial
  · rw [List.mem_singleton.mp h]; trivial⟩
theorem own_fl (s : Str) : Flat (D.str s) ∧ ∀ x ∈ [D.str "time", D.str "id"], Flat x := ⟨trivial, fun x h => by
  rcases List.mem_cons.mp h with rfl | h
  · trivial
  · rw [List.mem_singleton.mp h]; trivial⟩
theorem two_fl (s a b : Str) : Flat (D.str s) ∧ ∀ x ∈ [D.str a, D.str b], Flat x := ⟨trivial, fun x h => by
  rcases List.mem_cons.mp h with rfl | h
  · trivial
  · rw [List.mem_singleton.mp h]; trivial⟩
theorem own_no {s : Str} (h : s = "k" ∨ s = "v" ∨ s = "w") : D.str s ∉ [D.str "time", D.str "id"] := fun hm => by
  rcases List.mem_cons.mp hm with e | e
  · have e := D.str.inj e; rcases h with rfl | rfl | rfl <;> exact absurd e (by decide)
  · have e := D.str.inj (List.mem_singleton.mp e); rcases h with rfl | rfl | rfl <;> exact absurd e (by decide)
theorem empty_iff {s : Sets} : D.tup [] ∈ s.map sD ↔ emptyS s = true := by
  unfold emptyS
  rw [List.any_eq_true, List.mem_map]
  refine exists_congr fun one => and_congr Iff.rfl ⟨fun h => ?_, fun h => ?_⟩
  · have := D.tup.inj h
    rw [List.map_eq_nil_iff] at this; rw [this]; rfl
  · rw [List.isEmpty_iff] at h; rw [h]; rfl
theorem pu_sets {s : Sets} : Pu 32 (.tup []) ∧ Pu 32 (.lst (s.map sD)) := ⟨pu_nt, by
  unfold Pu
  exact PuL.map fun one _ => by show Pu 31 (.tup (one.map pD)); unfold Pu; exact PuL.map fun p _ => puP p 29⟩
theorem norm_emp : NormS EmpS := ⟨rfl, fun one ho => by
  simp only [EmpS, List.mem_cons, List.not_mem_nil, or_false, or_self] at ho
  subst ho; exact ⟨trivial, by decide⟩⟩
section
variable {P : Program} {w : World} {K : PySem.W.Frag} {mg : Str → Option Value} {base : Heap} {c : Ad}
theorem sc_Side_told : FnScope ["self", "name"] ["self"] (defScope sSide_told) := ⟨rfl, rfl, rfl, by decide +kernel, rfl, by decide +kernel, by decide +kernel⟩
-- slots: 0 self, 1 name
theorem ok_Side_told (L : Cl K c) (T : Txt K mg) (h0 : HereM K c.s "told" "Side.told" ["self"] sSide_told)   : Dm P w K mg base 1 c.s "told" ["self"] (wTold c) := by
  refine dm_of h0 sc_Side_told (fun ds q h => by obtain ⟨κ, s, rfl, _⟩ := h; rfl) fun f cdv A outer s H E hr => ⟨_, _,
  (dss_one (ds_ret (de_tup (da_cons (de_attr (K := K) (de_var 0)) (da_cons (de_ty (call_tupleK (K := K)) sc_tuple rfl T.tuple (by with_unfolding_all rfl) (dab_cons (DE.toB (DN.toE (dn_lc (own := [("name", 1)]) rfl sc_Side_told.nd (DI.toB (di_seq (de_wk (de_dget hr.units (DE.toB (de_attr (K := K) (de_attr (K := K) (de_var 0)))) (de_attr (K := K) (de_var 0)))))) (blkOk_by (N := ["self", "name"]) (sc := defScope sSide_told) (by decide +kernel)) (fun _ _ _ _ _ => (dg_name (i := 1) sc_Side_told.nd rfl (by first | exact Or.inl rfl | exact Or.inr rfl))) (fun _ _ _ _ _ => dts_nil) (fun _ _ _ _ _ => (de_dget hr.units (DE.toB (de_attr (K := K) (de_var 0))) (de_var 1)))))) dab_nil)) da_nil))))), fun ds q h => ?_⟩
  obtain ⟨a0, a1, a2, a3, a4, a5, a6, a7, a8, a9, a10, a11, a12, a13, a14, a15, a16, a17, a18, a19, a20, a21, a22, a23, a24, a25, a26, a27, a28, a29, a30, a31, a32⟩ := L
  obtain ⟨κ, s, rfl, hs, hq⟩ := h
  obtain ⟨x, y, rfl⟩ := two hs
  cases κ
  · walk_at "x"
    refine g_lcT (α := Str × List P2) (f := fun r => .str r.1) (rows := [("k", x), ("v", y)]) (fun r d => d = sD r.2) (szl (show (2 : Nat) ≤ 10000 by decide)) (fun r hr L R hL hR => ?_) fun l hl => ?_
    · simp only [List.mem_cons, List.not_mem_nil, or_false] at hr
      rcases hr with rfl | rfl
      all_goals
        walk_at "x"
        exact hR _ rfl
    · have e := hl.map (g := fun r => sD r.2) fun _ _ h => h
      subst e
      walk_at "x"
      exact hq
  · walk_at "x"
    refine g_lcT (α := Str × List P2) (f := fun r => .str r.1) (rows := [("k", x), ("w", y)]) (fun r d => d = sD r.2) (szl (show (2 : Nat) ≤ 10000 by decide)) (fun r hr L R hL hR => ?_) fun l hl => ?_
    · simp only [List.mem_cons, List.not_mem_nil, or_false] at hr
      rcases hr with rfl | rfl
      all_goals
        walk_at "x"
        exact hR _ rfl
    · have e := hl.map (g := fun r => sD r.2) fun _ _ h => h
      subst e
      walk_at "x"
      exact hq
theorem sc_Side_is_empty : FnScope ["self"] ["self"] (defScope sSide_is_empty) := ⟨rfl, rfl, rfl, by decide +kernel, rfl, by decide +kernel, by decide +kernel⟩
-- slots: 0 self
theorem ok_Side_is_empty (L : Cl K c) (T : Txt K mg) (h0 : HereM K c.s "is_empty" "Side.is_empty" ["self"] sSide_is_empty)   : Dm P w K mg base 1 c.s "is_empty" ["self"] (wSEmpty c) := by
  obtain ⟨_, _, nothing1, nothing2, nothing3⟩ := T.nothing.ex
  refine dm_of h0 sc_Side_is_empty (fun ds q h => by obtain ⟨κ, s, rfl, _⟩ := h; rfl) fun f cdv A outer s H E hr => ⟨_, _,
  (dss_one (ds_ret (de_cmp (op_inDK (K := K) (u65 hr)) so_inD (DE.toB (de_glob rfl nothing1 nothing2 (fun G => nothing3 G) (by decide))) (DE.toB (DN.toE (dn_vals rfl rfl T.list (DE.toB (de_attr (K := K) (de_var 0)))))) (by with_unfolding_all rfl)))), fun ds q h => ?_⟩
  obtain ⟨a0, a1, a2, a3, a4, a5, a6, a7, a8, a9, a10, a11, a12, a13, a14, a15, a16, a17, a18, a19, a20, a21, a22, a23, a24, a25, a26, a27, a28, a29, a30, a31, a32⟩ := L
  obtain ⟨κ, s, rfl, hs, hq⟩ := h
  obtain ⟨x, y, rfl⟩ := two hs
  walk_at "x"
  refine ⟨pu_sets (s := [x, y]), fun h => ?_, fun h => ?_⟩
  · have e := (empty_iff (s := [x, y])).mp h
    rw [e] at hq; exact hq
  · have e := mt (empty_iff (s := [x, y])).mpr h
    rw [Bool.eq_false_iff.mpr e] at hq; exact hq
theorem sc_Side_lets : FnScope ["self", "event", "names", "name", "number"] ["self", "event"] (defScope sSide_lets) := ⟨rfl, rfl, rfl, by decide +kernel, rfl, by decide +kernel, by decide +kernel⟩
-- slots: 0 self, 1 event, 2 names, 3 name, 4 number
theorem ok_Side_lets (L : Cl K c) (T : Txt K mg) (h0 : HereM K c.s "lets" "Side.lets" ["self", "event"] sSide_lets) (F_has : Df P w K mg base 1 "has" ["one", "number"] wHas)  : Dm P w K mg base 2 c.s "lets" ["self", "event"] (wLets c) := by
  refine dm_of h0 sc_Side_lets (fun ds q h => by obtain ⟨κ, κ2, s, e, rfl, _⟩ := h; rfl) fun f cdv A outer s H E hr => ⟨_, _,
  (dss_cons (ds_if (dt_cmp op_ne so_neS (DE.toB (de_ixK (K := K) (db_var 1) (DE.toB de_int) (fun _ _ => rfl))) (DE.toB (de_attr (K := K) (de_var 0))) (nomark _)) (dss_one (ds_ret de_bl)) dss_nil)
  (dss_cons (ds_set (i := 2) sc_Side_lets.nd rfl (by first | exact Or.inl rfl | exact Or.inr rfl) (de_dget hr.units (DE.toB (de_attr (K := K) (de_attr (K := K) (de_var 0)))) (de_attr (K := K) (de_var 0))))
  (dss_one (ds_ret (de_cb (cr_allK (K := K) rfl) sc_all rfl T.all (by with_unfolding_all rfl) (dab_cons (DE.toB (DN.toE (dn_lc (own := [("name", 3), ("number", 4)]) rfl sc_Side_lets.nd (DI.toB (di_zip rfl T.zip (da_cons (de_wk (de_var 2)) (da_cons (de_sliceK (K := K) (db_var 1) (do_some de_int) do_none) da_nil)))) (blkOk_by (N := ["self", "event", "names", "name", "number"]) (sc := defScope sSide_lets) (by decide +kernel)) (fun _ _ _ _ _ => (dg_tupK (K := K) (n := 2) rfl (dgs_cons (dg_name (i := 3) sc_Side_lets.nd rfl (by first | exact Or.inl rfl | exact Or.inr rfl)) (dgs_cons (dg_name (i := 4) sc_Side_lets.nd rfl (by first | exact Or.inl rfl | exact Or.inr rfl)) dgs_nil)))) (fun _ _ _ _ _ => dts_nil) (fun _ _ _ _ _ => (de_clK (K := K) F_has (hr.mono (by omega)) rfl (da_cons (de_dget hr.units (DE.toB (de_attr (K := K) (de_var 0))) (de_var 3)) (da_cons (de_var 4) da_nil))))))) dab_nil)))))), fun ds q h => ?_⟩
  obtain ⟨a0, a1, a2, a3, a4, a5, a6, a7, a8, a9, a10, a11, a12, a13, a14, a15, a16, a17, a18, a19, a20, a21, a22, a23, a24, a25, a26, a27, a28, a29, a30, a31, a32⟩ := L
  obtain ⟨κ, κ2, s, e, rfl, hs, he, hq, hn⟩ := h
  obtain ⟨x, y, rfl⟩ := two hs.1
  obtain ⟨i, j, rfl⟩ := two he
  have h1 := (hs.2 x (by simp)).2
  have h2 := (hs.2 y (by simp)).2
  cases κ <;> cases κ2
  all_goals walk_at "x"
  any_goals first | exact absurd rfl ‹_› | exact hn (by decide) | exact absurd ‹knd _ = knd _› (by decide) | skip
  · refine g_lcT (α := Str × List P2 × Int) (f := fun r => .tup [.str r.1, .int r.2.2]) (rows := [("k", x, i), ("v", y, j)]) (fun r d => d = .bl (mem r.2.2 r.2.1)) (szl (show (2 : Nat) ≤ 10000 by decide)) (fun r hr L R hL hR => ?_) fun l hl => ?_
    · simp only [List.mem_cons, List.not_mem_nil, or_false] at hr
      rcases hr with rfl | rfl
      all_goals
        walk_at "x"
        exact ⟨_, _, rfl, by first | exact Nat.le_trans h1 (by decide) | exact Nat.le_trans h2 (by decide), hL, hR _ rfl⟩
    · have e := hl.map (g := fun r => .bl (mem r.2.2 r.2.1)) fun _ _ h => h
      subst e
      exact g_all (bs := [mem i x, mem j y]) (hq rfl)
  · refine g_lcT (α := Str × List P2 × Int) (f := fun r => .tup [.str r.1, .int r.2.2]) (rows := [("k", x, i), ("w", y, j)]) (fun r d => d = .bl (mem r.2.2 r.2.1)) (szl (show (2 : Nat) ≤ 10000 by decide)) (fun r hr L R hL hR => ?_) fun l hl => ?_
    · simp only [List.mem_cons, List.not_mem_nil, or_false] at hr
      rcases hr with rfl | rfl
      all_goals
        walk_at "x"
        exact ⟨_, _, rfl, by first | exact Nat.le_trans h1 (by decide) | exact Nat.le_trans h2 (by decide), hL, hR _ rfl⟩
    · have e := hl.map (g := fun r => .bl (mem r.2.2 r.2.1)) fun _ _ h => h
      subst e
      exact g_all (bs := [mem i x, mem j y]) (hq rfl)
theorem sc_Each_form : FnScope ["self"] ["self"] (defScope sEach_form) := ⟨rfl, rfl, rfl, by decide +kernel, rfl, by decide +kernel, by decide +kernel⟩
-- slots: 0 self
theorem ok_Each_form (L : Cl K c) (T : Txt K mg) (h0 : HereM K c.e "form" "Each.form" ["self"] sEach_form) (M_told : Dm P w K mg base 1 c.s "told" ["self"] (wTold c))  : Dm P w K mg base 2 c.e "form" ["self"] (wForm c 0) := by
  refine dm_of h0 sc_Each_form (fun ds q h => by obtain ⟨Q, rfl, _⟩ := h; rfl) fun f cdv A outer s H E hr => ⟨_, _,
  (dss_one (ds_ret (de_tup (da_cons de_str (da_cons (de_meth0 (P := P) (w0 := w) (K := K) (mg := mg) (base := base) 1 (de_attr (K := K) (de_var 0)) (hr.mono (by omega))) (da_cons (de_attr (K := K) (de_var 0)) da_nil)))))), fun ds q h => ?_⟩
  obtain ⟨a0, a1, a2, a3, a4, a5, a6, a7, a8, a9, a10, a11, a12, a13, a14, a15, a16, a17, a18, a19, a20, a21, a22, a23, a24, a25, a26, a27, a28, a29, a30, a31, a32⟩ := L
  obtain ⟨Q, rfl, ht, ok, hq⟩ := h
  cases Q <;> cases ht
  walk_at "x"
  refine ⟨_, _, M_told, rfl, false, _, rfl, ok.1.1, ?_⟩
  walk_at "x"
  exact hq
theorem sc_Windows_form : FnScope ["self"] ["self"] (defScope sWindows_form) := ⟨rfl, rfl, rfl, by decide +kernel, rfl, by decide +kernel, by decide +kernel⟩
-- slots: 0 self
theorem ok_Windows_form (L : Cl K c) (T : Txt K mg) (h0 : HereM K c.w "form" "Windows.form" ["self"] sWindows_form) (M_told : Dm P w K mg base 1 c.s "told" ["self"] (wTold c))  : Dm P w K mg base 2 c.w "form" ["self"] (wForm c 1) := by
  refine dm_of h0 sc_Windows_form (fun ds q h => by obtain ⟨Q, rfl, _⟩ := h; rfl) fun f cdv A outer s H E hr => ⟨_, _,
  (dss_one (ds_ret (de_tup (da_cons de_str (da_cons (de_meth0 (P := P) (w0 := w) (K := K) (mg := mg) (base := base) 1 (de_attr (K := K) (de_var 0)) (hr.mono (by omega))) (da_cons (de_attr (K := K) (de_var 0)) (da_cons (de_attr (K := K) (de_var 0)) (da_cons (de_attr (K := K) (de_var 0)) (da_cons (de_attr (K := K) (de_var 0)) da_nil))))))))), fun ds q h => ?_⟩
  obtain ⟨a0, a1, a2, a3, a4, a5, a6, a7, a8, a9, a10, a11, a12, a13, a14, a15, a16, a17, a18, a19, a20, a21, a22, a23, a24, a25, a26, a27, a28, a29, a30, a31, a32⟩ := L
  obtain ⟨Q, rfl, ht, ok, hq⟩ := h
  cases Q <;> cases ht
  walk_at "x"
  refine ⟨_, _, M_told, rfl, false, _, rfl, ok.1.1, ?_⟩
  walk_at "x"
  exact hq
theorem sc_Blocks_form : FnScope ["self"] ["self"] (defScope sBlocks_form) := ⟨rfl, rfl, rfl, by decide +kernel, rfl, by decide +kernel, by decide +kernel⟩
-- slots: 0 self
theorem ok_Blocks_form (L : Cl K c) (T : Txt K mg) (h0 : HereM K c.b "form" "Blocks.form" ["self"] sBlocks_form) (M_told : Dm P w K mg base 1 c.s "told" ["self"] (wTold c))  : Dm P w K mg base 2 c.b "form" ["self"] (wForm c 2) := by
  refine dm_of h0 sc_Blocks_form (fun ds q h => by obtain ⟨Q, rfl, _⟩ := h; rfl) fun f cdv A outer s H E hr => ⟨_, _,
  (dss_one (ds_ret (de_tup (da_cons de_str (da_cons (de_meth0 (P := P) (w0 := w) (K := K) (mg := mg) (base := base) 1 (de_attr (K := K) (de_var 0)) (hr.mono (by omega))) (da_cons (de_attr (K := K) (de_var 0)) (da_cons (de_attr (K := K) (de_var 0)) (da_cons (de_attr (K := K) (de_var 0)) da_nil)))))))), fun ds q h => ?_⟩
  obtain ⟨a0, a1, a2, a3, a4, a5, a6, a7, a8, a9, a10, a11, a12, a13, a14, a15, a16, a17, a18, a19, a20, a21, a22, a23, a24, a25, a26, a27, a28, a29, a30, a31, a32⟩ := L
  obtain ⟨Q, rfl, ht, ok, hq⟩ := h
  cases Q <;> cases ht
  walk_at "x"
  refine ⟨_, _, M_told, rfl, false, _, rfl, ok.1.1, ?_⟩
  walk_at "x"
  exact hq
theorem sc_Sessions_form : FnScope ["self"] ["self"] (defScope sSessions_form) := ⟨rfl, rfl, rfl, by decide +kernel, rfl, by decide +kernel, by decide +kernel⟩
-- slots: 0 self
theorem ok_Sessions_form (L : Cl K c) (T : Txt K mg) (h0 : HereM K c.n "form" "Sessions.form" ["self"] sSessions_form) (M_told : Dm P w K mg base 1 c.s "told" ["self"] (wTold c))  : Dm P w K mg base 2 c.n "form" ["self"] (wForm c 3) := by
  refine dm_of h0 sc_Sessions_form (fun ds q h => by obtain ⟨Q, rfl, _⟩ := h; rfl) fun f cdv A outer s H E hr => ⟨_, _,
  (dss_one (ds_ret (de_tup (da_cons de_str (da_cons (de_meth0 (P := P) (w0 := w) (K := K) (mg := mg) (base := base) 1 (de_attr (K := K) (de_var 0)) (hr.mono (by omega))) (da_cons (de_attr (K := K) (de_var 0)) (da_cons (de_attr (K := K) (de_var 0)) (da_cons (de_attr (K := K) (de_var 0)) da_nil)))))))), fun ds q h => ?_⟩
  obtain ⟨a0, a1, a2, a3, a4, a5, a6, a7, a8, a9, a10, a11, a12, a13, a14, a15, a16, a17, a18, a19, a20, a21, a22, a23, a24, a25, a26, a27, a28, a29, a30, a31, a32⟩ := L
  obtain ⟨Q, rfl, ht, ok, hq⟩ := h
  cases Q <;> cases ht
  walk_at "x"
  refine ⟨_, _, M_told, rfl, false, _, rfl, ok.1.1, ?_⟩
  walk_at "x"
  exact hq
theorem sc_Pairs_form : FnScope ["self", "head"] ["self"] (defScope sPairs_form) := ⟨rfl, rfl, rfl, by decide +kernel, rfl, by decide +kernel, by decide +kernel⟩
-- slots: 0 self, 1 head
theorem ok_Pairs_form (L : Cl K c) (T : Txt K mg) (h0 : HereM K c.p "form" "Pairs.form" ["self"] sPairs_form) (M_told : Dm P w K mg base 1 c.s "told" ["self"] (wTold c))  : Dm P w K mg base 2 c.p "form" ["self"] (wForm c 4) := by
  refine dm_of h0 sc_Pairs_form (fun ds q h => by obtain ⟨Q, rfl, _⟩ := h; rfl) fun f cdv A outer s H E hr => ⟨_, _,
  (dss_cons (ds_set (i := 1) sc_Pairs_form.nd rfl (by first | exact Or.inl rfl | exact Or.inr rfl) (de_tup (da_cons de_str (da_cons (de_meth0 (P := P) (w0 := w) (K := K) (mg := mg) (base := base) 1 (de_attr (K := K) (de_var 0)) (hr.mono (by omega))) (da_cons (de_meth0 (P := P) (w0 := w) (K := K) (mg := mg) (base := base) 1 (de_attr (K := K) (de_var 0)) (hr.mono (by omega))) (da_cons (de_attr (K := K) (de_var 0)) (da_cons (de_attr (K := K) (de_var 0)) da_nil)))))))
  (dss_one (ds_ret (de_op (op_addUK (K := K)) so_add (db_var 1) (DE.toB (de_tup (da_cons (de_attr (K := K) (de_var 0)) (da_cons (de_attr (K := K) (de_var 0)) (da_cons (de_attr (K := K) (de_var 0)) (da_cons (de_attr (K := K) (de_var 0)) da_nil)))))))))), fun ds q h => ?_⟩
  obtain ⟨a0, a1, a2, a3, a4, a5, a6, a7, a8, a9, a10, a11, a12, a13, a14, a15, a16, a17, a18, a19, a20, a21, a22, a23, a24, a25, a26, a27, a28, a29, a30, a31, a32⟩ := L
  obtain ⟨Q, rfl, ht, ok, hq⟩ := h
  cases Q <;> cases ht
  walk_at "x"
  refine ⟨_, _, M_told, rfl, false, _, rfl, ok.1.1, ?_⟩
  walk_at "x"
  refine ⟨_, _, M_told, rfl, true, _, rfl, ok.2.1, ?_⟩
  walk_at "x"
  exact hq
theorem sc_Lonely_form : FnScope ["self", "head"] ["self"] (defScope sLonely_form) := ⟨rfl, rfl, rfl, by decide +kernel, rfl, by decide +kernel, by decide +kernel⟩
-- slots: 0 self, 1 head
theorem ok_Lonely_form (L : Cl K c) (T : Txt K mg) (h0 : HereM K c.l "form" "Lonely.form" ["self"] sLonely_form) (M_told : Dm P w K mg base 1 c.s "told" ["self"] (wTold c))  : Dm P w K mg base 2 c.l "form" ["self"] (wForm c 5) := by
  refine dm_of h0 sc_Lonely_form (fun ds q h => by obtain ⟨Q, rfl, _⟩ := h; rfl) fun f cdv A outer s H E hr => ⟨_, _,
  (dss_cons (ds_set (i := 1) sc_Lonely_form.nd rfl (by first | exact Or.inl rfl | exact Or.inr rfl) (de_tup (da_cons de_str (da_cons (de_meth0 (P := P) (w0 := w) (K := K) (mg := mg) (base := base) 1 (de_attr (K := K) (de_var 0)) (hr.mono (by omega))) (da_cons (de_meth0 (P := P) (w0 := w) (K := K) (mg := mg) (base := base) 1 (de_attr (K := K) (de_var 0)) (hr.mono (by omega))) (da_cons (de_attr (K := K) (de_var 0)) (da_cons (de_attr (K := K) (de_var 0)) da_nil)))))))
  (dss_one (ds_ret (de_op (op_addUK (K := K)) so_add (db_var 1) (DE.toB (de_tup (da_cons (de_attr (K := K) (de_var 0)) (da_cons (de_attr (K := K) (de_var 0)) da_nil)))))))), fun ds q h => ?_⟩
  obtain ⟨a0, a1, a2, a3, a4, a5, a6, a7, a8, a9, a10, a11, a12, a13, a14, a15, a16, a17, a18, a19, a20, a21, a22, a23, a24, a25, a26, a27, a28, a29, a30, a31, a32⟩ := L
  obtain ⟨Q, rfl, ht, ok, hq⟩ := h
  cases Q <;> cases ht
  walk_at "x"
  refine ⟨_, _, M_told, rfl, false, _, rfl, ok.1.1, ?_⟩
  walk_at "x"
  refine ⟨_, _, M_told, rfl, true, _, rfl, ok.2.1, ?_⟩
  walk_at "x"
  exact hq
theorem sc_sides_of : FnScope ["query"] ["query"] (defScope ssides_of) := ⟨rfl, rfl, rfl, by decide +kernel, rfl, by decide +kernel, by decide +kernel⟩
-- slots: 0 query
theorem ok_sides_of (L : Cl K c) (T : Txt K mg) (h0 : Here K mg "sides_of" ["query"] ssides_of) (M_form_Each : Dm P w K mg base 2 c.e "form" ["self"] (wForm c 0)) (M_form_Windows : Dm P w K mg base 2 c.w "form" ["self"] (wForm c 1)) (M_form_Blocks : Dm P w K mg base 2 c.b "form" ["self"] (wForm c 2)) (M_form_Sessions : Dm P w K mg base 2 c.n "form" ["self"] (wForm c 3)) (M_form_Pairs : Dm P w K mg base 2 c.p "form" ["self"] (wForm c 4)) (M_form_Lonely : Dm P w K mg base 2 c.l "form" ["self"] (wForm c 5))  : Df P w K mg base 3 "sides_of" ["query"] (wSides c) := by
  refine df_of h0 sc_sides_of (fun ds q h => by obtain ⟨Q, rfl, _⟩ := h; rfl) fun f cdv A outer s H E hr => ⟨_, _,
  (dss_one (ds_ret (de_ifE (dt_cmp (op_inK (K := K)) so_in (DE.toB (de_ixK (K := K) (DE.toB (de_meth0 (P := P) (w0 := w) (K := K) (mg := mg) (base := base) 2 (de_var 0) (hr.mono (by omega)))) (DE.toB de_int) (fun _ _ => rfl))) (DE.toB (de_tup (da_cons de_str (da_cons de_str da_nil)))) (by with_unfolding_all rfl)) (DN.toE (dn_lst (da_cons (de_attr (K := K) (de_var 0)) (da_cons (de_attr (K := K) (de_var 0)) da_nil)))) (DN.toE (dn_lst (da_cons (de_attr (K := K) (de_var 0)) da_nil)))))), fun ds q h => ?_⟩
  obtain ⟨a0, a1, a2, a3, a4, a5, a6, a7, a8, a9, a10, a11, a12, a13, a14, a15, a16, a17, a18, a19, a20, a21, a22, a23, a24, a25, a26, a27, a28, a29, a30, a31, a32⟩ := L
  obtain ⟨Q, rfl, ok, hq⟩ := h
  cases Q
  case each =>
    walk_at "x"
    refine ⟨_, _, M_form_Each, rfl, _, rfl, rfl, ok, ?_⟩
    have fl := q_fl "each"
    walk_at "x"
    · exact absurd ‹_› (q_no (by decide) (by decide))
    · exact hq
  case win =>
    walk_at "x"
    refine ⟨_, _, M_form_Windows, rfl, _, rfl, rfl, ok, ?_⟩
    have fl := q_fl "windows"
    walk_at "x"
    · exact absurd ‹_› (q_no (by decide) (by decide))
    · exact hq
  case blk =>
    walk_at "x"
    refine ⟨_, _, M_form_Blocks, rfl, _, rfl, rfl, ok, ?_⟩
    have fl := q_fl "blocks"
    walk_at "x"
    · exact absurd ‹_› (q_no (by decide) (by decide))
    · exact hq
  case ses =>
    walk_at "x"
    refine ⟨_, _, M_form_Sessions, rfl, _, rfl, rfl, ok, ?_⟩
    have fl := q_fl "sessions"
    walk_at "x"
    · exact absurd ‹_› (q_no (by decide) (by decide))
    · exact hq
  case prs =>
    walk_at "x"
    refine ⟨_, _, M_form_Pairs, rfl, _, rfl, rfl, ok, ?_⟩
    have fl := q_fl "pairs"
    walk_at "x"
    · exact hq
    · exact absurd (show D.str "pairs" ∈ [D.str "pairs", D.str "lonely"] from by first | exact List.mem_cons_self | exact List.mem_cons_of_mem _ List.mem_cons_self) ‹_›
  case lon =>
    walk_at "x"
    refine ⟨_, _, M_form_Lonely, rfl, _, rfl, rfl, ok, ?_⟩
    have fl := q_fl "lonely"
    walk_at "x"
    · exact hq
    · exact absurd (show D.str "lonely" ∈ [D.str "pairs", D.str "lonely"] from by first | exact List.mem_cons_self | exact List.mem_cons_of_mem _ List.mem_cons_self) ‹_›
theorem sc_whole_box : FnScope ["kinds", "kind", "name"] ["kinds", "kind"] (defScope swhole_box) := ⟨rfl, rfl, rfl, by decide +kernel, rfl, by decide +kernel, by decide +kernel⟩
-- slots: 0 kinds, 1 kind, 2 name
theorem ok_whole_box (L : Cl K c) (T : Txt K mg) (h0 : Here K mg "whole_box" ["kinds", "kind"] swhole_box)   : Df P w K mg base 1 "whole_box" ["kinds", "kind"] (wBox c) := by
  refine df_of h0 sc_whole_box (fun ds q h => by obtain ⟨κ, rfl, _⟩ := h; rfl) fun f cdv A outer s H E hr => ⟨_, _,
  (dss_one (ds_ret (de_ty (call_tupleK (K := K)) sc_tuple rfl T.tuple (by with_unfolding_all rfl) (dab_cons (DE.toB (DN.toE (dn_lc (own := [("name", 2)]) rfl sc_whole_box.nd (DI.toB (di_seq (de_wk (de_dget hr.units (DE.toB (de_attr (K := K) (de_var 0))) (de_var 1))))) (blkOk_by (N := ["kinds", "kind", "name"]) (sc := defScope swhole_box) (by decide +kernel)) (fun _ _ _ _ _ => (dg_name (i := 2) sc_whole_box.nd rfl (by first | exact Or.inl rfl | exact Or.inr rfl))) (fun _ _ _ _ _ => dts_nil) (fun _ _ _ _ _ => (de_tup (da_cons de_non (da_cons de_non da_nil))))))) dab_nil)))), fun ds q h => ?_⟩
  obtain ⟨a0, a1, a2, a3, a4, a5, a6, a7, a8, a9, a10, a11, a12, a13, a14, a15, a16, a17, a18, a19, a20, a21, a22, a23, a24, a25, a26, a27, a28, a29, a30, a31, a32⟩ := L
  obtain ⟨κ, rfl, hq⟩ := h
  cases κ
  all_goals
    walk_at "x"
    refine g_lcm (fun d => pD (none, none)) lz2 (fun d L R hm hL hR => ?_) ?_
    · walk_at "x"
      exact hR
    · walk_at "x"
      exact hq
end
end S07

namespace S07
open PySem L2 Y
local macro_rules | `(tactic| walk_at $_:str) => `(tactic| (conv => whnf) <;> repeat' (first
  | (refine And.intro (fun (hc : (_ : Prop)) => ?_) (fun (hc : (_ : Prop)) => ?_) <;> first | exact (d_ni hc).elim | exact (d_nt hc).elim | exact (d_nl hc).elim | exact (d_tc hc).elim | exact (d_lc hc).elim | exact (hc rfl).elim | (conv => whnf))
  | (refine And.intro (by first | exact dr_t rfl | (with_reducible first | exact lz1 | exact lz2 | exact lz3 | exact lz0 | exact lz5 | exact pu_ii | exact lq2 | exact lq1 | exact lq3 | exact lq5 | assumption | exact ⟨puL _, pu_nl⟩ | exact rfl) | (with_reducible first | refine szl ?_ | refine szl2 ?_) <;> (first | omega | (simp only [List.length_append, List.length_map, List.length_cons, List.length_nil, List.length_set]; omega) | (simp only [List.length_append, List.length_map, List.length_cons, List.length_nil, List.length_set]; done)) | fail) ?_ <;> (conv => whnf))
  | fail))

theorem inSb_emp {e : List Int} (he : e.length = 2) : inSb EmpS e = false := by obtain ⟨m, n, rfl⟩ := two he; rfl
theorem q_p : D.str "pairs" ∈ [D.str "pairs", D.str "lonely"] := List.mem_cons_self
theorem q_l : D.str "lonely" ∈ [D.str "pairs", D.str "lonely"] := List.mem_cons_of_mem _ List.mem_cons_self
theorem own_t : D.str "time" ∈ [D.str "time", D.str "id"] := List.mem_cons_self
theorem own_i : D.str "id" ∈ [D.str "time", D.str "id"] := List.mem_cons_of_mem _ List.mem_cons_self
theorem kv_k {z : Str} : D.str "k" ∈ [D.str "k", D.str z] := List.mem_cons_self
theorem kv_v {z : Str} : D.str z ∈ [D.str "k", D.str z] := List.mem_cons_of_mem _ List.mem_cons_self
theorem no_lt {m : Nat} {ys : List Str} {z : Str} {j : Nat} (h : ∀ i : Fin j, ys[i.1]? ≠ some z) (hm : m < j) : ys[m]? ≠ some z := h ⟨m, hm⟩
theorem nm_fld {κ : Bool} {n : Nm} (h : fld n = true) : D.str (nameS κ n) ∉ [D.str "time", D.str "id"] := own_no (by
  cases n <;> cases κ <;> first | exact .inl rfl | exact .inr (.inl rfl) | exact .inr (.inr rfl) | cases h)
section
variable {P : Program} {w : World} {K : PySem.W.Frag} {mg : Str → Option Value} {base : Heap} {c : Ad}
theorem sc_Kinds_place : FnScope ["self", "kind", "name"] ["self", "kind", "name"] (defScope sKinds_place) := ⟨rfl, rfl, rfl, by decide +kernel, rfl, by decide +kernel, by decide +kernel⟩
-- slots: 0 self, 1 kind, 2 name
theorem ok_Kinds_place (L : Cl K c) (T : Txt K mg) (h0 : HereM K c.k "place" "Kinds.place" ["self", "kind", "name"] sKinds_place)   : Dm P w K mg base 1 c.k "place" ["self", "kind", "name"] (wPlace c) := by
  obtain ⟨_, _, own1, own2, own3⟩ := T.own.ex
  refine dm_of h0 sc_Kinds_place (fun ds q h => by obtain ⟨κ, n, rfl, _⟩ := h; rfl) fun f cdv A outer s H E hr => ⟨_, _,
  (dss_cons (ds_if (dt_cmp (op_inK (K := K)) so_in (db_var 2) (DE.toB (de_wk (de_glob rfl own1 own2 (fun G => own3 G) (by decide)))) (by with_unfolding_all rfl)) (dss_one (ds_ret (de_op (op_addUK (K := K)) so_add (DE.toB de_int) (DE.toB (de_tupIndex (K := K) (de_glob rfl own1 own2 (fun G => own3 G) (by decide)) (de_var 2)))))) dss_nil)
  (dss_cons (ds_if (dt_cmp (op_notInK (K := K)) so_notIn (db_var 2) (DE.toB (de_wk (de_dget hr.units (DE.toB (de_attr (K := K) (de_var 0))) (de_var 1)))) (by with_unfolding_all rfl)) (dss_one ds_never) dss_nil)
  (dss_one (ds_ret (de_op (op_addUK (K := K)) so_add (DE.toB de_int) (DE.toB (de_tupIndex (K := K) (de_dget hr.units (DE.toB (de_attr (K := K) (de_var 0))) (de_var 1)) (de_var 2)))))))), fun ds q h => ?_⟩
  obtain ⟨a0, a1, a2, a3, a4, a5, a6, a7, a8, a9, a10, a11, a12, a13, a14, a15, a16, a17, a18, a19, a20, a21, a22, a23, a24, a25, a26, a27, a28, a29, a30, a31, a32⟩ := L
  obtain ⟨κ, n, rfl, hq⟩ := h
  cases κ <;> cases n
  · have fl := own_fl (nameS false .time)
    have fl2 := two_fl (nameS false .time) "k" "v"
    walk_at "x"
    · refine ⟨["time", "id"], 0, rfl, rfl, fun m hm => (by omega), ?_⟩
      walk_at "x"
      exact hq
    all_goals exact absurd own_t ‹_›
  · have fl := own_fl (nameS false .id)
    have fl2 := two_fl (nameS false .id) "k" "v"
    walk_at "x"
    · refine ⟨["time", "id"], 1, rfl, rfl, fun m hm => (by obtain rfl : m = 0 := (by omega); decide), ?_⟩
      walk_at "x"
      exact hq
    all_goals exact absurd own_i ‹_›
  · have fl := own_fl (nameS false .k)
    have fl2 := two_fl (nameS false .k) "k" "v"
    walk_at "x"
    · exact absurd ‹_› (own_no (.inl rfl))
    · exact absurd kv_k ‹_›
    · refine ⟨["k", "v"], 0, rfl, rfl, fun m hm => (by omega), ?_⟩
      walk_at "x"
      exact hq
  · have fl := own_fl (nameS false .v)
    have fl2 := two_fl (nameS false .v) "k" "v"
    walk_at "x"
    · exact absurd ‹_› (own_no (.inr (by first | exact .inl rfl | exact .inr rfl)))
    · exact absurd kv_v ‹_›
    · refine ⟨["k", "v"], 1, rfl, rfl, fun m hm => (by obtain rfl : m = 0 := (by omega); decide), ?_⟩
      walk_at "x"
      exact hq
  · have fl := own_fl (nameS true .time)
    have fl2 := two_fl (nameS true .time) "k" "w"
    walk_at "x"
    · refine ⟨["time", "id"], 0, rfl, rfl, fun m hm => (by omega), ?_⟩
      walk_at "x"
      exact hq
    all_goals exact absurd own_t ‹_›
  · have fl := own_fl (nameS true .id)
    have fl2 := two_fl (nameS true .id) "k" "w"
    walk_at "x"
    · refine ⟨["time", "id"], 1, rfl, rfl, fun m hm => (by obtain rfl : m = 0 := (by omega); decide), ?_⟩
      walk_at "x"
      exact hq
    all_goals exact absurd own_i ‹_›
  · have fl := own_fl (nameS true .k)
    have fl2 := two_fl (nameS true .k) "k" "w"
    walk_at "x"
    · exact absurd ‹_› (own_no (.inl rfl))
    · exact absurd kv_k ‹_›
    · refine ⟨["k", "w"], 0, rfl, rfl, fun m hm => (by omega), ?_⟩
      walk_at "x"
      exact hq
  · have fl := own_fl (nameS true .v)
    have fl2 := two_fl (nameS true .v) "k" "w"
    walk_at "x"
    · exact absurd ‹_› (own_no (.inr (by first | exact .inl rfl | exact .inr rfl)))
    · exact absurd kv_v ‹_›
    · refine ⟨["k", "w"], 1, rfl, rfl, fun m hm => (by obtain rfl : m = 0 := (by omega); decide), ?_⟩
      walk_at "x"
      exact hq
theorem sc_Kinds_is_event : FnScope ["self", "thing", "number"] ["self", "thing"] (defScope sKinds_is_event) := ⟨rfl, rfl, rfl, by decide +kernel, rfl, by decide +kernel, by decide +kernel⟩
-- slots: 0 self, 1 thing, 2 number
theorem ok_Kinds_is_event (L : Cl K c) (T : Txt K mg) (h0 : HereM K c.k "is_event" "Kinds.is_event" ["self", "thing"] sKinds_is_event) (F_is_whole : Df P w K mg base 1 "is_whole" ["thing"] wWhole)  : Dm P w K mg base 2 c.k "is_event" ["self", "thing"] (wIsEv c) := by
  refine dm_of h0 sc_Kinds_is_event (fun ds q h => by obtain ⟨κ, e, rfl, _⟩ := h; rfl) fun f cdv A outer s H E hr => ⟨_, _,
  (dss_cons (ds_if (DW.dt (dw_or (dt_not (dt_val (de_isi (K := K) .tup (de_var 1) rfl T.isinstance rfl T.tuple (by with_unfolding_all rfl)))) (dw_or (dt_cmp op_lt so_lt (DE.toB (de_cb (call_lenK (K := K)) sc_len rfl T.len (by with_unfolding_all rfl) (dab_cons (db_var 1) dab_nil))) (DE.toB de_int) (nomark _)) (dw_or1 (dt_not (dt_val (de_isi (K := K) .str (de_ixK (K := K) (db_var 1) (DE.toB de_int) (fun _ _ => rfl)) rfl T.isinstance rfl T.str (by with_unfolding_all rfl)))))))) (dss_one (ds_ret de_bl)) dss_nil)
  (dss_cons (ds_if (DW.dt (dw_or (dt_dnotin hr.units (de_ixK (K := K) (db_var 1) (DE.toB de_int) (fun _ _ => rfl)) (DE.toB (de_attr (K := K) (de_var 0)))) (dw_or1 (dt_cmp (op_neDK (K := K) hr.units) so_neU (DE.toB (de_cb (call_lenK (K := K)) sc_len rfl T.len (by with_unfolding_all rfl) (dab_cons (db_var 1) dab_nil))) (DE.toB (de_op (op_addUK (K := K)) so_add (DE.toB de_int) (DE.toB (de_cb (call_lenK (K := K)) sc_len rfl T.len (by with_unfolding_all rfl) (dab_cons (DE.toB (de_wk (de_dget hr.units (DE.toB (de_attr (K := K) (de_var 0))) (de_ixK (K := K) (db_var 1) (DE.toB de_int) (fun _ _ => rfl))))) dab_nil))))) (nomark _))))) (dss_one (ds_ret de_bl)) dss_nil)
  (dss_one (ds_ret (de_and (de_cb (cr_allK (K := K) rfl) sc_all rfl T.all (by with_unfolding_all rfl) (dab_cons (DE.toB (DN.toE (dn_lc (own := [("number", 2)]) rfl sc_Kinds_is_event.nd (DI.toB (di_seq (de_sliceK (K := K) (db_var 1) (do_some de_int) do_none))) (blkOk_by (N := ["self", "thing", "number"]) (sc := defScope sKinds_is_event) (by decide +kernel)) (fun _ _ _ _ _ => (dg_name (i := 2) sc_Kinds_is_event.nd rfl (by first | exact Or.inl rfl | exact Or.inr rfl))) (fun _ _ _ _ _ => dts_nil) (fun _ _ _ _ _ => (de_clK (K := K) F_is_whole (hr.mono (by omega)) rfl (da_cons (de_var 2) da_nil)))))) dab_nil)) (de_one (de_cmp op_ge so_ge (DE.toB (de_ixK (K := K) (db_var 1) (DE.toB de_int) (fun _ _ => rfl))) (DE.toB de_int) (nomark _)))))))), fun ds q h => ?_⟩
  obtain ⟨a0, a1, a2, a3, a4, a5, a6, a7, a8, a9, a10, a11, a12, a13, a14, a15, a16, a17, a18, a19, a20, a21, a22, a23, a24, a25, a26, a27, a28, a29, a30, a31, a32⟩ := L
  obtain ⟨κ, e, rfl, he, hq⟩ := h
  obtain ⟨m, n, rfl⟩ := two he
  cases κ
  all_goals
    walk_at "x"
    · exact absurd ‹_ < _› (show ¬ (5 : Int) < 3 by decide)
    refine g_lcT (α := Int) (f := D.int) (rows := [0, 0, m, n]) (fun r d => d = .bl true) (szl (show (4 : Nat) ≤ 10000 by decide)) (fun r hr L R hL hR => ?_) fun l hl => ?_
    · walk_at "x"
      exact ⟨r, rfl, hL, hR _ rfl⟩
    · obtain rfl := hl.map (g := fun _ => .bl true) fun _ _ h => h
      walk_at "x"
      · exact hq
      · exact absurd (Int.le_refl _) ‹_›
theorem sc_Side_places : FnScope ["self", "names", "is_own", "name"] ["self", "names", "is_own"] (defScope sSide_places) := ⟨rfl, rfl, rfl, by decide +kernel, rfl, by decide +kernel, by decide +kernel⟩
-- slots: 0 self, 1 names, 2 is_own, 3 name
theorem ok_Side_places (L : Cl K c) (T : Txt K mg) (h0 : HereM K c.s "places" "Side.places" ["self", "names", "is_own"] sSide_places) (M_place : Dm P w K mg base 1 c.k "place" ["self", "kind", "name"] (wPlace c))  : Dm P w K mg base 2 c.s "places" ["self", "names", "is_own"] (wPlaces c) := by
  obtain ⟨_, _, own1, own2, own3⟩ := T.own.ex
  refine dm_of h0 sc_Side_places (fun ds q h => by obtain ⟨κ, s, ns, x, own, rfl, _⟩ := h; rfl) fun f cdv A outer s H E hr => ⟨_, _,
  (dss_cons (ds_if (dt_not (dt_val (de_isi2 .lst .tup (de_wk (de_var 1)) rfl T.isinstance rfl T.list (by with_unfolding_all rfl) rfl T.tuple (by with_unfolding_all rfl) (K := K)))) (dss_one ds_never) dss_nil)
  (dss_cons (ds_for PassesOwn.never rfl (di_seq (de_wk (de_var 1))) (dg_name (i := 3) sc_Side_places.nd rfl (by first | exact Or.inl rfl | exact Or.inr rfl)) (dss_one (ds_if (DW.dt (dw_or (dt_not (dt_val (de_isi (K := K) .str (de_var 3) rfl T.isinstance rfl T.str (by with_unfolding_all rfl)))) (dw_or1 (DW.dt (dw_and (dt_cmp (op_inK (K := K)) so_in (db_var 3) (DE.toB (de_wk (de_glob rfl own1 own2 (fun G => own3 G) (by decide)))) (by with_unfolding_all rfl)) (dw_and1 (dt_not (dt_val (de_var 2))))))))) (dss_one ds_never) dss_nil)))
  (dss_one (ds_ret (de_ty (call_tupleK (K := K)) sc_tuple rfl T.tuple (by with_unfolding_all rfl) (dab_cons (DE.toB (DN.toE (dn_lc (own := [("name", 3)]) rfl sc_Side_places.nd (DI.toB (di_seq (de_wk (de_var 1)))) (blkOk_by (N := ["self", "names", "is_own", "name"]) (sc := defScope sSide_places) (by decide +kernel)) (fun _ _ _ _ _ => (dg_name (i := 3) sc_Side_places.nd rfl (by first | exact Or.inl rfl | exact Or.inr rfl))) (fun _ _ _ _ _ => dts_nil) (fun _ _ _ _ _ => (de_meth (P := P) (w0 := w) (K := K) (mg := mg) (base := base) 1 (de_attr (K := K) (de_var 0)) (hr.mono (by omega)) (da_cons (de_attr (K := K) (de_var 0)) (da_cons (de_var 3) da_nil))))))) dab_nil)))))), fun ds q h => ?_⟩
  obtain ⟨a0, a1, a2, a3, a4, a5, a6, a7, a8, a9, a10, a11, a12, a13, a14, a15, a16, a17, a18, a19, a20, a21, a22, a23, a24, a25, a26, a27, a28, a29, a30, a31, a32⟩ := L
  obtain ⟨κ, s, ns, x, own, rfl, hx, hl, hok, hq⟩ := h
  rcases hx with rfl | rfl
  · walk_at "x"
    refine g_for (fun i env => ∃ x3 : Sl, env = [.d (sideD c κ s), .d (.lst (ns.map (nmD κ))), .d (.bl own), x3]) ⟨_, rfl⟩ ?_ ?_
    · rintro i d env' hd ⟨x3, rfl⟩
      rw [List.getElem?_map] at hd
      cases hn : ns[i]? with
      | none => rw [hn] at hd; cases hd
      | some n =>
        rw [hn] at hd
        cases hd
        have fl := own_fl (nameS κ n)
        walk_at "x"
        · cases own
          · exact absurd ‹_› (nm_fld (hok rfl n (List.mem_of_getElem? hn)))
          · walk_at "x"
            exact ⟨_, rfl⟩
        · exact ⟨_, rfl⟩
    · rintro env' ⟨x3, rfl⟩
      walk_at "x"
      refine g_lcT (fun n d => d = plD n) (szl (by omega)) (fun n hn L R hL hR => ?_) fun l hl2 => ?_
      · walk_at "x"
        refine ⟨_, _, M_place, rfl, ?_⟩
        walk_at "x"
        exact ⟨κ, n, rfl, hL, hR _ rfl⟩
      · obtain rfl := hl2.map (g := plD) fun _ _ h => h
        walk_at "x"
        exact hq
  · walk_at "x"
    refine g_for (fun i env => ∃ x3 : Sl, env = [.d (sideD c κ s), .d (.tup (ns.map (nmD κ))), .d (.bl own), x3]) ⟨_, rfl⟩ ?_ ?_
    · rintro i d env' hd ⟨x3, rfl⟩
      rw [List.getElem?_map] at hd
      cases hn : ns[i]? with
      | none => rw [hn] at hd; cases hd
      | some n =>
        rw [hn] at hd
        cases hd
        have fl := own_fl (nameS κ n)
        walk_at "x"
        · cases own
          · exact absurd ‹_› (nm_fld (hok rfl n (List.mem_of_getElem? hn)))
          · walk_at "x"
            exact ⟨_, rfl⟩
        · exact ⟨_, rfl⟩
    · rintro env' ⟨x3, rfl⟩
      walk_at "x"
      refine g_lcT (fun n d => d = plD n) (szl (by omega)) (fun n hn L R hL hR => ?_) fun l hl2 => ?_
      · walk_at "x"
        refine ⟨_, _, M_place, rfl, ?_⟩
        walk_at "x"
        exact ⟨κ, n, rfl, hL, hR _ rfl⟩
      · obtain rfl := hl2.map (g := plD) fun _ _ h => h
        walk_at "x"
        exact hq
theorem sc_is_seen : FnScope ["query", "event"] ["query", "event"] (defScope sis_seen) := ⟨rfl, rfl, rfl, by decide +kernel, rfl, by decide +kernel, by decide +kernel⟩
-- slots: 0 query, 1 event
theorem ok_is_seen (L : Cl K c) (T : Txt K mg) (h0 : Here K mg "is_seen" ["query", "event"] sis_seen) (M_lets : Dm P w K mg base 2 c.s "lets" ["self", "event"] (wLets c)) (M_form_Each : Dm P w K mg base 2 c.e "form" ["self"] (wForm c 0)) (M_form_Windows : Dm P w K mg base 2 c.w "form" ["self"] (wForm c 1)) (M_form_Blocks : Dm P w K mg base 2 c.b "form" ["self"] (wForm c 2)) (M_form_Sessions : Dm P w K mg base 2 c.n "form" ["self"] (wForm c 3)) (M_form_Pairs : Dm P w K mg base 2 c.p "form" ["self"] (wForm c 4)) (M_form_Lonely : Dm P w K mg base 2 c.l "form" ["self"] (wForm c 5))  : Df P w K mg base 3 "is_seen" ["query", "event"] (wSeen c) := by
  refine df_of h0 sc_is_seen (fun ds q h => by obtain ⟨Q, κ, e, rfl, _⟩ := h; rfl) fun f cdv A outer s H E hr => ⟨_, _,
  (dss_cons (ds_if (dt_cmp (op_inK (K := K)) so_in (DE.toB (de_ixK (K := K) (DE.toB (de_meth0 (P := P) (w0 := w) (K := K) (mg := mg) (base := base) 2 (de_var 0) (hr.mono (by omega)))) (DE.toB de_int) (fun _ _ => rfl))) (DE.toB (de_tup (da_cons de_str (da_cons de_str da_nil)))) (by with_unfolding_all rfl)) (dss_one (ds_ret (de_or (de_meth (P := P) (w0 := w) (K := K) (mg := mg) (base := base) 2 (de_attr (K := K) (de_var 0)) (hr.mono (by omega)) (da_cons (de_var 1) da_nil)) (de_one (de_meth (P := P) (w0 := w) (K := K) (mg := mg) (base := base) 2 (de_attr (K := K) (de_var 0)) (hr.mono (by omega)) (da_cons (de_var 1) da_nil)))))) dss_nil)
  (dss_one (ds_ret (de_meth (P := P) (w0 := w) (K := K) (mg := mg) (base := base) 2 (de_attr (K := K) (de_var 0)) (hr.mono (by omega)) (da_cons (de_var 1) da_nil))))), fun ds q h => ?_⟩
  obtain ⟨a0, a1, a2, a3, a4, a5, a6, a7, a8, a9, a10, a11, a12, a13, a14, a15, a16, a17, a18, a19, a20, a21, a22, a23, a24, a25, a26, a27, a28, a29, a30, a31, a32⟩ := L
  obtain ⟨Q, κ, e, rfl, ok, he, hq⟩ := h
  cases Q
  case each =>
    walk_at "x"
    refine ⟨_, _, M_form_Each, rfl, _, rfl, rfl, ok, ?_⟩
    have fl := q_fl "each"
    walk_at "x"
    · exact absurd ‹_› (q_no (by decide) (by decide))
    · refine ⟨_, _, M_lets, rfl, false, κ, _, e, rfl, ok.1, he, fun z => ?_, fun z => ?_⟩
      · subst z; exact hq
      · cases κ
        · exact absurd rfl z
        · have e2 := inSb_emp he
          rw [← e2]; exact hq
  case win =>
    walk_at "x"
    refine ⟨_, _, M_form_Windows, rfl, _, rfl, rfl, ok, ?_⟩
    have fl := q_fl "windows"
    walk_at "x"
    · exact absurd ‹_› (q_no (by decide) (by decide))
    · refine ⟨_, _, M_lets, rfl, false, κ, _, e, rfl, ok.1, he, fun z => ?_, fun z => ?_⟩
      · subst z; exact hq
      · cases κ
        · exact absurd rfl z
        · have e2 := inSb_emp he
          rw [← e2]; exact hq
  case blk =>
    walk_at "x"
    refine ⟨_, _, M_form_Blocks, rfl, _, rfl, rfl, ok, ?_⟩
    have fl := q_fl "blocks"
    walk_at "x"
    · exact absurd ‹_› (q_no (by decide) (by decide))
    · refine ⟨_, _, M_lets, rfl, false, κ, _, e, rfl, ok.1, he, fun z => ?_, fun z => ?_⟩
      · subst z; exact hq
      · cases κ
        · exact absurd rfl z
        · have e2 := inSb_emp he
          rw [← e2]; exact hq
  case ses =>
    walk_at "x"
    refine ⟨_, _, M_form_Sessions, rfl, _, rfl, rfl, ok, ?_⟩
    have fl := q_fl "sessions"
    walk_at "x"
    · exact absurd ‹_› (q_no (by decide) (by decide))
    · refine ⟨_, _, M_lets, rfl, false, κ, _, e, rfl, ok.1, he, fun z => ?_, fun z => ?_⟩
      · subst z; exact hq
      · cases κ
        · exact absurd rfl z
        · have e2 := inSb_emp he
          rw [← e2]; exact hq
  case prs s1 s2 k1 k2 mm rr t1 t2 =>
    walk_at "x"
    refine ⟨_, _, M_form_Pairs, rfl, _, rfl, rfl, ok, ?_⟩
    have fl := q_fl "pairs"
    walk_at "x"
    · refine ⟨_, _, M_lets, rfl, false, κ, _, e, rfl, ok.1, he, fun z => ?_, fun z => ?_⟩
      · subst z
        have hq : q (.bl (inSb s1 e)) := hq
        cases hbb : inSb s1 e <;> rw [hbb] at hq
        · walk_at "x"
          exact ⟨_, _, M_lets, rfl, true, false, _, e, rfl, ok.2, he, fun z => absurd z (by decide), fun _ => hq⟩
        · walk_at "x"
          exact hq
      · cases κ
        · exact absurd rfl z
        · walk_at "x"
          exact ⟨_, _, M_lets, rfl, true, true, _, e, rfl, ok.2, he, fun _ => hq, fun z => absurd rfl z⟩
    · exact absurd q_p ‹_›
  case lon s1 s2 k1 k2 rr t1 =>
    walk_at "x"
    refine ⟨_, _, M_form_Lonely, rfl, _, rfl, rfl, ok, ?_⟩
    have fl := q_fl "lonely"
    walk_at "x"
    · refine ⟨_, _, M_lets, rfl, false, κ, _, e, rfl, ok.1, he, fun z => ?_, fun z => ?_⟩
      · subst z
        have hq : q (.bl (inSb s1 e)) := hq
        cases hbb : inSb s1 e <;> rw [hbb] at hq
        · walk_at "x"
          exact ⟨_, _, M_lets, rfl, true, false, _, e, rfl, ok.2, he, fun z => absurd z (by decide), fun _ => hq⟩
        · walk_at "x"
          exact hq
      · cases κ
        · exact absurd rfl z
        · walk_at "x"
          exact ⟨_, _, M_lets, rfl, true, true, _, e, rfl, ok.2, he, fun _ => hq, fun z => absurd rfl z⟩
    · exact absurd q_l ‹_›
end
end S07

namespace S07
open PySem L2 Y
local macro_rules | `(tactic| walk_at $_:str) => `(tactic| (conv => whnf) <;> repeat' (first
  | (refine And.intro (fun (hc : (_ : Prop)) => ?_) (fun (hc : (_ : Prop)) => ?_) <;> first | exact (d_ni hc).elim | exact (d_nt hc).elim | exact (d_nl hc).elim | exact (d_tc hc).elim | exact (d_lc hc).elim | exact (hc rfl).elim | (conv => whnf))
  | (refine And.intro (by first | exact dr_t rfl | (with_reducible first | exact lz1 | exact lz2 | exact lz3 | exact lz0 | exact lz5 | exact pu_ii | exact lq2 | exact lq1 | exact lq3 | exact lq5 | assumption | exact ⟨puL _, pu_nl⟩ | exact rfl) | (with_reducible first | refine szl ?_ | refine szl2 ?_) <;> (first | omega | (simp only [List.length_append, List.length_map, List.length_cons, List.length_nil, List.length_set]; omega) | (simp only [List.length_append, List.length_map, List.length_cons, List.length_nil, List.length_set]; done)) | fail) ?_ <;> (conv => whnf))
  | fail))

/-! ### keys, worths -/
theorem kd_len {ks : List Int} : (kdD ks).length = ks.length := by unfold kdD; rw [List.length_map]
theorem kd_take {l : List Int} (nd : l.Nodup) {k : Nat} {x : Int} (h : l[k]? = some x) : putD (kdD (l.take k)) (Sum.inl x) (.bl true) = kdD (l.take (k + 1)) := by
  rw [put_kd]
  have hk : k < l.length := (List.getElem?_eq_some_iff.mp h).1
  unfold addK
  rw [if_neg, List.take_succ, h]
  · rfl
  · intro hm
    obtain ⟨j, hj, e⟩ := List.mem_take_iff_getElem.mp hm
    have e1 : l[j]? = some x := by rw [List.getElem?_eq_getElem (by omega), e]
    have := (List.getElem?_inj (by omega) nd).mp (e1.trans h.symm)
    omega
theorem pl_inj {a b : Nm} (h : placeI a = placeI b) : a = b := by cases a <;> cases b <;> first | rfl | exact absurd h (by decide)
theorem pl_nd {ns : List Nm} (h : ns.Nodup) : (ns.map placeI).Nodup := by
  unfold List.Nodup at h ⊢
  rw [List.pairwise_map]
  exact h.imp fun hn e => hn (pl_inj e)
theorem pl_map (ns : List Nm) : ns.map plD = (ns.map placeI).map D.int := by rw [List.map_map]; rfl
def KeysOk (ns : List Nm) : Prop := ns.length ≤ 100 ∧ (∀ n ∈ ns, fld n = true) ∧ ns.Nodup
def wKeys (c : Ad) : WD := fun ds q => ∃ (κ : Bool) (s : Sets) (ns : List Nm), ds = [sideD c κ s, .lst (ns.map (nmD κ))] ∧ KeysOk ns ∧ q (.tup (ns.map plD))
abbrev pairN (p : Nm × Nm) : D := .tup [nmD false p.1, nmD true p.2]
def wTwo (c : Ad) : WD := fun ds q => ∃ (s t : Sets) (kk : List (Nm × Nm)), ds = [sideD c false s, sideD c true t, .lst (kk.map pairN)] ∧ KeysOk (kk.map (·.1)) ∧ KeysOk (kk.map (·.2)) ∧ q (.tup [.tup ((kk.map (·.1)).map plD), .tup ((kk.map (·.2)).map plD)])
inductive Wt where
  | pl (k : Str) | al (n : Int) | fi (k : Str) (f : Nm)
def wtD (κ : Bool) : Wt → D
  | .pl k => .tup [.str k] | .al n => .tup [.str "atleast", .int n] | .fi k f => .tup [.str k, nmD κ f]
def wtR : Wt → D
  | .pl k => .tup [.str k] | .al n => .tup [.str "atleast", .int n] | .fi k f => .tup [.str k, plD f]
def wtK : Wt → Str
  | .pl k => k | .al _ => "atleast" | .fi k _ => k
def OkW (bys : List Nm) (bar : List Str) (w : Wt) : Prop := wtK w ∉ bar ∧ match w with
  | .pl k => k = "count" ∨ k = "first" ∨ k = "last"
  | .al n => 1 ≤ n
  | .fi k f => (k = "sum" ∨ k = "least" ∨ k = "greatest" ∨ k = "unlike") ∧ fld f = true ∧ f ∉ bys
def wWorths (c : Ad) : WD := fun ds q => ∃ (κ : Bool) (s : Sets) (bys : List Nm) (ws : List Wt) (bar : List Str), ds = [sideD c κ s, .tup (bys.map plD), .lst (ws.map (wtD κ)), .tup (bar.map D.str)] ∧ ws.length ≤ 100 ∧ (∀ w ∈ ws, OkW bys bar w) ∧ q (.tup (ws.map wtR))
theorem fl_strs (s : Str) (bar : List Str) : Flat (D.str s) ∧ ∀ x ∈ bar.map D.str, Flat x := ⟨trivial, fun x h => by
  obtain ⟨z, _, rfl⟩ := List.mem_map.mp h
  trivial⟩
theorem mem_strs {s : Str} {bar : List Str} : D.str s ∈ bar.map D.str ↔ s ∈ bar := by
  rw [List.mem_map]
  constructor
  · rintro ⟨z, hz, e⟩; cases e; exact hz
  · intro h; exact ⟨s, h, rfl⟩
theorem fl_pls (i : Int) (bys : List Nm) : Flat (D.int i) ∧ ∀ x ∈ bys.map plD, Flat x := ⟨trivial, fun x h => by
  obtain ⟨z, _, rfl⟩ := List.mem_map.mp h
  trivial⟩
theorem mem_pls {f : Nm} {bys : List Nm} : D.int (placeI f) ∈ bys.map plD ↔ f ∈ bys := by
  rw [List.mem_map]
  constructor
  · rintro ⟨z, hz, e⟩
    have := pl_inj (D.int.inj e)
    subst this; exact hz
  · intro h; exact ⟨f, h, rfl⟩
abbrev plainL : List Str := ["count", "first", "last"]
abbrev fieldL : List Str := ["sum", "least", "greatest", "unlike"]
def InWo (c : Ad) (κ : Bool) (s : Sets) (bys : List Nm) (ws : List Wt) (bar : List Str) (i : Nat) (env : List Sl) : Prop := ∃ (pre post : List Wt) (x5 x6 : Sl), ws = pre ++ post ∧ pre.length = i ∧ env = [.d (sideD c κ s), .d (.tup (bys.map plD)), .d (.lst (ws.map (wtD κ))), .d (.tup (bar.map D.str)), .d (.tup (pre.map wtR)), x5, x6]
section
variable {P : Program} {w : World} {K : PySem.W.Frag} {mg : Str → Option Value} {base : Heap} {c : Ad}
theorem sc_check_keys : FnScope ["side", "keys", "found", "place"] ["side", "keys"] (defScope scheck_keys) := ⟨rfl, rfl, rfl, by decide +kernel, rfl, by decide +kernel, by decide +kernel⟩
-- slots: 0 side, 1 keys, 2 found, 3 place
theorem ok_check_keys (L : Cl K c) (T : Txt K mg) (h0 : Here K mg "check_keys" ["side", "keys"] scheck_keys) (M_places : Dm P w K mg base 2 c.s "places" ["self", "names", "is_own"] (wPlaces c))  : Df P w K mg base 3 "check_keys" ["side", "keys"] (wKeys c) := by
  refine df_of h0 sc_check_keys (fun ds q h => by obtain ⟨κ, s, ns, rfl, _⟩ := h; rfl) fun f cdv A outer s H E hr => ⟨_, _,
  (dss_cons (ds_set (i := 2) sc_check_keys.nd rfl (by first | exact Or.inl rfl | exact Or.inr rfl) (de_meth (P := P) (w0 := w) (K := K) (mg := mg) (base := base) 2 (de_var 0) (hr.mono (by omega)) (da_cons (de_var 1) (da_cons de_bl da_nil))))
  (dss_cons (ds_if (dt_cmp (op_neDK (K := K) hr.units) so_neU (DE.toB (de_cb YL.call_lenR sc_lenD rfl T.len (by with_unfolding_all rfl) (dab_cons (DE.toB (DM.toE (dm_dc (own := [("place", 3)]) rfl sc_check_keys.nd (dib_seq (db_var 2)) (blkOk_by (N := ["side", "keys", "found", "place"]) (sc := defScope scheck_keys) (by decide +kernel)) (fun _ _ _ _ _ => (dg_name (i := 3) sc_check_keys.nd rfl (by first | exact Or.inl rfl | exact Or.inr rfl))) (fun _ _ _ _ _ => dts_nil) (fun _ _ _ _ _ => (de_var 3)) (fun _ _ _ _ _ => de_bl)))) dab_nil))) (DE.toB (de_cb (call_lenK (K := K)) sc_len rfl T.len (by with_unfolding_all rfl) (dab_cons (db_var 2) dab_nil))) (nomark _)) (dss_one ds_never) dss_nil)
  (dss_one (ds_ret (de_var 2))))), fun ds q h => ?_⟩
  obtain ⟨a0, a1, a2, a3, a4, a5, a6, a7, a8, a9, a10, a11, a12, a13, a14, a15, a16, a17, a18, a19, a20, a21, a22, a23, a24, a25, a26, a27, a28, a29, a30, a31, a32⟩ := L
  obtain ⟨κ, s, ns, rfl, ok, hq⟩ := h
  walk_at "x"
  refine ⟨_, _, M_places, rfl, κ, s, ns, _, false, rfl, .inl rfl, ok.1, fun _ => ok.2.1, ?_⟩
  walk_at "x"
  refine kDc_i ⟨fun k acc => acc = kdD (((ns).map placeI).take k), rfl, ?_, ?_⟩
  · rintro k d acc hd rfl
    rw [pl_map, List.getElem?_map] at hd
    cases hn : ((ns).map placeI)[k]? with
    | none => rw [hn] at hd; cases hd
    | some x =>
      rw [hn] at hd
      cases hd
      have hl : (kdD (((ns).map placeI).take k)).length ≤ 100 := by rw [kd_len, List.length_take, List.length_map]; have := (ok).1; omega
      walk_at "x"
      exact kd_take (pl_nd (ok).2.2) hn
  · rintro acc rfl
    have hlen : (kdD (((ns).map placeI).take ((ns).map plD).length)).length = ((ns).map plD).length := by rw [kd_len, List.length_map, List.take_of_length_le (by rw [List.length_map]; exact Nat.le_refl _), List.length_map]
    walk_at "x"
    · exact ‹¬ _ = _› (congrArg (fun n : Nat => D.int (n : Int)) hlen)
    · exact hq
theorem sc_check_two : FnScope ["first", "second", "keys", "one", "other", "found", "pair", "place"] ["first", "second", "keys"] (defScope scheck_two) := ⟨rfl, rfl, rfl, by decide +kernel, rfl, by decide +kernel, by decide +kernel⟩
-- slots: 0 first, 1 second, 2 keys, 3 one, 4 other, 5 found, 6 pair, 7 place
theorem ok_check_two (L : Cl K c) (T : Txt K mg) (h0 : Here K mg "check_two" ["first", "second", "keys"] scheck_two) (M_places : Dm P w K mg base 2 c.s "places" ["self", "names", "is_own"] (wPlaces c))  : Df P w K mg base 3 "check_two" ["first", "second", "keys"] (wTwo c) := by
  refine df_of h0 sc_check_two (fun ds q h => by obtain ⟨s, t, kk, rfl, _⟩ := h; rfl) fun f cdv A outer s H E hr => ⟨_, _,
  (dss_cons (ds_if (dt_cmp op_eq so_eqS (DE.toB (de_attr (K := K) (de_var 0))) (DE.toB (de_attr (K := K) (de_var 1))) (nomark _)) (dss_one ds_never) dss_nil)
  (dss_cons (ds_if (dt_not (dt_val (de_isi2 .lst .tup (de_var 2) rfl T.isinstance rfl T.list (by with_unfolding_all rfl) rfl T.tuple (by with_unfolding_all rfl) (K := K)))) (dss_one ds_never) dss_nil)
  (dss_cons (ds_if (dt_not (dt_val (de_cb (cr_allK (K := K) rfl) sc_all rfl T.all (by with_unfolding_all rfl) (dab_cons (DE.toB (DN.toE (dn_lc (own := [("pair", 6)]) rfl sc_check_two.nd (dib_seq (db_var 2)) (blkOk_by (N := ["first", "second", "keys", "one", "other", "found", "pair", "place"]) (sc := defScope scheck_two) (by decide +kernel)) (fun _ _ _ _ _ => (dg_name (i := 6) sc_check_two.nd rfl (by first | exact Or.inl rfl | exact Or.inr rfl))) (fun _ _ _ _ _ => dts_nil) (fun _ _ _ _ _ => (de_and (de_isi2 .lst .tup (de_var 6) rfl T.isinstance rfl T.list (by with_unfolding_all rfl) rfl T.tuple (by with_unfolding_all rfl) (K := K)) (de_one (de_cmp (op_eqDK (K := K) hr.units) so_eqU (DE.toB (de_cb (call_lenK (K := K)) sc_len rfl T.len (by with_unfolding_all rfl) (dab_cons (db_var 6) dab_nil))) (DE.toB de_int) (nomark _)))))))) dab_nil)))) (dss_one ds_never) dss_nil)
  (dss_cons (ds_set (i := 3) sc_check_two.nd rfl (by first | exact Or.inl rfl | exact Or.inr rfl) (de_meth (P := P) (w0 := w) (K := K) (mg := mg) (base := base) 2 (de_var 0) (hr.mono (by omega)) (da_cons (DN.toE (dn_lc (own := [("pair", 6)]) rfl sc_check_two.nd (dib_seq (db_var 2)) (blkOk_by (N := ["first", "second", "keys", "one", "other", "found", "pair", "place"]) (sc := defScope scheck_two) (by decide +kernel)) (fun _ _ _ _ _ => (dg_name (i := 6) sc_check_two.nd rfl (by first | exact Or.inl rfl | exact Or.inr rfl))) (fun _ _ _ _ _ => dts_nil) (fun _ _ _ _ _ => (de_ixK (K := K) (db_var 6) (DE.toB de_int) (fun _ _ => rfl))))) (da_cons de_bl da_nil))))
  (dss_cons (ds_set (i := 4) sc_check_two.nd rfl (by first | exact Or.inl rfl | exact Or.inr rfl) (de_meth (P := P) (w0 := w) (K := K) (mg := mg) (base := base) 2 (de_var 1) (hr.mono (by omega)) (da_cons (DN.toE (dn_lc (own := [("pair", 6)]) rfl sc_check_two.nd (dib_seq (db_var 2)) (blkOk_by (N := ["first", "second", "keys", "one", "other", "found", "pair", "place"]) (sc := defScope scheck_two) (by decide +kernel)) (fun _ _ _ _ _ => (dg_name (i := 6) sc_check_two.nd rfl (by first | exact Or.inl rfl | exact Or.inr rfl))) (fun _ _ _ _ _ => dts_nil) (fun _ _ _ _ _ => (de_ixK (K := K) (db_var 6) (DE.toB de_int) (fun _ _ => rfl))))) (da_cons de_bl da_nil))))
  (dss_cons (ds_for PassesOwn.never rfl (di_seq (de_tup (da_cons (de_var 3) (da_cons (de_var 4) da_nil)))) (dg_name (i := 5) sc_check_two.nd rfl (by first | exact Or.inl rfl | exact Or.inr rfl)) (dss_one (ds_if (dt_cmp (op_neDK (K := K) hr.units) so_neU (DE.toB (de_cb YL.call_lenR sc_lenD rfl T.len (by with_unfolding_all rfl) (dab_cons (DE.toB (DM.toE (dm_dc (own := [("place", 7)]) rfl sc_check_two.nd (dib_seq (db_var 5)) (blkOk_by (N := ["first", "second", "keys", "one", "other", "found", "pair", "place"]) (sc := defScope scheck_two) (by decide +kernel)) (fun _ _ _ _ _ => (dg_name (i := 7) sc_check_two.nd rfl (by first | exact Or.inl rfl | exact Or.inr rfl))) (fun _ _ _ _ _ => dts_nil) (fun _ _ _ _ _ => (de_var 7)) (fun _ _ _ _ _ => de_bl)))) dab_nil))) (DE.toB (de_cb (call_lenK (K := K)) sc_len rfl T.len (by with_unfolding_all rfl) (dab_cons (db_var 5) dab_nil))) (nomark _)) (dss_one ds_never) dss_nil)))
  (dss_one (ds_ret (de_tup (da_cons (de_var 3) (da_cons (de_var 4) da_nil))))))))))), fun ds q h => ?_⟩
  obtain ⟨a0, a1, a2, a3, a4, a5, a6, a7, a8, a9, a10, a11, a12, a13, a14, a15, a16, a17, a18, a19, a20, a21, a22, a23, a24, a25, a26, a27, a28, a29, a30, a31, a32⟩ := L
  obtain ⟨s, t, kk, rfl, ok1, ok2, hq⟩ := h
  have hkl : kk.length ≤ 100 := by have := ok1.1; rwa [List.length_map] at this
  walk_at "x"
  · exact absurd ‹knd false = knd true› (by decide)
  refine g_lcT (f := pairN) (rows := kk) (fun p d => d = .bl true) (szl (by omega)) (fun p hp L R hL hR => ?_) fun l hl => ?_
  · walk_at "x"
    exact hR _ rfl
  · obtain rfl := hl.map (g := fun _ => .bl true) fun _ _ h => h
    rw [show List.map (fun _ => D.bl true) kk = List.map D.bl (kk.map fun _ => true) from by rw [List.map_map]; rfl]
    have hall : (kk.map fun _ => true).all id = true := by simp
    walk_at "x"
    rw [bllsOf_map]
    walk_at "x"
    rw [hall]
    walk_at "x"
    refine ⟨_, _, M_places, rfl, ?_⟩
    walk_at "x"
    refine g_lcT (f := pairN) (rows := kk) (fun p d => d = nmD false p.1) (szl (by omega)) (fun p hp L R hL hR => ?_) fun l hl => ?_
    · walk_at "x"
      exact hR _ rfl
    · obtain rfl := hl.map (g := fun p => nmD false p.1) fun _ _ h => h
      walk_at "x"
      refine ⟨false, s, kk.map (·.1), _, false, rfl, .inl (by rw [List.map_map]; rfl), ok1.1, fun _ => ok1.2.1, ?_⟩
      walk_at "x"
      refine ⟨_, _, M_places, rfl, ?_⟩
      walk_at "x"
      refine g_lcT (f := pairN) (rows := kk) (fun p d => d = nmD true p.2) (szl (by omega)) (fun p hp L R hL hR => ?_) fun l hl => ?_
      · walk_at "x"
        exact hR _ rfl
      · obtain rfl := hl.map (g := fun p => nmD true p.2) fun _ _ h => h
        walk_at "x"
        refine ⟨true, t, kk.map (·.2), _, false, rfl, .inl (by rw [List.map_map]; rfl), ok2.1, fun _ => ok2.2.1, ?_⟩
        walk_at "x"
        refine g_for (fun i env => ∃ x5 x6 x7 : Sl, env = [.d (sideD c false s), .d (sideD c true t), .d (.lst (kk.map pairN)), .d (.tup ((kk.map (·.1)).map plD)), .d (.tup ((kk.map (·.2)).map plD)), x5, x6, x7]) ⟨_, _, _, rfl⟩ ?_ ?_
        · rintro i d env' hd ⟨x5, x6, x7, rfl⟩
          rcases (show i = 0 ∨ i = 1 from by have := (List.getElem?_eq_some_iff.mp hd).1; simp at this; omega) with rfl | rfl
          · cases hd
            walk_at "x"
            refine kDc_i ⟨fun k acc => acc = kdD (((kk.map (·.1)).map placeI).take k), rfl, ?_, ?_⟩
            · rintro k d acc hd rfl
              rw [pl_map, List.getElem?_map] at hd
              cases hn : ((kk.map (·.1)).map placeI)[k]? with
              | none => rw [hn] at hd; cases hd
              | some x =>
                rw [hn] at hd
                cases hd
                have hl : (kdD (((kk.map (·.1)).map placeI).take k)).length ≤ 100 := by rw [kd_len, List.length_take, List.length_map]; have := (ok1).1; omega
                walk_at "x"
                exact kd_take (pl_nd (ok1).2.2) hn
            · rintro acc rfl
              have hlen : (kdD (((kk.map (·.1)).map placeI).take ((kk.map (·.1)).map plD).length)).length = ((kk.map (·.1)).map plD).length := by rw [kd_len, List.length_map, List.take_of_length_le (by rw [List.length_map]; exact Nat.le_refl _), List.length_map]
              walk_at "x"
              · exact ‹¬ _ = _› (congrArg (fun n : Nat => D.int (n : Int)) hlen)
              · exact ⟨_, _, _, rfl⟩
          · cases hd
            walk_at "x"
            refine kDc_i ⟨fun k acc => acc = kdD (((kk.map (·.2)).map placeI).take k), rfl, ?_, ?_⟩
            · rintro k d acc hd rfl
              rw [pl_map, List.getElem?_map] at hd
              cases hn : ((kk.map (·.2)).map placeI)[k]? with
              | none => rw [hn] at hd; cases hd
              | some x =>
                rw [hn] at hd
                cases hd
                have hl : (kdD (((kk.map (·.2)).map placeI).take k)).length ≤ 100 := by rw [kd_len, List.length_take, List.length_map]; have := (ok2).1; omega
                walk_at "x"
                exact kd_take (pl_nd (ok2).2.2) hn
            · rintro acc rfl
              have hlen : (kdD (((kk.map (·.2)).map placeI).take ((kk.map (·.2)).map plD).length)).length = ((kk.map (·.2)).map plD).length := by rw [kd_len, List.length_map, List.take_of_length_le (by rw [List.length_map]; exact Nat.le_refl _), List.length_map]
              walk_at "x"
              · exact ‹¬ _ = _› (congrArg (fun n : Nat => D.int (n : Int)) hlen)
              · exact ⟨_, _, _, rfl⟩
        · rintro env' ⟨x5, x6, x7, rfl⟩
          walk_at "x"
          exact hq
theorem sc_check_worths : FnScope ["side", "keys", "worths", "barred", "found", "worth", "place"] ["side", "keys", "worths", "barred"] (defScope scheck_worths) := ⟨rfl, rfl, rfl, by decide +kernel, rfl, by decide +kernel, by decide +kernel⟩
-- slots: 0 side, 1 keys, 2 worths, 3 barred, 4 found, 5 worth, 6 place
theorem ok_check_worths (L : Cl K c) (T : Txt K mg) (h0 : Here K mg "check_worths" ["side", "keys", "worths", "barred"] scheck_worths) (F_check_number : Df P w K mg base 2 "check_number" ["number", "low", "word"] wNumber) (M_places : Dm P w K mg base 2 c.s "places" ["self", "names", "is_own"] (wPlaces c))  : Df P w K mg base 4 "check_worths" ["side", "keys", "worths", "barred"] (wWorths c) := by
  obtain ⟨_, _, fworth1, fworth2, fworth3⟩ := T.fworth.ex
  obtain ⟨_, _, pworth1, pworth2, pworth3⟩ := T.pworth.ex
  refine df_of h0 sc_check_worths (fun ds q h => by obtain ⟨κ, s, bys, ws, bar, rfl, _⟩ := h; rfl) fun f cdv A outer s H E hr => ⟨_, _,
  (dss_cons (ds_if (dt_not (dt_val (de_isi2 .lst .tup (de_var 2) rfl T.isinstance rfl T.list (by with_unfolding_all rfl) rfl T.tuple (by with_unfolding_all rfl) (K := K)))) (dss_one ds_never) dss_nil)
  (dss_cons (ds_set (i := 4) sc_check_worths.nd rfl (by first | exact Or.inl rfl | exact Or.inr rfl) (de_tup da_nil))
  (dss_cons (ds_for PassesOwn.never rfl (di_seq (de_var 2)) (dg_name (i := 5) sc_check_worths.nd rfl (by first | exact Or.inl rfl | exact Or.inr rfl)) (dss_cons (ds_if (DW.dt (dw_or (dt_not (dt_val (de_isi2 .lst .tup (de_var 5) rfl T.isinstance rfl T.list (by with_unfolding_all rfl) rfl T.tuple (by with_unfolding_all rfl) (K := K)))) (dw_or (dt_cmp (op_eqDK (K := K) hr.units) so_eqU (DE.toB (de_cb (call_lenK (K := K)) sc_len rfl T.len (by with_unfolding_all rfl) (dab_cons (db_var 5) dab_nil))) (DE.toB de_int) (nomark _)) (dw_or1 (dt_not (dt_val (de_isi (K := K) .str (de_ixK (K := K) (db_var 5) (DE.toB de_int) (fun _ _ => rfl)) rfl T.isinstance rfl T.str (by with_unfolding_all rfl)))))))) (dss_one ds_never) dss_nil)
  (dss_cons (ds_if (dt_cmp (op_inK (K := K)) so_in (DE.toB (de_ixK (K := K) (db_var 5) (DE.toB de_int) (fun _ _ => rfl))) (db_var 3) (by with_unfolding_all rfl)) (dss_one ds_never) dss_nil)
  (dss_one (ds_if (DW.dt (dw_and (dt_cmp (op_inK (K := K)) so_in (DE.toB (de_ixK (K := K) (db_var 5) (DE.toB de_int) (fun _ _ => rfl))) (DE.toB (de_glob rfl pworth1 pworth2 (fun G => pworth3 G) (by decide))) (by with_unfolding_all rfl)) (dw_and1 (dt_cmp (op_eqDK (K := K) hr.units) so_eqU (DE.toB (de_cb (call_lenK (K := K)) sc_len rfl T.len (by with_unfolding_all rfl) (dab_cons (db_var 5) dab_nil))) (DE.toB de_int) (nomark _))))) (dss_one (ds_set (i := 4) sc_check_worths.nd rfl (by first | exact Or.inl rfl | exact Or.inr rfl) (de_op (op_addUK (K := K)) so_add (db_var 4) (DE.toB (de_tup (da_cons (de_ty (call_tupleK (K := K)) sc_tuple rfl T.tuple (by with_unfolding_all rfl) (dab_cons (db_var 5) dab_nil)) da_nil)))))) (dss_one (ds_if (DW.dt (dw_and (dt_cmp op_eq so_eqS (DE.toB (de_ixK (K := K) (db_var 5) (DE.toB de_int) (fun _ _ => rfl))) (DE.toB de_str) (nomark _)) (dw_and1 (dt_cmp (op_eqDK (K := K) hr.units) so_eqU (DE.toB (de_cb (call_lenK (K := K)) sc_len rfl T.len (by with_unfolding_all rfl) (dab_cons (db_var 5) dab_nil))) (DE.toB de_int) (nomark _))))) (dss_cons (ds_expr (de_clK (K := K) F_check_number (hr.mono (by omega)) rfl (da_cons (de_ixK (K := K) (db_var 5) (DE.toB de_int) (fun _ _ => rfl)) (da_cons de_int (da_cons de_str da_nil)))))
  (dss_one (ds_set (i := 4) sc_check_worths.nd rfl (by first | exact Or.inl rfl | exact Or.inr rfl) (de_op (op_addUK (K := K)) so_add (db_var 4) (DE.toB (de_tup (da_cons (de_ty (call_tupleK (K := K)) sc_tuple rfl T.tuple (by with_unfolding_all rfl) (dab_cons (db_var 5) dab_nil)) da_nil))))))) (dss_one (ds_if (DW.dt (dw_and (dt_cmp (op_inK (K := K)) so_in (DE.toB (de_ixK (K := K) (db_var 5) (DE.toB de_int) (fun _ _ => rfl))) (DE.toB (de_glob rfl fworth1 fworth2 (fun G => fworth3 G) (by decide))) (by with_unfolding_all rfl)) (dw_and1 (dt_cmp (op_eqDK (K := K) hr.units) so_eqU (DE.toB (de_cb (call_lenK (K := K)) sc_len rfl T.len (by with_unfolding_all rfl) (dab_cons (db_var 5) dab_nil))) (DE.toB de_int) (nomark _))))) (dss_cons (ds_set (i := 6) sc_check_worths.nd rfl (by first | exact Or.inl rfl | exact Or.inr rfl) (de_ixK (K := K) (DE.toB (de_meth (P := P) (w0 := w) (K := K) (mg := mg) (base := base) 2 (de_var 0) (hr.mono (by omega)) (da_cons (de_sliceK (K := K) (db_var 5) (do_some de_int) do_none) (da_cons de_bl da_nil)))) (DE.toB de_int) (fun _ _ => rfl)))
  (dss_cons (ds_if (dt_cmp (op_inK (K := K)) so_in (db_var 6) (db_var 1) (by with_unfolding_all rfl)) (dss_one ds_never) dss_nil)
  (dss_one (ds_set (i := 4) sc_check_worths.nd rfl (by first | exact Or.inl rfl | exact Or.inr rfl) (de_op (op_addUK (K := K)) so_add (db_var 4) (DE.toB (de_tup (da_cons (de_tup (da_cons (de_ixK (K := K) (db_var 5) (DE.toB de_int) (fun _ _ => rfl)) (da_cons (de_var 6) da_nil))) da_nil)))))))) (dss_one ds_never))))))))))
  (dss_one (ds_ret (de_var 4)))))), fun ds q h => ?_⟩
  obtain ⟨a0, a1, a2, a3, a4, a5, a6, a7, a8, a9, a10, a11, a12, a13, a14, a15, a16, a17, a18, a19, a20, a21, a22, a23, a24, a25, a26, a27, a28, a29, a30, a31, a32⟩ := L
  obtain ⟨κ, s, bys, ws, bar, rfl, hl, ok, hq⟩ := h
  walk_at "x"
  refine g_for (InWo c κ s bys ws bar) ⟨[], ws, _, _, rfl, rfl, rfl⟩ ?_ ?_
  · rintro i d env' hd ⟨pre, post, x5, x6, e, rfl, rfl⟩
    subst e
    obtain ⟨w1, r, rfl, rfl⟩ := splitG hd
    have ow := ok w1 (List.mem_append_right _ List.mem_cons_self)
    have hpl : pre.length ≤ 100 := by rw [List.length_append] at hl; omega
    have hpl2 : (pre.map wtR).length ≤ 100 := by rw [List.length_map]; exact hpl
    cases w1 with
    | pl k =>
      have f1 := fl_strs k bar
      have f2 : Flat (D.str k) ∧ ∀ x ∈ [D.str "count", D.str "first", D.str "last"], Flat x := fl_strs k plainL
      have f3 : Flat (D.str k) ∧ ∀ x ∈ [D.str "sum", D.str "least", D.str "greatest", D.str "unlike"], Flat x := fl_strs k fieldL
      have hin : D.str k ∈ [D.str "count", D.str "first", D.str "last"] := mem_strs (bar := plainL).mpr (by have := ow.2; simpa using this)
      have nb : D.str k ∉ List.map D.str bar := fun z => ow.1 (mem_strs.mp z)
      walk_at "x"
      · exact absurd (D.int.inj ‹D.int _ = D.int 0›) (show ¬ (1 : Int) = 0 by decide)
      · exact nb ‹_›
      any_goals first | exact absurd hin ‹_› | exact absurd (show D.int 1 = D.int 1 from rfl) ‹¬ _ = D.int 1› | skip
      exact ⟨pre ++ [_], r, _, _, by rw [List.append_assoc]; rfl, by rw [List.length_append]; rfl, by rw [List.map_append (f := wtR)]; rfl⟩
    | al n =>
      have f1 := fl_strs "atleast" bar
      have f2 : Flat (D.str "atleast") ∧ ∀ x ∈ [D.str "count", D.str "first", D.str "last"], Flat x := fl_strs "atleast" plainL
      have f3 : Flat (D.str "atleast") ∧ ∀ x ∈ [D.str "sum", D.str "least", D.str "greatest", D.str "unlike"], Flat x := fl_strs "atleast" fieldL
      have hno : D.str "atleast" ∉ [D.str "count", D.str "first", D.str "last"] := fun z => absurd (mem_strs (bar := plainL).mp z) (by decide)
      have nb : D.str "atleast" ∉ List.map D.str bar := fun z => ow.1 (mem_strs.mp z)
      walk_at "x"
      · exact absurd (D.int.inj ‹D.int _ = D.int 0›) (show ¬ (2 : Int) = 0 by decide)
      · exact nb ‹_›
      any_goals first | exact absurd ‹_› hno | exact absurd rfl ‹¬ Str.ofString "atleast" = Str.ofString "atleast"› | exact absurd (show D.int 2 = D.int 2 from rfl) ‹¬ _ = D.int 2› | skip
      refine ⟨n, 1, _, rfl, ow.2, ?_⟩
      walk_at "x"
      exact ⟨pre ++ [_], r, _, _, by rw [List.append_assoc]; rfl, by rw [List.length_append]; rfl, by rw [List.map_append (f := wtR)]; rfl⟩
    | fi k f =>
      have f1 := fl_strs k bar
      have f2 : Flat (D.str k) ∧ ∀ x ∈ [D.str "count", D.str "first", D.str "last"], Flat x := fl_strs k plainL
      have f3 : Flat (D.str k) ∧ ∀ x ∈ [D.str "sum", D.str "least", D.str "greatest", D.str "unlike"], Flat x := fl_strs k fieldL
      have hin : D.str k ∈ [D.str "sum", D.str "least", D.str "greatest", D.str "unlike"] := mem_strs (bar := fieldL).mpr (by have := ow.2.1; simpa using this)
      have hno : D.str k ∉ [D.str "count", D.str "first", D.str "last"] := fun z => by
        have z := mem_strs (bar := plainL).mp z
        rcases ow.2.1 with rfl | rfl | rfl | rfl <;> revert z <;> decide
      have hna : k ≠ "atleast" := by rcases ow.2.1 with rfl | rfl | rfl | rfl <;> decide
      have nb : D.str k ∉ List.map D.str bar := fun z => ow.1 (mem_strs.mp z)
      have f4 := fl_pls (placeI f) bys
      have hnp : D.int (placeI f) ∉ bys.map plD := fun z => ow.2.2.2 (mem_pls.mp z)
      walk_at "x"
      · exact absurd (D.int.inj ‹D.int _ = D.int 0›) (show ¬ (2 : Int) = 0 by decide)
      · exact nb ‹_›
      any_goals first | exact absurd ‹_› hno | exact absurd ‹k = _› hna | exact absurd hin ‹_› | exact absurd (show D.int 2 = D.int 2 from rfl) ‹¬ _ = D.int 2› | skip
      refine ⟨_, _, M_places, rfl, ?_⟩
      walk_at "x"
      refine ⟨κ, s, [f], _, false, rfl, .inr rfl, show (1 : Nat) ≤ 100 by decide, fun _ m hm => by rw [List.mem_singleton.mp hm]; exact ow.2.2.1, ?_⟩
      walk_at "x"
      · exact hnp ‹_›
      exact ⟨pre ++ [_], r, _, _, by rw [List.append_assoc]; rfl, by rw [List.length_append]; rfl, by rw [List.map_append (f := wtR)]; rfl⟩
  · rintro env' ⟨pre, post, x5, x6, e, hp, rfl⟩
    subst e
    obtain rfl := endG hp
    walk_at "x"
    rw [List.append_nil] at hq
    exact hq
end
end S07

namespace S07
open PySem L2 Y
local macro_rules | `(tactic| walk_at $_:str) => `(tactic| (conv => whnf) <;> repeat' (first
  | (refine And.intro (fun (hc : (_ : Prop)) => ?_) (fun (hc : (_ : Prop)) => ?_) <;> first | exact (d_ni hc).elim | exact (d_nt hc).elim | exact (d_nl hc).elim | exact (d_tc hc).elim | exact (d_lc hc).elim | exact (hc rfl).elim | (conv => whnf))
  | (refine And.intro (by first | exact dr_t rfl | (with_reducible first | exact lz1 | exact lz2 | exact lz3 | exact lz0 | exact lz5 | exact pu_ii | exact lq2 | exact lq1 | exact lq3 | exact lq5 | assumption | exact ⟨puL _, pu_nl⟩ | exact rfl) | (with_reducible first | refine szl ?_ | refine szl2 ?_) <;> (first | omega | (simp only [List.length_append, List.length_map, List.length_cons, List.length_nil, List.length_set]; omega) | (simp only [List.length_append, List.length_map, List.length_cons, List.length_nil, List.length_set]; done)) | fail) ?_ <;> (conv => whnf))
  | fail))

/-! ### making -/
def nmj (κ : Bool) : Nat → Str
  | 0 => "k" | _ => nm1 κ
abbrev whD (κ : Bool) (its : List (Nat × List P2)) : List (Key × D) := its.map fun e => (Sum.inr (nmj κ e.1), .lst (e.2.map pD))
def Ev : List P2 := [(none, none)]
theorem ev_norm : Norm Ev := fun l h e1 e2 => (by cases e1)
theorem put_sets {κ : Bool} {s : Sets} (hs : s.length = 2) {j : Nat} (hj : j < 2) (r : List P2) : putD (setsK κ s) (Sum.inr (nmj κ j)) (sD r) = setsK κ (s.set j r) := by
  obtain ⟨x, y, rfl⟩ := two hs
  rcases (by omega : j = 0 ∨ j = 1) with rfl | rfl <;> cases κ <;> rfl
theorem in_sets {κ : Bool} {s : Sets} {j : Nat} (hj : j < 2) : (valD (setsK κ s) (Sum.inr (nmj κ j))).isSome = true := by
  rcases (by omega : j = 0 ∨ j = 1) with rfl | rfl <;> cases κ <;> rfl
def dcK (κ : Bool) (d : D) (k : Nat) : List (Key × D) := ([0, 1].take k).map fun n => ((Sum.inr (nmj κ n) : Key), d)
theorem dcK_len {κ : Bool} {d : D} {k : Nat} : (dcK κ d k).length ≤ 2 := by
  unfold dcK; rw [List.length_map, List.length_take]; exact Nat.min_le_right _ _
theorem nm_get {κ : Bool} {k : Nat} {d : D} (h : [D.str "k", D.str (nm1 κ)][k]? = some d) : k < 2 ∧ d = .str (nmj κ k) := by
  have hk : k < 2 := (List.getElem?_eq_some_iff.mp h).1
  refine ⟨hk, ?_⟩
  rcases (by omega : k = 0 ∨ k = 1) with rfl | rfl <;> cases h <;> rfl
theorem dcK_put {κ : Bool} {d : D} {k : Nat} (hk : k < 2) : dcK κ d (k + 1) = putD (dcK κ d k) (Sum.inr (nmj κ k)) d := by
  rcases (by omega : k = 0 ∨ k = 1) with rfl | rfl <;> cases κ <;> rfl
theorem pair_wh (κ : Bool) (its : List (Nat × List P2)) : pairD (whD κ its) = its.map fun e => .tup [.str (nmj κ e.1), .lst (e.2.map pD)] := by
  unfold pairD whD
  rw [List.map_map]
  rfl
theorem normS_set {s : Sets} {j : Nat} {r : List P2} (h : NormS s) (n : Norm r) (l : r.length ≤ 20) : NormS (s.set j r) := ⟨by rw [List.length_set]; exact h.1, fun one ho => by
  rcases List.mem_or_eq_of_mem_set ho with m | rfl
  · exact h.2 one m
  · exact ⟨n, l⟩⟩
theorem norm_ev : NormS [Ev, Ev] := ⟨rfl, fun one ho => by
  simp only [List.mem_cons, List.not_mem_nil, or_false, or_self] at ho
  subst ho; exact ⟨ev_norm, by decide⟩⟩
def InIt (a : Addr) (c : Ad) (κ : Bool) (m : Addr) (its : List (Nat × List P2)) (i : Nat) (env : List Sl) : Prop := ∃ (pre post : List (Nat × List P2)) (s : Sets) (x4 x5 x6 : Sl), its = pre ++ post ∧ pre.length = i ∧ NormS s ∧
  env = [.oi a c.s [("kinds", .d (kindsD c)), ("kind", .d (.str (knd κ))), ("sets", .od m (setsK κ s))], .d (kindsD c), .d (.str (knd κ)), .d (.dct (whD κ its)), x4, x5, x6]
def wKinds : WI := fun ds q => ds = [.dct fldD] ∧ q [("fields", .dct fldD)]
def wSide (c : Ad) : WI := fun ds q => ∃ (κ : Bool) (its : List (Nat × List P2)), ds = [kindsD c, .str (knd κ), .dct (whD κ its)] ∧ its.length ≤ 10 ∧ (∀ e ∈ its, e.1 < 2 ∧ e.2.length ≤ 20) ∧ ∀ s, NormS s → q [("kinds", kindsD c), ("kind", .str (knd κ)), ("sets", .dct (setsK κ s))]
theorem two_perm {a b : Str} {ys : List Str} (h : ys.Perm [a, b]) : ys = [a, b] ∨ ys = [b, a] := by
  have hl := h.length_eq
  obtain ⟨x, y, rfl⟩ := two hl
  have hx : x ∈ [a, b] := h.mem_iff.mp List.mem_cons_self
  rcases List.mem_cons.mp hx with rfl | hx
  · have := (List.perm_cons x).mp h
    have := List.perm_singleton.mp this
    left; rw [this]
  · rw [List.mem_singleton.mp hx] at h ⊢
    have h2 := h.trans (List.Perm.swap b a [])
    have := List.perm_singleton.mp ((List.perm_cons b).mp h2)
    right; rw [this]
def wEach (c : Ad) : WI := fun ds q => ∃ (s : Sets) (ns : List Nm), ds = [sideD c false s, .lst (ns.map (nmD false))] ∧ ns.length ≤ 100 ∧ q [("side", sideD c false s), ("told", .tup (ns.map plD))]
def OkWs (bys : List Nm) (bar : List Str) (ws : List Wt) : Prop := ws.length ≤ 100 ∧ ∀ w ∈ ws, OkW bys bar w
abbrev wsD (ws : List Wt) : D := .lst (ws.map (wtD false))
abbrev wsR (ws : List Wt) : D := .tup (ws.map wtR)
abbrev nsD (κ : Bool) (ns : List Nm) : D := .lst (ns.map (nmD κ))
abbrev nsR (ns : List Nm) : D := .tup (ns.map plD)
def wWindows (c : Ad) : WI := fun ds q => ∃ (s : Sets) (bys : List Nm) (l st : Int) (ws : List Wt), ds = [sideD c false s, nsD false bys, .int l, .int st, wsD ws] ∧ KeysOk bys ∧ 1 ≤ st ∧ st ≤ l ∧ OkWs bys [] ws ∧ q [("side", sideD c false s), ("by", nsR bys), ("length", .int l), ("step", .int st), ("worths", wsR ws)]
def wBlocks (c : Ad) : WI := fun ds q => ∃ (s : Sets) (bys : List Nm) (l : Int) (ws : List Wt), ds = [sideD c false s, nsD false bys, .int l, wsD ws] ∧ KeysOk bys ∧ 1 ≤ l ∧ OkWs bys ["first", "last", "atleast"] ws ∧ q [("side", sideD c false s), ("by", nsR bys), ("size", .int l), ("worths", wsR ws)]
def wSessions (c : Ad) : WI := fun ds q => ∃ (s : Sets) (bys : List Nm) (l : Int) (ws : List Wt), ds = [sideD c false s, nsD false bys, .int l, wsD ws] ∧ KeysOk bys ∧ 1 ≤ l ∧ OkWs bys ["atleast", "unlike"] ws ∧ q [("side", sideD c false s), ("by", nsR bys), ("gap", .int l), ("worths", wsR ws)]
def TwoOk (kk : List (Nm × Nm)) : Prop := KeysOk (kk.map (·.1)) ∧ KeysOk (kk.map (·.2))
abbrev modeS (near : Bool) : Str := match near with | true => "near" | false => "behind"
def wPairs (c : Ad) : WI := fun ds q => ∃ (s t : Sets) (kk : List (Nm × Nm)) (near : Bool) (r : Int) (t1 t2 : List Nm), ds = [sideD c false s, sideD c true t, .lst (kk.map pairN), .str (modeS near), .int r, .tup [nsD false t1, nsD true t2]] ∧ TwoOk kk ∧ 0 ≤ r ∧ (near = false → 1 ≤ r) ∧ t1.length ≤ 100 ∧ t2.length ≤ 100 ∧
  q [("first", sideD c false s), ("second", sideD c true t), ("first_keys", nsR (kk.map (·.1))), ("second_keys", nsR (kk.map (·.2))), ("mode", .str (modeS near)), ("reach", .int r), ("first_told", nsR t1), ("second_told", nsR t2)]
def wLonely (c : Ad) : WI := fun ds q => ∃ (s t : Sets) (kk : List (Nm × Nm)) (r : Int) (t1 : List Nm), ds = [sideD c false s, sideD c true t, .lst (kk.map pairN), .int r, nsD false t1] ∧ TwoOk kk ∧ 1 ≤ r ∧ t1.length ≤ 100 ∧
  q [("first", sideD c false s), ("second", sideD c true t), ("first_keys", nsR (kk.map (·.1))), ("second_keys", nsR (kk.map (·.2))), ("reach", .int r), ("told", nsR t1)]
section
variable {P : Program} {w : World} {K : PySem.W.Frag} {mg : Str → Option Value} {base : Heap} {c : Ad}
theorem sc_Kinds_init : FnScope ["self", "fields", "found", "kind", "names", "name"] ["self", "fields"] (defScope sKinds_init) := ⟨rfl, rfl, rfl, by decide +kernel, rfl, by decide +kernel, by decide +kernel⟩
-- slots: 0 self, 1 fields, 2 found, 3 kind, 4 names, 5 name
theorem ok_Kinds_init (L : Cl K c) (T : Txt K mg) (h0 : HereI K mg "Kinds" c.k "Kinds.__init__" ["self", "fields"] sKinds_init) (F_is_name : Df P w K mg base 1 "is_name" ["thing"] wIsName)  : Di P w K mg base 2 "Kinds" c.k ["self", "fields"] wKinds := by
  obtain ⟨_, _, own1, own2, own3⟩ := T.own.ex
  refine di_of h0 sc_Kinds_init (fun ds q h => by obtain ⟨rfl, _⟩ := h; rfl) fun f cdv A outer s H E hr => ⟨_, _,
  (dss_cons (ds_setM (i := 2) sc_Kinds_init.nd rfl (by first | exact Or.inl rfl | exact Or.inr rfl) dm_new)
  (dss_cons (ds_for PassesOwn.never rfl (di_seq (DN.toE (dn_sortK rfl rfl T.sorted (db_var 1)))) (dg_name (i := 3) sc_Kinds_init.nd rfl (by first | exact Or.inl rfl | exact Or.inr rfl)) (dss_cons (ds_set (i := 4) sc_Kinds_init.nd rfl (by first | exact Or.inl rfl | exact Or.inr rfl) (de_ty (call_tupleK (K := K)) sc_tupleC rfl T.tuple (by with_unfolding_all rfl) (dab_cons (DE.toB (de_dget hr.units (db_var 1) (de_var 3))) dab_nil)))
  (dss_cons (ds_if (DW.dt (dw_or (dt_not (dt_val (de_clK (K := K) F_is_name (hr.mono (by omega)) rfl (da_cons (de_var 3) da_nil)))) (dw_or1 (dt_not (dt_val (de_cb (cr_allK (K := K) rfl) sc_all rfl T.all (by with_unfolding_all rfl) (dab_cons (DE.toB (DN.toE (dn_lc (own := [("name", 5)]) rfl sc_Kinds_init.nd (DI.toB (di_seq (de_wk (de_var 4)))) (blkOk_by (N := ["self", "fields", "found", "kind", "names", "name"]) (sc := defScope sKinds_init) (by decide +kernel)) (fun _ _ _ _ _ => (dg_name (i := 5) sc_Kinds_init.nd rfl (by first | exact Or.inl rfl | exact Or.inr rfl))) (fun _ _ _ _ _ => dts_nil) (fun _ _ _ _ _ => (de_and (de_clK (K := K) F_is_name (hr.mono (by omega)) rfl (da_cons (de_var 5) da_nil)) (de_one (de_cmp (op_notInK (K := K)) so_notIn (db_var 5) (DE.toB (de_wk (de_glob rfl own1 own2 (fun G => own3 G) (by decide)))) (by with_unfolding_all rfl)))))))) dab_nil))))))) (dss_one ds_never) dss_nil)
  (dss_cons (ds_if (dt_cmp (op_neDK (K := K) hr.units) so_neU (DE.toB (de_cb YL.call_lenR sc_lenD rfl T.len (by with_unfolding_all rfl) (dab_cons (DE.toB (DM.toE (dm_dc (own := [("name", 5)]) rfl sc_Kinds_init.nd (DI.toB (di_seq (de_wk (de_var 4)))) (blkOk_by (N := ["self", "fields", "found", "kind", "names", "name"]) (sc := defScope sKinds_init) (by decide +kernel)) (fun _ _ _ _ _ => (dg_name (i := 5) sc_Kinds_init.nd rfl (by first | exact Or.inl rfl | exact Or.inr rfl))) (fun _ _ _ _ _ => dts_nil) (fun _ _ _ _ _ => (de_var 5)) (fun _ _ _ _ _ => de_bl)))) dab_nil))) (DE.toB (de_cb (call_lenK (K := K)) sc_len rfl T.len (by with_unfolding_all rfl) (dab_cons (DE.toB (de_wk (de_var 4))) dab_nil))) (nomark _)) (dss_one ds_never) dss_nil)
  (dss_one (ds_dput 2 hr.units (pe_var rfl (by first | exact Or.inl rfl | exact Or.inr (Or.inl rfl) | exact Or.inr (Or.inr rfl)) (by decide) (by decide)) (de_var 3) (de_var 4)))))))
  (dss_one (ds_frzD 2 (ds_fld (K := K) 0 (pe_var rfl (by first | exact Or.inl rfl | exact Or.inr (Or.inl rfl) | exact Or.inr (Or.inr rfl)) (by decide) (by decide)) (de_var 2)))))), fun a ds q h => ?_⟩
  obtain ⟨a0, a1, a2, a3, a4, a5, a6, a7, a8, a9, a10, a11, a12, a13, a14, a15, a16, a17, a18, a19, a20, a21, a22, a23, a24, a25, a26, a27, a28, a29, a30, a31, a32⟩ := L
  obtain ⟨rfl, hq⟩ := h
  walk_at "x"
  refine ⟨["a", "b"], rfl, by decide, fun ys hp hso => ?_⟩
  obtain rfl : ys = [Str.ofString "a", Str.ofString "b"] := by
    rcases two_perm hp with e | e
    · exact e
    · rw [e] at hso; exact absurd hso (by decide +kernel)
  conv => whnf
  refine g_for (fun m env => ∃ x3 x4 x5 : Sl, env = [.oi a c.k [], .d (.dct fldD), .od (fldD.take m), x3, x4, x5]) ⟨_, _, _, rfl⟩ ?_ ?_
  · rintro m d env' hd ⟨x3, x4, x5, rfl⟩
    have hm : m = 0 ∨ m = 1 := by
      have := (List.getElem?_eq_some_iff.mp hd).1
      simp at this; omega
    rcases hm with rfl | rfl
    · cases hd
      walk_at "x"
      refine ⟨"a", rfl, by decide, ?_⟩
      walk_at "x"
      refine g_lcT (α := Str) (f := D.str) (rows := ["k", "v"]) (fun r y => y = .bl true) (szl (show (2 : Nat) ≤ 10000 by decide)) (fun r hr L R hL hR => ?_) fun l hl => ?_
      · have hr' : r = "k" ∨ r = "v" := by simpa using hr
        have fl := own_fl r
        walk_at "x"
        refine ⟨r, rfl, by rcases hr' with rfl | rfl <;> decide, ?_⟩
        walk_at "x"
        · exact hR _ rfl
        · exact absurd ‹_› (own_no (by rcases hr' with rfl | rfl; exact .inl rfl; exact .inr (.inl rfl)))
      · obtain rfl := hl.map (g := fun _ => .bl true) fun _ _ h => h
        walk_at "x"
        refine kDc_i ⟨fun k acc => acc = dcK false (.bl true) k, rfl, ?_, ?_⟩
        · rintro k d acc hd rfl
          obtain ⟨hk, rfl⟩ := nm_get (κ := false) hd
          have hl : (dcK false (.bl true) k).length ≤ 2 := dcK_len
          walk_at "x"
          exact (dcK_put hk).symm
        · rintro acc rfl
          walk_at "x"
          exact ⟨by decide, _, _, x5, rfl⟩
    · cases hd
      walk_at "x"
      refine ⟨"b", rfl, by decide, ?_⟩
      walk_at "x"
      refine g_lcT (α := Str) (f := D.str) (rows := ["k", "w"]) (fun r y => y = .bl true) (szl (show (2 : Nat) ≤ 10000 by decide)) (fun r hr L R hL hR => ?_) fun l hl => ?_
      · have hr' : r = "k" ∨ r = "w" := by simpa using hr
        have fl := own_fl r
        walk_at "x"
        refine ⟨r, rfl, by rcases hr' with rfl | rfl <;> decide, ?_⟩
        walk_at "x"
        · exact hR _ rfl
        · exact absurd ‹_› (own_no (by rcases hr' with rfl | rfl; exact .inl rfl; exact .inr (.inr rfl)))
      · obtain rfl := hl.map (g := fun _ => .bl true) fun _ _ h => h
        walk_at "x"
        refine kDc_i ⟨fun k acc => acc = dcK true (.bl true) k, rfl, ?_, ?_⟩
        · rintro k d acc hd rfl
          obtain ⟨hk, rfl⟩ := nm_get (κ := true) hd
          have hl : (dcK true (.bl true) k).length ≤ 2 := dcK_len
          walk_at "x"
          exact (dcK_put hk).symm
        · rintro acc rfl
          walk_at "x"
          exact ⟨by decide, _, _, x5, rfl⟩
  · rintro env' ⟨x3, x4, x5, rfl⟩
    walk_at "x"
    refine ⟨by decide, ?_⟩
    walk_at "x"
    exact hq
theorem sc_Side_init : FnScope ["self", "kinds", "kind", "where", "name", "pairs", "pair"] ["self", "kinds", "kind", "where"] (defScope sSide_init) := ⟨rfl, rfl, rfl, by decide +kernel, rfl, by decide +kernel, by decide +kernel⟩
-- slots: 0 self, 1 kinds, 2 kind, 3 where, 4 name, 5 pairs, 6 pair
theorem ok_Side_init (L : Cl K c) (T : Txt K mg) (h0 : HereI K mg "Side" c.s "Side.__init__" ["self", "kinds", "kind", "where"] sSide_init) (F_is_interval : Df P w K mg base 2 "is_interval" ["pair"] wIsIv) (F_normal : Df P w K mg base 1 "normal" ["pairs"] wNormal)  : Di P w K mg base 3 "Side" c.s ["self", "kinds", "kind", "where"] (wSide c) := by
  obtain ⟨_, _, every1, every2, every3⟩ := T.every.ex
  refine di_of h0 sc_Side_init (fun ds q h => by obtain ⟨κ, its, rfl, _⟩ := h; rfl) fun f cdv A outer s H E hr => ⟨_, _,
  (dss_frzF 0 "sets" (dss_cons (ds_if (dt_dnotin hr.units (de_var 2) (DE.toB (de_attr (K := K) (de_var 1)))) (dss_one ds_never) dss_nil)
  (dss_cons (ds_fld (K := K) 0 (pe_var rfl (by first | exact Or.inl rfl | exact Or.inr (Or.inl rfl) | exact Or.inr (Or.inr rfl)) (by decide) (by decide)) (de_var 1))
  (dss_cons (ds_fld (K := K) 0 (pe_var rfl (by first | exact Or.inl rfl | exact Or.inr (Or.inl rfl) | exact Or.inr (Or.inr rfl)) (by decide) (by decide)) (de_var 2))
  (dss_cons (ds_fldM (K := K) 0 (pe_var rfl (by first | exact Or.inl rfl | exact Or.inr (Or.inl rfl) | exact Or.inr (Or.inr rfl)) (by decide) (by decide)) (dm_dc (own := [("name", 4)]) rfl sc_Side_init.nd (DI.toB (di_seq (de_wk (de_dget hr.units (DE.toB (de_attr (K := K) (de_var 1))) (de_var 2))))) (blkOk_by (N := ["self", "kinds", "kind", "where", "name", "pairs", "pair"]) (sc := defScope sSide_init) (by decide +kernel)) (fun _ _ _ _ _ => (dg_name (i := 4) sc_Side_init.nd rfl (by first | exact Or.inl rfl | exact Or.inr rfl))) (fun _ _ _ _ _ => dts_nil) (fun _ _ _ _ _ => (de_var 4)) (fun _ _ _ _ _ => (de_glob rfl every1 every2 (fun G => every3 G) (by decide)))))
  (dss_one (ds_for PassesOwn.never rfl (di_items (de_var 3)) (dg_tupK (K := K) (n := 2) rfl (dgs_cons (dg_name (i := 4) sc_Side_init.nd rfl (by first | exact Or.inl rfl | exact Or.inr rfl)) (dgs_cons (dg_name (i := 5) sc_Side_init.nd rfl (by first | exact Or.inl rfl | exact Or.inr rfl)) dgs_nil))) (dss_cons (ds_if (dt_dnotin hr.units (de_var 4) (db_of (K := K) 0 (pe_var rfl (by first | exact Or.inl rfl | exact Or.inr (Or.inl rfl) | exact Or.inr (Or.inr rfl)) (by decide) (by decide)))) (dss_one ds_never) dss_nil)
  (dss_cons (ds_if (DW.dt (dw_or (dt_not (dt_val (de_isi2 .lst .tup (de_var 5) rfl T.isinstance rfl T.list (by with_unfolding_all rfl) rfl T.tuple (by with_unfolding_all rfl) (K := K)))) (dw_or1 (dt_not (dt_val (de_cb (cr_allK (K := K) rfl) sc_all rfl T.all (by with_unfolding_all rfl) (dab_cons (DE.toB (DN.toE (dn_lc (own := [("pair", 6)]) rfl sc_Side_init.nd (dib_seq (db_var 5)) (blkOk_by (N := ["self", "kinds", "kind", "where", "name", "pairs", "pair"]) (sc := defScope sSide_init) (by decide +kernel)) (fun _ _ _ _ _ => (dg_name (i := 6) sc_Side_init.nd rfl (by first | exact Or.inl rfl | exact Or.inr rfl))) (fun _ _ _ _ _ => dts_nil) (fun _ _ _ _ _ => (de_clK (K := K) F_is_interval (hr.mono (by omega)) rfl (da_cons (de_var 6) da_nil)))))) dab_nil))))))) (dss_one ds_never) dss_nil)
  (dss_one (ds_fput (K := K) 0 hr.units (pe_var rfl (by first | exact Or.inl rfl | exact Or.inr (Or.inl rfl) | exact Or.inr (Or.inr rfl)) (by decide) (by decide)) (de_var 4) (de_clK (K := K) F_normal (hr.mono (by omega)) rfl (da_cons (de_var 5) da_nil))))))))))))), fun a ds q h => ?_⟩
  obtain ⟨a0, a1, a2, a3, a4, a5, a6, a7, a8, a9, a10, a11, a12, a13, a14, a15, a16, a17, a18, a19, a20, a21, a22, a23, a24, a25, a26, a27, a28, a29, a30, a31, a32⟩ := L
  obtain ⟨κ, its, rfl, hi, hl, hq⟩ := h
  cases κ
  · walk_at "x"
    refine ⟨by decide, ?_⟩
    walk_at "x"
    refine ⟨show (1 : Nat) < 1000 by decide, ?_⟩
    walk_at "x"
    refine kDc_i ⟨fun k acc => acc = dcK false (sD Ev) k, rfl, ?_, ?_⟩
    · rintro k d acc hd rfl
      obtain ⟨hk, rfl⟩ := nm_get (κ := false) hd
      have hl : (dcK false (sD Ev) k).length ≤ 2 := dcK_len
      walk_at "x"
      exact (dcK_put hk).symm
    · rintro acc rfl
      walk_at "x"
      refine ⟨show (2 : Nat) < 1000 by decide, fun m => ?_⟩
      walk_at "x"
      rw [pair_wh]
      refine g_for (InIt a c false m its) ⟨[], its, _, _, _, _, rfl, rfl, norm_ev, rfl⟩ ?_ ?_
      · rintro i d env' hd ⟨pre, post, s, x4, x5, x6, e, rfl, hr, rfl⟩
        subst e
        obtain ⟨x, r, rfl, rfl⟩ := splitG hd
        obtain ⟨hj, hll⟩ := hl x (List.mem_append_right _ List.mem_cons_self)
        have hin := in_sets (κ := false) (s := s) hj
        walk_at "x"
        rw [hin]
        walk_at "x"
        refine g_lcT (fun r y => y = .bl true) (szl (by omega)) (fun p hp L R hL hR => ?_) fun l2 hl2 => ?_
        · walk_at "x"
          exact ⟨p, rfl, hL, hR _ rfl⟩
        · obtain rfl := hl2.map (g := fun _ => .bl true) fun _ _ h => h
          rw [show List.map (fun _ => D.bl true) x.2 = List.map D.bl (x.2.map fun _ => true) from by rw [List.map_map]; rfl]
          have hall : (x.2.map fun _ => true).all id = true := by simp
          walk_at "x"
          rw [bllsOf_map]
          walk_at "x"
          rw [hall]
          walk_at "x"
          refine ⟨x.2, .inl rfl, by omega, fun nr hn hm hlr => ?_⟩
          walk_at "x"
          exact ⟨pre ++ [x], r, s.set x.1 nr, _, _, _, by rw [List.append_assoc]; rfl, by rw [List.length_append]; rfl, normS_set hr hn (by omega), by rw [put_sets hr.1 hj]; rfl⟩
      · rintro env' ⟨pre, post, s, x4, x5, x6, e, hlen, hr, rfl⟩
        subst e
        obtain rfl := endG hlen
        walk_at "x"
        exact hq s hr
  · walk_at "x"
    refine ⟨by decide, ?_⟩
    walk_at "x"
    refine ⟨show (1 : Nat) < 1000 by decide, ?_⟩
    walk_at "x"
    refine kDc_i ⟨fun k acc => acc = dcK true (sD Ev) k, rfl, ?_, ?_⟩
    · rintro k d acc hd rfl
      obtain ⟨hk, rfl⟩ := nm_get (κ := true) hd
      have hl : (dcK true (sD Ev) k).length ≤ 2 := dcK_len
      walk_at "x"
      exact (dcK_put hk).symm
    · rintro acc rfl
      walk_at "x"
      refine ⟨show (2 : Nat) < 1000 by decide, fun m => ?_⟩
      walk_at "x"
      rw [pair_wh]
      refine g_for (InIt a c true m its) ⟨[], its, _, _, _, _, rfl, rfl, norm_ev, rfl⟩ ?_ ?_
      · rintro i d env' hd ⟨pre, post, s, x4, x5, x6, e, rfl, hr, rfl⟩
        subst e
        obtain ⟨x, r, rfl, rfl⟩ := splitG hd
        obtain ⟨hj, hll⟩ := hl x (List.mem_append_right _ List.mem_cons_self)
        have hin := in_sets (κ := true) (s := s) hj
        walk_at "x"
        rw [hin]
        walk_at "x"
        refine g_lcT (fun r y => y = .bl true) (szl (by omega)) (fun p hp L R hL hR => ?_) fun l2 hl2 => ?_
        · walk_at "x"
          exact ⟨p, rfl, hL, hR _ rfl⟩
        · obtain rfl := hl2.map (g := fun _ => .bl true) fun _ _ h => h
          rw [show List.map (fun _ => D.bl true) x.2 = List.map D.bl (x.2.map fun _ => true) from by rw [List.map_map]; rfl]
          have hall : (x.2.map fun _ => true).all id = true := by simp
          walk_at "x"
          rw [bllsOf_map]
          walk_at "x"
          rw [hall]
          walk_at "x"
          refine ⟨x.2, .inl rfl, by omega, fun nr hn hm hlr => ?_⟩
          walk_at "x"
          exact ⟨pre ++ [x], r, s.set x.1 nr, _, _, _, by rw [List.append_assoc]; rfl, by rw [List.length_append]; rfl, normS_set hr hn (by omega), by rw [put_sets hr.1 hj]; rfl⟩
      · rintro env' ⟨pre, post, s, x4, x5, x6, e, hlen, hr, rfl⟩
        subst e
        obtain rfl := endG hlen
        walk_at "x"
        exact hq s hr
theorem sc_Each_init : FnScope ["self", "side", "told"] ["self", "side", "told"] (defScope sEach_init) := ⟨rfl, rfl, rfl, by decide +kernel, rfl, by decide +kernel, by decide +kernel⟩
-- slots: 0 self, 1 side, 2 told
theorem ok_Each_init (L : Cl K c) (T : Txt K mg) (h0 : HereI K mg "Each" c.e "Each.__init__" ["self", "side", "told"] sEach_init) (M_places : Dm P w K mg base 2 c.s "places" ["self", "names", "is_own"] (wPlaces c))  : Di P w K mg base 4 "Each" c.e ["self", "side", "told"] (wEach c) := by
  refine di_of h0 sc_Each_init (fun ds q h => by obtain ⟨s, ns, rfl, _⟩ := h; rfl) fun f cdv A outer s H E hr => ⟨_, _,
  (dss_cons (ds_fld (K := K) 0 (pe_var rfl (by first | exact Or.inl rfl | exact Or.inr (Or.inl rfl) | exact Or.inr (Or.inr rfl)) (by decide) (by decide)) (de_var 1))
  (dss_one (ds_fld (K := K) 0 (pe_var rfl (by first | exact Or.inl rfl | exact Or.inr (Or.inl rfl) | exact Or.inr (Or.inr rfl)) (by decide) (by decide)) (de_meth (P := P) (w0 := w) (K := K) (mg := mg) (base := base) 2 (de_var 1) (hr.mono (by omega)) (da_cons (de_var 2) (da_cons de_bl da_nil)))))), fun a ds q h => ?_⟩
  obtain ⟨a0, a1, a2, a3, a4, a5, a6, a7, a8, a9, a10, a11, a12, a13, a14, a15, a16, a17, a18, a19, a20, a21, a22, a23, a24, a25, a26, a27, a28, a29, a30, a31, a32⟩ := L
  obtain ⟨s, ns, rfl, hl, hq⟩ := h
  walk_at "x"
  refine ⟨by decide, ?_⟩
  walk_at "x"
  refine ⟨_, _, M_places, rfl, false, s, ns, _, true, rfl, .inl rfl, hl, fun z => (by cases z), ?_⟩
  walk_at "x"
  refine ⟨show (1 : Nat) < 1000 by decide, ?_⟩
  walk_at "x"
  exact hq
end
end S07

namespace S07
open PySem L2 Y
local macro_rules | `(tactic| walk_at $_:str) => `(tactic| (conv => whnf) <;> repeat' (first
  | (refine And.intro (fun (hc : (_ : Prop)) => ?_) (fun (hc : (_ : Prop)) => ?_) <;> first | exact (d_ni hc).elim | exact (d_nt hc).elim | exact (d_nl hc).elim | exact (d_tc hc).elim | exact (d_lc hc).elim | exact (hc rfl).elim | (conv => whnf))
  | (refine And.intro (by first | exact dr_t rfl | (with_reducible first | exact lz1 | exact lz2 | exact lz3 | exact lz0 | exact lz5 | exact pu_ii | exact lq2 | exact lq1 | exact lq3 | exact lq5 | assumption | exact ⟨puL _, pu_nl⟩ | exact rfl) | (with_reducible first | refine szl ?_ | refine szl2 ?_) <;> (first | omega | (simp only [List.length_append, List.length_map, List.length_cons, List.length_nil, List.length_set]; omega) | (simp only [List.length_append, List.length_map, List.length_cons, List.length_nil, List.length_set]; done)) | fail) ?_ <;> (conv => whnf))
  | fail))

theorem nb_nil {s : Str} : s ∉ ([] : List Str) := fun h => by cases h
section
variable {P : Program} {w : World} {K : PySem.W.Frag} {mg : Str → Option Value} {base : Heap} {c : Ad}
theorem sc_Windows_init : FnScope ["self", "side", "keys", "length", "step", "worths"] ["self", "side", "keys", "length", "step", "worths"] (defScope sWindows_init) := ⟨rfl, rfl, rfl, by decide +kernel, rfl, by decide +kernel, by decide +kernel⟩
-- slots: 0 self, 1 side, 2 keys, 3 length, 4 step, 5 worths
theorem ok_Windows_init (L : Cl K c) (T : Txt K mg) (h0 : HereI K mg "Windows" c.w "Windows.__init__" ["self", "side", "keys", "length", "step", "worths"] sWindows_init) (F_check_keys : Df P w K mg base 3 "check_keys" ["side", "keys"] (wKeys c)) (F_check_number : Df P w K mg base 2 "check_number" ["number", "low", "word"] wNumber) (F_check_worths : Df P w K mg base 4 "check_worths" ["side", "keys", "worths", "barred"] (wWorths c))  : Di P w K mg base 5 "Windows" c.w ["self", "side", "keys", "length", "step", "worths"] (wWindows c) := by
  refine di_of h0 sc_Windows_init (fun ds q h => by obtain ⟨s, bys, l, st, ws, rfl, _⟩ := h; rfl) fun f cdv A outer s H E hr => ⟨_, _,
  (dss_cons (ds_fld (K := K) 0 (pe_var rfl (by first | exact Or.inl rfl | exact Or.inr (Or.inl rfl) | exact Or.inr (Or.inr rfl)) (by decide) (by decide)) (de_var 1))
  (dss_cons (ds_fld (K := K) 0 (pe_var rfl (by first | exact Or.inl rfl | exact Or.inr (Or.inl rfl) | exact Or.inr (Or.inr rfl)) (by decide) (by decide)) (de_clK (K := K) F_check_keys (hr.mono (by omega)) rfl (da_cons (de_var 1) (da_cons (de_var 2) da_nil))))
  (dss_cons (ds_expr (de_clK (K := K) F_check_number (hr.mono (by omega)) rfl (da_cons (de_var 3) (da_cons de_int (da_cons de_str da_nil)))))
  (dss_cons (ds_expr (de_clK (K := K) F_check_number (hr.mono (by omega)) rfl (da_cons (de_var 4) (da_cons de_int (da_cons de_str da_nil)))))
  (dss_cons (ds_if (dt_cmp op_gt so_gt (db_var 4) (db_var 3) (nomark _)) (dss_one ds_never) dss_nil)
  (dss_cons (ds_fld (K := K) 0 (pe_var rfl (by first | exact Or.inl rfl | exact Or.inr (Or.inl rfl) | exact Or.inr (Or.inr rfl)) (by decide) (by decide)) (de_var 3))
  (dss_cons (ds_fld (K := K) 0 (pe_var rfl (by first | exact Or.inl rfl | exact Or.inr (Or.inl rfl) | exact Or.inr (Or.inr rfl)) (by decide) (by decide)) (de_var 4))
  (dss_one (ds_fld (K := K) 0 (pe_var rfl (by first | exact Or.inl rfl | exact Or.inr (Or.inl rfl) | exact Or.inr (Or.inr rfl)) (by decide) (by decide)) (de_clK (K := K) F_check_worths (hr.mono (by omega)) rfl (da_cons (de_var 1) (da_cons (de_of (K := K) 0 (pe_var rfl (by first | exact Or.inl rfl | exact Or.inr (Or.inl rfl) | exact Or.inr (Or.inr rfl)) (by decide) (by decide))) (da_cons (de_var 5) (da_cons (de_tup da_nil) da_nil)))))))))))))), fun a ds q h => ?_⟩
  obtain ⟨a0, a1, a2, a3, a4, a5, a6, a7, a8, a9, a10, a11, a12, a13, a14, a15, a16, a17, a18, a19, a20, a21, a22, a23, a24, a25, a26, a27, a28, a29, a30, a31, a32⟩ := L
  obtain ⟨s, bys, l, st, ws, rfl, ok1, h1, h2, ok2, hq⟩ := h
  walk_at "x"
  refine ⟨show (0 : Nat) < 1000 by decide, ?_⟩
  walk_at "x"
  refine ⟨false, s, bys, rfl, ok1, ?_⟩
  walk_at "x"
  refine ⟨show (1 : Nat) < 1000 by decide, ?_⟩
  walk_at "x"
  refine ⟨l, 1, _, rfl, by omega, ?_⟩
  walk_at "x"
  refine ⟨st, 1, _, rfl, h1, ?_⟩
  walk_at "x"
  · exact absurd h2 (by have := ‹l < st›; omega)
  refine ⟨show (2 : Nat) < 1000 by decide, ?_⟩
  walk_at "x"
  refine ⟨show (3 : Nat) < 1000 by decide, ?_⟩
  walk_at "x"
  refine ⟨false, s, bys, ws, [], rfl, ok2.1, ok2.2, ?_⟩
  walk_at "x"
  refine ⟨show (4 : Nat) < 1000 by decide, ?_⟩
  walk_at "x"
  exact hq
theorem sc_Blocks_init : FnScope ["self", "side", "keys", "size", "worths"] ["self", "side", "keys", "size", "worths"] (defScope sBlocks_init) := ⟨rfl, rfl, rfl, by decide +kernel, rfl, by decide +kernel, by decide +kernel⟩
-- slots: 0 self, 1 side, 2 keys, 3 size, 4 worths
theorem ok_Blocks_init (L : Cl K c) (T : Txt K mg) (h0 : HereI K mg "Blocks" c.b "Blocks.__init__" ["self", "side", "keys", "size", "worths"] sBlocks_init) (F_check_keys : Df P w K mg base 3 "check_keys" ["side", "keys"] (wKeys c)) (F_check_number : Df P w K mg base 2 "check_number" ["number", "low", "word"] wNumber) (F_check_worths : Df P w K mg base 4 "check_worths" ["side", "keys", "worths", "barred"] (wWorths c))  : Di P w K mg base 5 "Blocks" c.b ["self", "side", "keys", "size", "worths"] (wBlocks c) := by
  refine di_of h0 sc_Blocks_init (fun ds q h => by obtain ⟨s, bys, l, ws, rfl, _⟩ := h; rfl) fun f cdv A outer s H E hr => ⟨_, _,
  (dss_cons (ds_fld (K := K) 0 (pe_var rfl (by first | exact Or.inl rfl | exact Or.inr (Or.inl rfl) | exact Or.inr (Or.inr rfl)) (by decide) (by decide)) (de_var 1))
  (dss_cons (ds_fld (K := K) 0 (pe_var rfl (by first | exact Or.inl rfl | exact Or.inr (Or.inl rfl) | exact Or.inr (Or.inr rfl)) (by decide) (by decide)) (de_clK (K := K) F_check_keys (hr.mono (by omega)) rfl (da_cons (de_var 1) (da_cons (de_var 2) da_nil))))
  (dss_cons (ds_expr (de_clK (K := K) F_check_number (hr.mono (by omega)) rfl (da_cons (de_var 3) (da_cons de_int (da_cons de_str da_nil)))))
  (dss_cons (ds_fld (K := K) 0 (pe_var rfl (by first | exact Or.inl rfl | exact Or.inr (Or.inl rfl) | exact Or.inr (Or.inr rfl)) (by decide) (by decide)) (de_var 3))
  (dss_one (ds_fld (K := K) 0 (pe_var rfl (by first | exact Or.inl rfl | exact Or.inr (Or.inl rfl) | exact Or.inr (Or.inr rfl)) (by decide) (by decide)) (de_clK (K := K) F_check_worths (hr.mono (by omega)) rfl (da_cons (de_var 1) (da_cons (de_of (K := K) 0 (pe_var rfl (by first | exact Or.inl rfl | exact Or.inr (Or.inl rfl) | exact Or.inr (Or.inr rfl)) (by decide) (by decide))) (da_cons (de_var 4) (da_cons (de_tup (da_cons de_str (da_cons de_str (da_cons de_str da_nil)))) da_nil))))))))))), fun a ds q h => ?_⟩
  obtain ⟨a0, a1, a2, a3, a4, a5, a6, a7, a8, a9, a10, a11, a12, a13, a14, a15, a16, a17, a18, a19, a20, a21, a22, a23, a24, a25, a26, a27, a28, a29, a30, a31, a32⟩ := L
  obtain ⟨s, bys, l, ws, rfl, ok1, h1, ok2, hq⟩ := h
  walk_at "x"
  refine ⟨show (0 : Nat) < 1000 by decide, ?_⟩
  walk_at "x"
  refine ⟨false, s, bys, rfl, ok1, ?_⟩
  walk_at "x"
  refine ⟨show (1 : Nat) < 1000 by decide, ?_⟩
  walk_at "x"
  refine ⟨l, 1, _, rfl, h1, ?_⟩
  walk_at "x"
  refine ⟨show (2 : Nat) < 1000 by decide, ?_⟩
  walk_at "x"
  refine ⟨false, s, bys, ws, ["first", "last", "atleast"], rfl, ok2.1, ok2.2, ?_⟩
  walk_at "x"
  refine ⟨show (3 : Nat) < 1000 by decide, ?_⟩
  walk_at "x"
  exact hq
theorem sc_Sessions_init : FnScope ["self", "side", "keys", "gap", "worths"] ["self", "side", "keys", "gap", "worths"] (defScope sSessions_init) := ⟨rfl, rfl, rfl, by decide +kernel, rfl, by decide +kernel, by decide +kernel⟩
-- slots: 0 self, 1 side, 2 keys, 3 gap, 4 worths
theorem ok_Sessions_init (L : Cl K c) (T : Txt K mg) (h0 : HereI K mg "Sessions" c.n "Sessions.__init__" ["self", "side", "keys", "gap", "worths"] sSessions_init) (F_check_keys : Df P w K mg base 3 "check_keys" ["side", "keys"] (wKeys c)) (F_check_number : Df P w K mg base 2 "check_number" ["number", "low", "word"] wNumber) (F_check_worths : Df P w K mg base 4 "check_worths" ["side", "keys", "worths", "barred"] (wWorths c))  : Di P w K mg base 5 "Sessions" c.n ["self", "side", "keys", "gap", "worths"] (wSessions c) := by
  refine di_of h0 sc_Sessions_init (fun ds q h => by obtain ⟨s, bys, l, ws, rfl, _⟩ := h; rfl) fun f cdv A outer s H E hr => ⟨_, _,
  (dss_cons (ds_fld (K := K) 0 (pe_var rfl (by first | exact Or.inl rfl | exact Or.inr (Or.inl rfl) | exact Or.inr (Or.inr rfl)) (by decide) (by decide)) (de_var 1))
  (dss_cons (ds_fld (K := K) 0 (pe_var rfl (by first | exact Or.inl rfl | exact Or.inr (Or.inl rfl) | exact Or.inr (Or.inr rfl)) (by decide) (by decide)) (de_clK (K := K) F_check_keys (hr.mono (by omega)) rfl (da_cons (de_var 1) (da_cons (de_var 2) da_nil))))
  (dss_cons (ds_expr (de_clK (K := K) F_check_number (hr.mono (by omega)) rfl (da_cons (de_var 3) (da_cons de_int (da_cons de_str da_nil)))))
  (dss_cons (ds_fld (K := K) 0 (pe_var rfl (by first | exact Or.inl rfl | exact Or.inr (Or.inl rfl) | exact Or.inr (Or.inr rfl)) (by decide) (by decide)) (de_var 3))
  (dss_one (ds_fld (K := K) 0 (pe_var rfl (by first | exact Or.inl rfl | exact Or.inr (Or.inl rfl) | exact Or.inr (Or.inr rfl)) (by decide) (by decide)) (de_clK (K := K) F_check_worths (hr.mono (by omega)) rfl (da_cons (de_var 1) (da_cons (de_of (K := K) 0 (pe_var rfl (by first | exact Or.inl rfl | exact Or.inr (Or.inl rfl) | exact Or.inr (Or.inr rfl)) (by decide) (by decide))) (da_cons (de_var 4) (da_cons (de_tup (da_cons de_str (da_cons de_str da_nil))) da_nil))))))))))), fun a ds q h => ?_⟩
  obtain ⟨a0, a1, a2, a3, a4, a5, a6, a7, a8, a9, a10, a11, a12, a13, a14, a15, a16, a17, a18, a19, a20, a21, a22, a23, a24, a25, a26, a27, a28, a29, a30, a31, a32⟩ := L
  obtain ⟨s, bys, l, ws, rfl, ok1, h1, ok2, hq⟩ := h
  walk_at "x"
  refine ⟨show (0 : Nat) < 1000 by decide, ?_⟩
  walk_at "x"
  refine ⟨false, s, bys, rfl, ok1, ?_⟩
  walk_at "x"
  refine ⟨show (1 : Nat) < 1000 by decide, ?_⟩
  walk_at "x"
  refine ⟨l, 1, _, rfl, h1, ?_⟩
  walk_at "x"
  refine ⟨show (2 : Nat) < 1000 by decide, ?_⟩
  walk_at "x"
  refine ⟨false, s, bys, ws, ["atleast", "unlike"], rfl, ok2.1, ok2.2, ?_⟩
  walk_at "x"
  refine ⟨show (3 : Nat) < 1000 by decide, ?_⟩
  walk_at "x"
  exact hq
theorem sc_Pairs_init : FnScope ["self", "first", "second", "keys", "mode", "reach", "told"] ["self", "first", "second", "keys", "mode", "reach", "told"] (defScope sPairs_init) := ⟨rfl, rfl, rfl, by decide +kernel, rfl, by decide +kernel, by decide +kernel⟩
-- slots: 0 self, 1 first, 2 second, 3 keys, 4 mode, 5 reach, 6 told
theorem ok_Pairs_init (L : Cl K c) (T : Txt K mg) (h0 : HereI K mg "Pairs" c.p "Pairs.__init__" ["self", "first", "second", "keys", "mode", "reach", "told"] sPairs_init) (F_check_two : Df P w K mg base 3 "check_two" ["first", "second", "keys"] (wTwo c)) (F_check_number : Df P w K mg base 2 "check_number" ["number", "low", "word"] wNumber) (M_places : Dm P w K mg base 2 c.s "places" ["self", "names", "is_own"] (wPlaces c))  : Di P w K mg base 4 "Pairs" c.p ["self", "first", "second", "keys", "mode", "reach", "told"] (wPairs c) := by
  refine di_of h0 sc_Pairs_init (fun ds q h => by obtain ⟨s, t, kk, near, r, t1, t2, rfl, _⟩ := h; rfl) fun f cdv A outer s H E hr => ⟨_, _,
  (dss_cons (ds_fld (K := K) 0 (pe_var rfl (by first | exact Or.inl rfl | exact Or.inr (Or.inl rfl) | exact Or.inr (Or.inr rfl)) (by decide) (by decide)) (de_var 1))
  (dss_cons (ds_fld (K := K) 0 (pe_var rfl (by first | exact Or.inl rfl | exact Or.inr (Or.inl rfl) | exact Or.inr (Or.inr rfl)) (by decide) (by decide)) (de_var 2))
  (dss_cons (ds_fld2 (K := K) 0 (pe_var rfl (by first | exact Or.inl rfl | exact Or.inr (Or.inl rfl) | exact Or.inr (Or.inr rfl)) (by decide) (by decide)) (pe_var rfl (by first | exact Or.inl rfl | exact Or.inr (Or.inl rfl) | exact Or.inr (Or.inr rfl)) (by decide) (by decide)) (de_clK (K := K) F_check_two (hr.mono (by omega)) rfl (da_cons (de_var 1) (da_cons (de_var 2) (da_cons (de_var 3) da_nil)))) rfl)
  (dss_cons (ds_if (dt_cmp (op_notInK (K := K)) so_notIn (db_var 4) (DE.toB (de_tup (da_cons de_str (da_cons de_str da_nil)))) (by with_unfolding_all rfl)) (dss_one ds_never) dss_nil)
  (dss_cons (ds_expr (de_clK (K := K) F_check_number (hr.mono (by omega)) rfl (da_cons (de_var 5) (da_cons (de_ifE (dt_cmp op_eq so_eqS (db_var 4) (DE.toB de_str) (nomark _)) de_int de_int) (da_cons de_str da_nil)))))
  (dss_cons (ds_if (DW.dt (dw_or (dt_not (dt_val (de_isi2 .lst .tup (de_var 6) rfl T.isinstance rfl T.list (by with_unfolding_all rfl) rfl T.tuple (by with_unfolding_all rfl) (K := K)))) (dw_or1 (dt_cmp (op_neDK (K := K) hr.units) so_neU (DE.toB (de_cb (call_lenK (K := K)) sc_len rfl T.len (by with_unfolding_all rfl) (dab_cons (db_var 6) dab_nil))) (DE.toB de_int) (nomark _))))) (dss_one ds_never) dss_nil)
  (dss_cons (ds_fld (K := K) 0 (pe_var rfl (by first | exact Or.inl rfl | exact Or.inr (Or.inl rfl) | exact Or.inr (Or.inr rfl)) (by decide) (by decide)) (de_var 4))
  (dss_cons (ds_fld (K := K) 0 (pe_var rfl (by first | exact Or.inl rfl | exact Or.inr (Or.inl rfl) | exact Or.inr (Or.inr rfl)) (by decide) (by decide)) (de_var 5))
  (dss_cons (ds_fld (K := K) 0 (pe_var rfl (by first | exact Or.inl rfl | exact Or.inr (Or.inl rfl) | exact Or.inr (Or.inr rfl)) (by decide) (by decide)) (de_meth (P := P) (w0 := w) (K := K) (mg := mg) (base := base) 2 (de_var 1) (hr.mono (by omega)) (da_cons (de_ixK (K := K) (db_var 6) (DE.toB de_int) (fun _ _ => rfl)) (da_cons de_bl da_nil))))
  (dss_one (ds_fld (K := K) 0 (pe_var rfl (by first | exact Or.inl rfl | exact Or.inr (Or.inl rfl) | exact Or.inr (Or.inr rfl)) (by decide) (by decide)) (de_meth (P := P) (w0 := w) (K := K) (mg := mg) (base := base) 2 (de_var 2) (hr.mono (by omega)) (da_cons (de_ixK (K := K) (db_var 6) (DE.toB de_int) (fun _ _ => rfl)) (da_cons de_bl da_nil)))))))))))))), fun a ds q h => ?_⟩
  obtain ⟨a0, a1, a2, a3, a4, a5, a6, a7, a8, a9, a10, a11, a12, a13, a14, a15, a16, a17, a18, a19, a20, a21, a22, a23, a24, a25, a26, a27, a28, a29, a30, a31, a32⟩ := L
  obtain ⟨s, t, kk, near, r, t1, t2, rfl, ok, h0, h1, hl1, hl2, hq⟩ := h
  walk_at "x"
  refine ⟨show (0 : Nat) < 1000 by decide, ?_⟩
  walk_at "x"
  refine ⟨show (1 : Nat) < 1000 by decide, ?_⟩
  walk_at "x"
  refine ⟨s, t, kk, rfl, ok.1, ok.2, ?_⟩
  walk_at "x"
  refine ⟨show (2 : Nat) < 999 by decide, ?_⟩
  walk_at "x"
  have fl := two_fl (modeS near) "near" "behind"
  have hmd : D.str (modeS near) ∈ [D.str "near", D.str "behind"] := by
    cases near
    · exact List.mem_cons_of_mem _ List.mem_cons_self
    · exact List.mem_cons_self
  walk_at "x"
  · exact ‹¬ _ ∈ _› hmd
  · refine ⟨r, 0, _, rfl, h0, ?_⟩
    walk_at "x"
    refine ⟨show (4 : Nat) < 1000 by decide, ?_⟩
    walk_at "x"
    refine ⟨show (5 : Nat) < 1000 by decide, ?_⟩
    walk_at "x"
    refine ⟨_, _, M_places, rfl, false, s, t1, _, true, rfl, .inl rfl, hl1, fun z => (by cases z), ?_⟩
    walk_at "x"
    refine ⟨show (6 : Nat) < 1000 by decide, ?_⟩
    walk_at "x"
    refine ⟨_, _, M_places, rfl, true, t, t2, _, true, rfl, .inl rfl, hl2, fun z => (by cases z), ?_⟩
    walk_at "x"
    refine ⟨show (7 : Nat) < 1000 by decide, ?_⟩
    walk_at "x"
    exact hq
  · refine ⟨r, 1, _, rfl, h1 (by cases near; rfl; exact absurd rfl ‹modeS true ≠ _›), ?_⟩
    walk_at "x"
    refine ⟨show (4 : Nat) < 1000 by decide, ?_⟩
    walk_at "x"
    refine ⟨show (5 : Nat) < 1000 by decide, ?_⟩
    walk_at "x"
    refine ⟨_, _, M_places, rfl, false, s, t1, _, true, rfl, .inl rfl, hl1, fun z => (by cases z), ?_⟩
    walk_at "x"
    refine ⟨show (6 : Nat) < 1000 by decide, ?_⟩
    walk_at "x"
    refine ⟨_, _, M_places, rfl, true, t, t2, _, true, rfl, .inl rfl, hl2, fun z => (by cases z), ?_⟩
    walk_at "x"
    refine ⟨show (7 : Nat) < 1000 by decide, ?_⟩
    walk_at "x"
    exact hq
theorem sc_Lonely_init : FnScope ["self", "first", "second", "keys", "reach", "told"] ["self", "first", "second", "keys", "reach", "told"] (defScope sLonely_init) := ⟨rfl, rfl, rfl, by decide +kernel, rfl, by decide +kernel, by decide +kernel⟩
-- slots: 0 self, 1 first, 2 second, 3 keys, 4 reach, 5 told
theorem ok_Lonely_init (L : Cl K c) (T : Txt K mg) (h0 : HereI K mg "Lonely" c.l "Lonely.__init__" ["self", "first", "second", "keys", "reach", "told"] sLonely_init) (F_check_two : Df P w K mg base 3 "check_two" ["first", "second", "keys"] (wTwo c)) (F_check_number : Df P w K mg base 2 "check_number" ["number", "low", "word"] wNumber) (M_places : Dm P w K mg base 2 c.s "places" ["self", "names", "is_own"] (wPlaces c))  : Di P w K mg base 4 "Lonely" c.l ["self", "first", "second", "keys", "reach", "told"] (wLonely c) := by
  refine di_of h0 sc_Lonely_init (fun ds q h => by obtain ⟨s, t, kk, r, t1, rfl, _⟩ := h; rfl) fun f cdv A outer s H E hr => ⟨_, _,
  (dss_cons (ds_fld (K := K) 0 (pe_var rfl (by first | exact Or.inl rfl | exact Or.inr (Or.inl rfl) | exact Or.inr (Or.inr rfl)) (by decide) (by decide)) (de_var 1))
  (dss_cons (ds_fld (K := K) 0 (pe_var rfl (by first | exact Or.inl rfl | exact Or.inr (Or.inl rfl) | exact Or.inr (Or.inr rfl)) (by decide) (by decide)) (de_var 2))
  (dss_cons (ds_fld2 (K := K) 0 (pe_var rfl (by first | exact Or.inl rfl | exact Or.inr (Or.inl rfl) | exact Or.inr (Or.inr rfl)) (by decide) (by decide)) (pe_var rfl (by first | exact Or.inl rfl | exact Or.inr (Or.inl rfl) | exact Or.inr (Or.inr rfl)) (by decide) (by decide)) (de_clK (K := K) F_check_two (hr.mono (by omega)) rfl (da_cons (de_var 1) (da_cons (de_var 2) (da_cons (de_var 3) da_nil)))) rfl)
  (dss_cons (ds_expr (de_clK (K := K) F_check_number (hr.mono (by omega)) rfl (da_cons (de_var 4) (da_cons de_int (da_cons de_str da_nil)))))
  (dss_cons (ds_fld (K := K) 0 (pe_var rfl (by first | exact Or.inl rfl | exact Or.inr (Or.inl rfl) | exact Or.inr (Or.inr rfl)) (by decide) (by decide)) (de_var 4))
  (dss_one (ds_fld (K := K) 0 (pe_var rfl (by first | exact Or.inl rfl | exact Or.inr (Or.inl rfl) | exact Or.inr (Or.inr rfl)) (by decide) (by decide)) (de_meth (P := P) (w0 := w) (K := K) (mg := mg) (base := base) 2 (de_var 1) (hr.mono (by omega)) (da_cons (de_var 5) (da_cons de_bl da_nil)))))))))), fun a ds q h => ?_⟩
  obtain ⟨a0, a1, a2, a3, a4, a5, a6, a7, a8, a9, a10, a11, a12, a13, a14, a15, a16, a17, a18, a19, a20, a21, a22, a23, a24, a25, a26, a27, a28, a29, a30, a31, a32⟩ := L
  obtain ⟨s, t, kk, r, t1, rfl, ok, h1, hl1, hq⟩ := h
  walk_at "x"
  refine ⟨show (0 : Nat) < 1000 by decide, ?_⟩
  walk_at "x"
  refine ⟨show (1 : Nat) < 1000 by decide, ?_⟩
  walk_at "x"
  refine ⟨s, t, kk, rfl, ok.1, ok.2, ?_⟩
  walk_at "x"
  refine ⟨show (2 : Nat) < 999 by decide, ?_⟩
  walk_at "x"
  refine ⟨r, 1, _, rfl, h1, ?_⟩
  walk_at "x"
  refine ⟨show (4 : Nat) < 1000 by decide, ?_⟩
  walk_at "x"
  refine ⟨_, _, M_places, rfl, false, s, t1, _, true, rfl, .inl rfl, hl1, fun z => (by cases z), ?_⟩
  walk_at "x"
  refine ⟨show (5 : Nat) < 1000 by decide, ?_⟩
  walk_at "x"
  exact hq
end
end S07

namespace S07
open PySem L2 Y
local macro_rules | `(tactic| walk_at $_:str) => `(tactic| (conv => whnf) <;> repeat' (first
  | (refine And.intro (fun (hc : (_ : Prop)) => ?_) (fun (hc : (_ : Prop)) => ?_) <;> first | exact (d_ni hc).elim | exact (d_nt hc).elim | exact (d_nl hc).elim | exact (d_tc hc).elim | exact (d_lc hc).elim | exact (hc rfl).elim | (conv => whnf))
  | (refine And.intro (by first | exact dr_t rfl | (with_reducible first | exact lz1 | exact lz2 | exact lz3 | exact lz0 | exact lz5 | exact pu_ii | exact lq2 | exact lq1 | exact lq3 | exact lq5 | assumption | exact ⟨puL _, pu_nl⟩ | exact rfl) | (with_reducible first | refine szl ?_ | refine szl2 ?_) <;> (first | omega | (simp only [List.length_append, List.length_map, List.length_cons, List.length_nil, List.length_set]; omega) | (simp only [List.length_append, List.length_map, List.length_cons, List.length_nil, List.length_set]; done)) | fail) ?_ <;> (conv => whnf))
  | fail))

abbrev queriesD (c : Ad) (qs : List Qr) : D := .lst (qs.map (queryD c))
def OkQs (qs : List Qr) : Prop := qs.length ≤ 20 ∧ ∀ Q ∈ qs, OkQ Q
def rowsFrom (k : Nat) : List Sets → List Row
  | [] => []
  | s :: r => if emptyS s then rowsFrom (k + 1) r else (k, s) :: rowsFrom (k + 1) r
theorem rows_snoc (s : Sets) : ∀ (pre : List Sets) (k : Nat), rowsFrom k (pre ++ [s]) = rowsFrom k pre ++ (if emptyS s then [] else [(k + pre.length, s)])
  | [], k => by
    show (if emptyS s then rowsFrom (k + 1) [] else (k, s) :: rowsFrom (k + 1) []) = [] ++ _
    cases emptyS s <;> rfl
  | p :: r, k => by
    have h := rows_snoc s r (k + 1)
    have e : k + (p :: r).length = k + 1 + r.length := by rw [List.length_cons]; omega
    rw [e]
    show (if emptyS p then rowsFrom (k + 1) (r ++ [s]) else (k, p) :: rowsFrom (k + 1) (r ++ [s])) = (if emptyS p then rowsFrom (k + 1) r else (k, p) :: rowsFrom (k + 1) r) ++ _
    rw [h]
    cases emptyS p <;> rfl
theorem rows_len : ∀ (qs : List Sets) (k : Nat), (rowsFrom k qs).length ≤ qs.length
  | [], _ => Nat.le_refl _
  | p :: r, k => by
    have := rows_len r (k + 1)
    show (if emptyS p then rowsFrom (k + 1) r else (k, p) :: rowsFrom (k + 1) r).length ≤ _
    split <;> simp only [List.length_cons] <;> omega
theorem rows_mem : ∀ {qs : List Sets} {k : Nat} {r : Row}, r ∈ rowsFrom k qs ↔ ∃ i, r.1 = k + i ∧ qs[i]? = some r.2 ∧ emptyS r.2 = false
  | [], k, r => ⟨fun h => (by cases h), fun ⟨i, _, h, _⟩ => (by simp at h)⟩
  | p :: t, k, r => by
    have ih := rows_mem (qs := t) (k := k + 1) (r := r)
    have shift : (∃ i, r.1 = k + 1 + i ∧ t[i]? = some r.2 ∧ emptyS r.2 = false) ↔ (∃ i, r.1 = k + (i + 1) ∧ (p :: t)[i + 1]? = some r.2 ∧ emptyS r.2 = false) :=
      exists_congr fun i => by rw [List.getElem?_cons_succ, show k + 1 + i = k + (i + 1) by omega]
    show r ∈ (if emptyS p then rowsFrom (k + 1) t else (k, p) :: rowsFrom (k + 1) t) ↔ _
    constructor
    · intro h
      split at h
      · obtain ⟨i, a⟩ := shift.mp (ih.mp h); exact ⟨i + 1, a⟩
      · rename_i he
        rcases List.mem_cons.mp h with rfl | h
        · exact ⟨0, rfl, rfl, by simpa using he⟩
        · obtain ⟨i, a⟩ := shift.mp (ih.mp h); exact ⟨i + 1, a⟩
    · rintro ⟨i, a1, a2, a3⟩
      cases i with
      | zero =>
        rw [List.getElem?_cons_zero] at a2
        cases a2
        rw [if_neg (by rw [a3]; decide)]
        exact List.mem_cons.mpr (.inl (Prod.ext a1 rfl))
      | succ i =>
        have := ih.mpr (shift.mpr ⟨i, a1, a2, a3⟩)
        split
        · exact this
        · exact List.mem_cons_of_mem _ this
def rowsK (κ : Bool) (qs : List Qr) : List Row := rowsFrom 0 (qs.map (lk κ))
theorem okq_lk {Q : Qr} (h : OkQ Q) (κ : Bool) : NormS (lk κ Q) := by cases κ; exact h.1; exact h.2
theorem rows_ok {qs : List Qr} {κ : Bool} (h : OkQs qs) : OkRows (rowsK κ qs) := ⟨Nat.le_trans (rows_len _ 0) (by rw [List.length_map]; exact h.1), fun r hr => by
  obtain ⟨i, _, e, _⟩ := rows_mem.mp hr
  obtain ⟨Q, hQ, e⟩ := List.mem_map.mp (List.mem_of_getElem? e)
  rw [← e]; exact okq_lk (h.2 Q hQ) κ⟩
def B0 : Box := [(none, none), (none, none)]
theorem ok_B0 : OkBox B0 := ⟨rfl, fun p hp l h e1 e2 => by
  simp only [B0, List.mem_cons, List.not_mem_nil, or_false, or_self] at hp
  subst hp; cases e1⟩
theorem knd_inj {a b : Bool} (h : knd a = knd b) : a = b := by cases a <;> cases b <;> first | rfl | exact absurd h (by decide)
def sl : Qr → List (Bool × Sets)
  | .prs s t .. => [(false, s), (true, t)] | .lon s t .. => [(false, s), (true, t)]
  | q => [(false, lk false q)]
theorem sides_sl (c : Ad) (Q : Qr) : sidesD c Q = (sl Q).map fun p => sideD c p.1 p.2 := by cases Q <;> rfl
theorem sl_ok {Q : Qr} (h : OkQ Q) {p : Bool × Sets} (hp : p ∈ sl Q) : NormS p.2 := by
  cases Q <;> simp only [sl, List.mem_cons, List.not_mem_nil, or_false] at hp
  case prs => rcases hp with rfl | rfl; exact h.1; exact h.2
  case lon => rcases hp with rfl | rfl; exact h.1; exact h.2
  all_goals subst hp; exact h.1
def addR (κ : Bool) (n : Nat) (p : Bool × Sets) : List Row := if p.1 = κ then (if emptyS p.2 then [] else [(n, p.2)]) else []
theorem sl_add (κ : Bool) (n : Nat) (Q : Qr) : (sl Q).flatMap (addR κ n) = if emptyS (lk κ Q) then [] else [(n, lk κ Q)] := by
  cases Q <;> cases κ <;> simp [sl, addR, lk, emptyS, EmpS]
theorem flat_app {α β : Type} (f : α → List β) (a : List α) (x : α) : (a ++ [x]).flatMap f = a.flatMap f ++ f x := by simp
def wRows (c : Ad) : WD := fun ds q => ∃ (κ : Bool) (qs : List Qr), ds = [queriesD c qs, .str (knd κ)] ∧ OkQs qs ∧ q (rowsD (rowsK κ qs))
def InRo (c : Ad) (κ : Bool) (qs : List Qr) (n : Nat) (env : List Sl) : Prop := ∃ (pre post : List Qr) (x3 x4 x5 : Sl), qs = pre ++ post ∧ pre.length = n ∧ env = [.d (queriesD c qs), .d (.str (knd κ)), .ol ((rowsK κ pre).map rowD), x3, x4, x5]
def InR2 (c : Ad) (κ : Bool) (qs pre : List Qr) (Q : Qr) (m : Nat) (env : List Sl) : Prop := ∃ (p2 q2 : List (Bool × Sets)) (x5 : Sl), sl Q = p2 ++ q2 ∧ p2.length = m ∧ env = [.d (queriesD c qs), .d (.str (knd κ)), .ol ((rowsK κ pre ++ p2.flatMap (addR κ pre.length)).map rowD), .d (.int (pre.length : Nat)), .d (queryD c Q), x5]
theorem add_len (κ : Bool) (n : Nat) (l : List (Bool × Sets)) : (l.flatMap (addR κ n)).length ≤ l.length := by
  induction l with
  | nil => exact Nat.le_refl _
  | cons p r ih =>
    rw [List.flatMap_cons, List.length_append, List.length_cons]
    have : (addR κ n p).length ≤ 1 := by unfold addR; split <;> (try split) <;> simp
    omega
theorem sl_len (Q : Qr) : (sl Q).length ≤ 2 := by cases Q <;> simp [sl]
/-! trees -/
def trD : Tr → D
  | .lot ns => .tup [.str "lot", itD ns]
  | .bel i c l r => .tup [.str "below", .int ((3 : Int) + (i : Nat)), .int c, trD l, trD r]
def wNode (n : Nat) : WD := fun ds q => ∃ (rows : List Row) (b : Box), ds = [rowsD rows, sD b] ∧ OkBox b ∧ OkRows rows ∧ M rows b < n ∧ ∀ t, GoodT (leafR rows) b t → height t ≤ M rows b → q (trD t)
theorem ints_get {lo : Int} {n i : Nat} {d : D} (h : (Y.intsFrom lo n)[i]? = some d) : i < n ∧ d = .int (lo + i) := by
  unfold Y.intsFrom at h
  rw [List.getElem?_map] at h
  by_cases hi : i < n
  · rw [List.getElem?_range hi] at h
    cases h; exact ⟨hi, rfl⟩
  · rw [List.getElem?_eq_none (by rw [List.length_range]; omega)] at h; cases h
theorem okrows_in {rows : List Row} {b : Box} (h : OkRows rows) : OkRows (inBox rows b) := ⟨Nat.le_trans (List.length_filter_le ..) h.1, fun r hr => h.2 r (List.mem_filter.mp hr).1⟩
theorem pu_cs (cs : List Int) : Pu 32 (.lst (cs.map D.int)) ∧ Pu 32 (.lst []) := ⟨by unfold Pu; exact PuL.map fun i _ => by unfold Pu; trivial, pu_nl⟩
def InNd (rows : List Row) (b : Box) (i : Nat) (env : List Sl) : Prop := ∃ x3 x4 x5 x6 x7 x8 x9 x10 x11 : Sl, (∀ j < i, cutsF (inBox rows b) b j = []) ∧ env = [.d (rowsD rows), .d (sD b), .d (rowsD (inBox rows b)), x3, x4, x5, x6, x7, x8, x9, x10, x11]
theorem df_none {P : Program} {w : World} {K : PySem.W.Frag} {mg : Str → Option Value} {base : Heap} {x : Str} {ps N : List Str} {st : Stmt} {k : Nat} {W : WD} (h0 : Here K mg x ps st) (S : FnScope N ps (defScope st)) (hW : ∀ ds q, ¬ W ds q) : Df P w K mg base (k + 1) x ps W := by
  obtain ⟨f, fd, F, hm, hb⟩ := h0.ex
  refine ⟨f, fd, F.ok S (fun vs H Q E h => ?_) (fun cdv A outer s H vs Q E hr h => ?_), hm, F.kp, hb⟩
  · obtain ⟨_, _, _, _, _, h, _⟩ := h; exact (hW _ _ h).elim
  · obtain ⟨_, _, _, _, _, h, _⟩ := h; exact (hW _ _ h).elim
section
variable {P : Program} {w : World} {K : PySem.W.Frag} {mg : Str → Option Value} {base : Heap} {c : Ad}
theorem sc_rows_of : FnScope ["queries", "kind", "found", "number", "query", "side"] ["queries", "kind"] (defScope srows_of) := ⟨rfl, rfl, rfl, by decide +kernel, rfl, by decide +kernel, by decide +kernel⟩
-- slots: 0 queries, 1 kind, 2 found, 3 number, 4 query, 5 side
theorem ok_rows_of (L : Cl K c) (T : Txt K mg) (h0 : Here K mg "rows_of" ["queries", "kind"] srows_of) (F_sides_of : Df P w K mg base 3 "sides_of" ["query"] (wSides c)) (M_told : Dm P w K mg base 1 c.s "told" ["self"] (wTold c)) (M_is_empty : Dm P w K mg base 1 c.s "is_empty" ["self"] (wSEmpty c))  : Df P w K mg base 4 "rows_of" ["queries", "kind"] (wRows c) := by
  refine df_of h0 sc_rows_of (fun ds q h => by obtain ⟨κ, s, rfl, _⟩ := h; rfl) fun f cdv A outer s H E hr => ⟨_, _,
  (dss_cons (ds_setN (i := 2) sc_rows_of.nd rfl (by first | exact Or.inl rfl | exact Or.inr rfl) (dn_lst da_nil))
  (dss_cons (ds_for PassesOwn.never rfl (di_enum rfl T.enumerate (da_cons (de_var 0) da_nil)) (dg_tupK (K := K) (n := 2) rfl (dgs_cons (dg_name (i := 3) sc_rows_of.nd rfl (by first | exact Or.inl rfl | exact Or.inr rfl)) (dgs_cons (dg_name (i := 4) sc_rows_of.nd rfl (by first | exact Or.inl rfl | exact Or.inr rfl)) dgs_nil))) (dss_one (ds_for PassesOwn.never rfl (di_seq (de_clK (K := K) F_sides_of (hr.mono (by omega)) rfl (da_cons (de_var 4) da_nil))) (dg_name (i := 5) sc_rows_of.nd rfl (by first | exact Or.inl rfl | exact Or.inr rfl)) (dss_one (ds_if (DW.dt (dw_and (dt_cmp op_eq so_eqS (DE.toB (de_attr (K := K) (de_var 5))) (db_var 1) (nomark _)) (dw_and1 (dt_not (dt_val (de_meth0 (P := P) (w0 := w) (K := K) (mg := mg) (base := base) 1 (de_var 5) (hr.mono (by omega)))))))) (dss_one (ds_append 2 (pe_var rfl (by first | exact Or.inl rfl | exact Or.inr (Or.inl rfl) | exact Or.inr (Or.inr rfl)) (by decide) (by decide)) (de_tup (da_cons (de_var 3) (da_cons (de_ixK (K := K) (DE.toB (de_meth0 (P := P) (w0 := w) (K := K) (mg := mg) (base := base) 1 (de_var 5) (hr.mono (by omega)))) (DE.toB de_int) (fun _ _ => rfl)) da_nil))))) dss_nil)))))
  (dss_one (ds_retO 2)))), fun ds q h => ?_⟩
  obtain ⟨a0, a1, a2, a3, a4, a5, a6, a7, a8, a9, a10, a11, a12, a13, a14, a15, a16, a17, a18, a19, a20, a21, a22, a23, a24, a25, a26, a27, a28, a29, a30, a31, a32⟩ := L
  obtain ⟨κ, qs, rfl, ok, hq⟩ := h
  walk_at "x"
  refine g_for (InRo c κ qs) ⟨[], qs, _, _, _, rfl, rfl, rfl⟩ ?_ ?_
  · rintro n d env' hd ⟨pre, post, x3, x4, x5, e, rfl, rfl⟩
    subst e
    obtain ⟨y, hy, rfl⟩ := enumD_get hd
    obtain ⟨Q, r, rfl, rfl⟩ := splitG hy
    have hs := ok.2 Q (List.mem_append_right _ List.mem_cons_self)
    have hl : (rowsK κ pre).length ≤ 20 := by have := rows_len (pre.map (lk κ)) 0; have := ok.1; rw [List.length_append] at this; rw [List.length_map] at *; unfold rowsK; omega
    walk_at "x"
    refine ⟨Q, rfl, hs, ?_⟩
    rw [sides_sl]
    walk_at "x"
    refine g_for (InR2 c κ (pre ++ Q :: r) pre Q) ⟨[], sl Q, _, rfl, rfl, by rw [List.flatMap_nil, List.append_nil]; rfl⟩ ?_ ?_
    · rintro m d env' hd ⟨p2, q2, x5, e2, rfl, rfl⟩
      rw [e2] at hd
      obtain ⟨⟨κ2, s2⟩, r2, rfl, rfl⟩ := splitG hd
      have hsl := sl_len Q
      have hns : NormS s2 := sl_ok hs (p := (κ2, s2)) (by rw [e2]; exact List.mem_append_right _ List.mem_cons_self)
      have hl2 : (rowsK κ pre ++ p2.flatMap (addR κ pre.length)).length ≤ 30 := by
        have := add_len κ pre.length p2
        rw [e2, List.length_append] at hsl
        rw [List.length_append]; omega
      have hl3 : (List.map rowD (rowsK κ pre ++ p2.flatMap (addR κ pre.length))).length ≤ 30 := by rw [List.length_map]; exact hl2
      have step : ∀ x, InR2 c κ (pre ++ Q :: r) pre Q (p2.length + 1) [.d (queriesD c (pre ++ Q :: r)), .d (.str (knd κ)), .ol ((rowsK κ pre ++ (p2 ++ [(κ2, s2)]).flatMap (addR κ pre.length)).map rowD), .d (.int (pre.length : Nat)), .d (queryD c Q), x] := fun x => ⟨p2 ++ [(κ2, s2)], r2, x, by rw [e2, List.append_assoc]; rfl, by rw [List.length_append]; rfl, rfl⟩
      rw [flat_app] at step
      walk_at "x"
      · rename_i hk
        obtain rfl := knd_inj hk
        refine ⟨_, _, M_is_empty, rfl, κ2, s2, rfl, hns.1, ?_⟩
        unfold addR at step
        rw [if_pos rfl] at step
        cases he : emptyS s2 <;> rw [he] at step
        · walk_at "x"
          refine ⟨_, _, M_told, rfl, κ2, s2, rfl, hns.1, ?_⟩
          walk_at "x"
          rw [if_neg (by decide), ← List.append_assoc, List.map_append] at step
          exact step _
        · walk_at "x"
          rw [if_pos rfl, List.append_nil] at step
          exact step _
      · rename_i hk
        unfold addR at step
        rw [if_neg (fun z => hk (by rw [show κ2 = κ from z])), List.append_nil] at step
        exact step _
    · rintro env' ⟨p2, q2, x5, e2, hlen, rfl⟩
      rw [e2] at hlen
      obtain rfl := endG hlen
      rw [List.append_nil] at e2
      have e3 : rowsK κ (pre ++ [Q]) = rowsK κ pre ++ p2.flatMap (addR κ pre.length) := by
        rw [← e2, sl_add]
        show rowsFrom 0 ((pre ++ [Q]).map (lk κ)) = rowsFrom 0 (pre.map (lk κ)) ++ _
        rw [List.map_append, show [Q].map (lk κ) = [lk κ Q] from rfl, rows_snoc, List.length_map, Nat.zero_add]
      exact ⟨pre ++ [Q], r, .d (.int (pre.length : Nat)), .d (queryD c Q), x5, by rw [List.append_assoc]; rfl, by rw [List.length_append]; rfl, by rw [e3]⟩
  · rintro env' ⟨pre, post, x3, x4, x5, e, hlen, rfl⟩
    subst e
    rw [enumD_len] at hlen
    obtain rfl := endG hlen
    rw [List.append_nil] at hq
    walk_at "x"
    exact hq
theorem sc_node_for : FnScope ["rows", "box", "within", "at", "cuts", "cut", "low", "high", "below", "above", "number", "sets"] ["rows", "box"] (defScope snode_for) := ⟨rfl, rfl, rfl, by decide +kernel, rfl, by decide +kernel, by decide +kernel⟩
-- slots: 0 rows, 1 box, 2 within, 3 at, 4 cuts, 5 cut, 6 low, 7 high, 8 below, 9 above, 10 number, 11 sets
theorem ok_node_for {n : Nat} (T : Txt K mg) (h0 : Here K mg "node_for" ["rows", "box"] snode_for) (F_rows_within : Df P w K mg base 4 "rows_within" ["rows", "box"] wWithin) (F_inner_cuts : Df P w K mg base 2 "inner_cuts" ["rows", "box", "at"] wInner) (F_with_pair : Df P w K mg base 1 "with_pair" ["box", "at", "pair"] wWith) (F_node_for : Df P w K mg base (5 + n) "node_for" ["rows", "box"] (wNode n))  : Df P w K mg base (5 + n + 1) "node_for" ["rows", "box"] (wNode (n + 1)) := by
  refine df_of h0 sc_node_for (fun ds q h => by obtain ⟨rows, b, rfl, _⟩ := h; rfl) fun f cdv A outer s H E hr => ⟨_, _,
  (dss_cons (ds_set (i := 2) sc_node_for.nd rfl (by first | exact Or.inl rfl | exact Or.inr rfl) (de_clK (K := K) F_rows_within (hr.mono (by omega)) rfl (da_cons (de_var 0) (da_cons (de_var 1) da_nil))))
  (dss_cons (ds_for PassesOwn.never rfl (di_range1 rfl T.range (da_cons (de_cb (call_lenK (K := K)) sc_len rfl T.len (by with_unfolding_all rfl) (dab_cons (db_var 1) dab_nil)) da_nil)) (dg_name (i := 3) sc_node_for.nd rfl (by first | exact Or.inl rfl | exact Or.inr rfl)) (dss_cons (ds_set (i := 4) sc_node_for.nd rfl (by first | exact Or.inl rfl | exact Or.inr rfl) (de_clK (K := K) F_inner_cuts (hr.mono (by omega)) rfl (da_cons (de_var 2) (da_cons (de_var 1) (da_cons (de_var 3) da_nil)))))
  (dss_one (ds_if (dt_cmp (op_neDK (K := K) hr.units) so_neU (db_var 4) (DE.toB (DN.toE (dn_lst da_nil))) (nomark _)) (dss_cons (ds_asg (de_tup (da_cons (de_ixK (K := K) (db_var 4) (DE.toB (de_op op_fdiv so_fdiv (DE.toB (de_cb (call_lenK (K := K)) sc_len rfl T.len (by with_unfolding_all rfl) (dab_cons (db_var 4) dab_nil))) (DE.toB de_int))) (fun _ _ => rfl)) (da_cons (de_ixK (K := K) (db_var 1) (db_var 3) (fun _ _ => rfl)) da_nil))) (dg_tupK (K := K) (n := 2) rfl (dgs_cons (dg_name (i := 5) sc_node_for.nd rfl (by first | exact Or.inl rfl | exact Or.inr rfl)) (dgs_cons (dg_tupK (K := K) (n := 2) rfl (dgs_cons (dg_name (i := 6) sc_node_for.nd rfl (by first | exact Or.inl rfl | exact Or.inr rfl)) (dgs_cons (dg_name (i := 7) sc_node_for.nd rfl (by first | exact Or.inl rfl | exact Or.inr rfl)) dgs_nil))) dgs_nil))))
  (dss_cons (ds_set (i := 8) sc_node_for.nd rfl (by first | exact Or.inl rfl | exact Or.inr rfl) (de_clK (K := K) F_node_for (hr.mono (by omega)) rfl (da_cons (de_var 2) (da_cons (de_clK (K := K) F_with_pair (hr.mono (by omega)) rfl (da_cons (de_var 1) (da_cons (de_var 3) (da_cons (de_tup (da_cons (de_var 6) (da_cons (de_op op_sub so_sub (db_var 5) (DE.toB de_int)) da_nil))) da_nil)))) da_nil))))
  (dss_cons (ds_set (i := 9) sc_node_for.nd rfl (by first | exact Or.inl rfl | exact Or.inr rfl) (de_clK (K := K) F_node_for (hr.mono (by omega)) rfl (da_cons (de_var 2) (da_cons (de_clK (K := K) F_with_pair (hr.mono (by omega)) rfl (da_cons (de_var 1) (da_cons (de_var 3) (da_cons (de_tup (da_cons (de_var 5) (da_cons (de_var 7) da_nil))) da_nil)))) da_nil))))
  (dss_one (ds_ret (de_tup (da_cons de_str (da_cons (de_op (op_addUK (K := K)) so_add (DE.toB de_int) (db_var 3)) (da_cons (de_var 5) (da_cons (de_var 8) (da_cons (de_var 9) da_nil))))))))))) dss_nil))))
  (dss_one (ds_ret (de_tup (da_cons de_str (da_cons (de_ty (call_tupleK (K := K)) sc_tuple rfl T.tuple (by with_unfolding_all rfl) (dab_cons (DE.toB (DN.toE (dn_lc (own := [("number", 10), ("sets", 11)]) rfl sc_node_for.nd (dib_seq (db_var 2)) (blkOk_by (N := ["rows", "box", "within", "at", "cuts", "cut", "low", "high", "below", "above", "number", "sets"]) (sc := defScope snode_for) (by decide +kernel)) (fun _ _ _ _ _ => (dg_tupK (K := K) (n := 2) rfl (dgs_cons (dg_name (i := 10) sc_node_for.nd rfl (by first | exact Or.inl rfl | exact Or.inr rfl)) (dgs_cons (dg_name (i := 11) sc_node_for.nd rfl (by first | exact Or.inl rfl | exact Or.inr rfl)) dgs_nil)))) (fun _ _ _ _ _ => dts_nil) (fun _ _ _ _ _ => (de_var 10))))) dab_nil)) da_nil))))))), fun ds q h => ?_⟩
  obtain ⟨rows, b, rfl, hb, ok, hM, hq⟩ := h
  walk_at "x"
  refine ⟨rows, b, rfl, hb, ok, ?_⟩
  have okw := okrows_in (b := b) ok
  walk_at "x"
  refine ⟨by rw [List.length_map, hb.1]; decide, ?_⟩
  refine g_for (InNd rows b) ⟨_, _, _, _, _, _, _, _, _, fun j hj => absurd hj (Nat.not_lt_zero _), rfl⟩ ?_ ?_
  · rintro i d env' hd ⟨x3, x4, x5, x6, x7, x8, x9, x10, x11, hcs, rfl⟩
    obtain ⟨hi, rfl⟩ := ints_get hd
    rw [List.length_map, hb.1] at hi
    have hi : i < 2 := hi
    rw [Int.zero_add]
    walk_at "x"
    refine ⟨_, b, i, rfl, hb.1, hi, okw, ?_⟩
    have hpc := pu_cs (cutsF (inBox rows b) b i)
    have hsrt := srt_cutsF (rows := inBox rows b) (b := b) (i := i)
    generalize hce : cutsF (inBox rows b) b i = cs at hpc hsrt
    walk_at "x"
    · rename_i hne
      have hne : cs ≠ [] := fun z => hne (by rw [z]; rfl)
      have hlt : cs.length / 2 < cs.length := by
        have := List.length_pos_iff.mpr hne
        omega
      obtain ⟨cut, hcut⟩ : ∃ cut, cs[cs.length / 2]? = some cut := ⟨_, List.getElem?_eq_getElem hlt⟩
      have hcut' : (cutsF (inBox rows b) b i)[(cutsF (inBox rows b) b i).length / 2]? = some cut := by rw [hce]; exact hcut
      obtain ⟨_, _, _, hins⟩ := mem_cutsF.mp (List.mem_of_getElem? hcut')
      have ha : atI (cs.map D.int) (((cs.map D.int).length : Int) / 2) = some (.int cut) := by
        rw [List.length_map, show ((cs.length : Int) / 2) = ((cs.length / 2 : Nat) : Int) from by omega]
        exact atI_m hcut
      have M1 := M_lo hb.1 hi hcut'
      have M2 := M_hi hb.1 hi hcut'
      have M3 := M_within (rows := rows) (b := b)
      refine ⟨by decide, ?_⟩
      walk_at "x"
      rw [ha]
      walk_at "x"
      rw [atI_m (atB_some (by rw [hb.1]; exact hi))]
      walk_at "x"
      refine ⟨b, i, (_, some (cut - 1)), rfl, hb.1, hi, ?_⟩
      walk_at "x"
      refine ⟨inBox rows b, loBox b i cut, rfl, hb.lo hins, okw, by omega, fun tl gl hl => ?_⟩
      walk_at "x"
      refine ⟨b, i, (some cut, _), rfl, hb.1, hi, ?_⟩
      walk_at "x"
      refine ⟨inBox rows b, hiBox b i cut, rfl, hb.hi hins, okw, by omega, fun tr gr hr => ?_⟩
      walk_at "x"
      exact hq (.bel i cut tl tr) (node_bel hi hins gl gr) (by unfold height; omega)
    · rename_i hne
      have hne : cs = [] := by have := D.lst.inj hne; rwa [List.map_eq_nil_iff] at this
      exact ⟨_, _, _, _, _, _, _, _, _, fun j hj => by
        rcases Nat.lt_or_eq_of_le (Nat.lt_succ_iff.mp hj) with h | rfl
        · exact hcs j h
        · rw [hce, hne], rfl⟩
  · rintro env' ⟨x3, x4, x5, x6, x7, x8, x9, x10, x11, hcs, rfl⟩
    rw [show (Y.intsFrom 0 ((List.map pD b).length : Int).toNat).length = 2 from by unfold Y.intsFrom; rw [List.length_map, List.length_range, List.length_map, hb.1]; rfl] at hcs
    walk_at "x"
    refine g_lcT (fun r d => d = .int (r.1 : Nat)) (szl (by have := okw.1; omega)) (fun r hr L R hL hR => ?_) fun l hl => ?_
    · walk_at "x"
      exact hR _ rfl
    · have e := hl.map (g := fun r => .int (r.1 : Nat)) fun _ _ h => h
      subst e
      walk_at "x"
      have e2 : itD ((inBox rows b).map fun r => ((r.1 : Nat) : Int)) = .tup ((inBox rows b).map fun r => D.int (r.1 : Nat)) := by
        show D.tup (List.map _ (List.map _ _)) = _
        rw [List.map_map]; rfl
      have := hq (.lot ((inBox rows b).map fun r => ((r.1 : Nat) : Int))) (show leafR rows b _ from node_leaf hb.1 fun i hi => hcs i hi) (Nat.zero_le _)
      unfold trD at this
      rw [e2] at this
      exact this
end
end S07

namespace S07
open PySem L2 Y
local macro_rules | `(tactic| walk_at $_:str) => `(tactic| (conv => whnf) <;> repeat' (first
  | (refine And.intro (fun (hc : (_ : Prop)) => ?_) (fun (hc : (_ : Prop)) => ?_) <;> first | exact (d_ni hc).elim | exact (d_nt hc).elim | exact (d_nl hc).elim | exact (d_tc hc).elim | exact (d_lc hc).elim | exact (hc rfl).elim | (conv => whnf))
  | (refine And.intro (by first | exact dr_t rfl | (with_reducible first | exact lz1 | exact lz2 | exact lz3 | exact lz0 | exact lz5 | exact pu_ii | exact lq2 | exact lq1 | exact lq3 | exact lq5 | assumption | exact ⟨puL _, pu_nl⟩ | exact rfl) | (with_reducible first | refine szl ?_ | refine szl2 ?_) <;> (first | omega | (simp only [List.length_append, List.length_map, List.length_cons, List.length_nil, List.length_set]; omega) | (simp only [List.length_append, List.length_map, List.length_cons, List.length_nil, List.length_set]; done)) | fail) ?_ <;> (conv => whnf))
  | fail))

theorem ok_node {P : Program} {w : World} {K : PySem.W.Frag} {mg : Str → Option Value} {base : Heap} (T : Txt K mg) (h0 : Here K mg "node_for" ["rows", "box"] snode_for) (F_rows_within : Df P w K mg base 4 "rows_within" ["rows", "box"] wWithin) (F_inner_cuts : Df P w K mg base 2 "inner_cuts" ["rows", "box", "at"] wInner) (F_with_pair : Df P w K mg base 1 "with_pair" ["box", "at", "pair"] wWith) : ∀ n, Df P w K mg base (5 + n) "node_for" ["rows", "box"] (wNode n)
  | 0 => df_none h0 sc_node_for fun ds q h => by obtain ⟨_, _, _, _, _, h, _⟩ := h; omega
  | n + 1 => ok_node_for T h0 F_rows_within F_inner_cuts F_with_pair (ok_node T h0 F_rows_within F_inner_cuts F_with_pair n)
abbrev treeD (ta tb : Tr) : D := .dct [(.inr "a", trD ta), (.inr "b", trD tb)]
def sel (κ : Bool) (ta tb : Tr) : Tr := match κ with | false => ta | true => tb
def wWalked : WD := fun ds q => ∃ (κ : Bool) (ta tb : Tr) (e : List Int), ds = [treeD ta tb, evD (knd κ) e] ∧ e.length = 2 ∧ ixOk (sel κ ta tb) ∧ q (.tup [itD (lotAt e (sel κ ta tb)), .int (testsAt e (sel κ ta tb) : Nat)])
def wLot : WD := fun ds q => ∃ (κ : Bool) (ta tb : Tr) (e : List Int), ds = [treeD ta tb, evD (knd κ) e] ∧ e.length = 2 ∧ ixOk (sel κ ta tb) ∧ q (itD (lotAt e (sel κ ta tb)))
def InWk (X : D) (κ : Str) (t : Tr) (e : List Int) (env : List Sl) : Prop := ∃ (t' : Tr) (k : Nat), env = [.d X, .d (evD κ e), .d (trD t'), .d (.int (k : Nat))] ∧ lotAt e t' = lotAt e t ∧ k + testsAt e t' = testsAt e t ∧ ixOk t'
def muWk (n : Nat) (env : List Sl) : Nat := match env[3]? with | some (Sl.d (D.int k)) => ((n : Int) - k).toNat | _ => 0
theorem wkL {X : D} {κ : Str} {t l r : Tr} {e : List Int} {k i : Nat} {c : Int} (h : (e[i]?).getD 0 < c) (h1 : lotAt e (.bel i c l r) = lotAt e t) (h2 : k + testsAt e (.bel i c l r) = testsAt e t) (h3 : ixOk l) : InWk X κ t e [.d X, .d (evD κ e), .d (trD l), .d (.int ((k : Int) + 1))] ∧ muWk (testsAt e t) [.d X, .d (evD κ e), .d (trD l), .d (.int ((k : Int) + 1))] < muWk (testsAt e t) [.d X, .d (evD κ e), .d (trD (.bel i c l r)), .d (.int (k : Nat))] := by
  rw [show lotAt e (.bel i c l r) = if (e[i]?).getD 0 < c then lotAt e l else lotAt e r from rfl, if_pos h] at h1
  rw [show testsAt e (.bel i c l r) = (if (e[i]?).getD 0 < c then testsAt e l else testsAt e r) + 1 from rfl, if_pos h] at h2
  refine ⟨⟨l, k + 1, rfl, h1, by omega, h3⟩, ?_⟩
  show ((testsAt e t : Nat) - ((k : Int) + 1)).toNat < ((testsAt e t : Nat) - ((k : Nat) : Int)).toNat
  omega
theorem wkR {X : D} {κ : Str} {t l r : Tr} {e : List Int} {k i : Nat} {c : Int} (h : ¬ (e[i]?).getD 0 < c) (h1 : lotAt e (.bel i c l r) = lotAt e t) (h2 : k + testsAt e (.bel i c l r) = testsAt e t) (h3 : ixOk r) : InWk X κ t e [.d X, .d (evD κ e), .d (trD r), .d (.int ((k : Int) + 1))] ∧ muWk (testsAt e t) [.d X, .d (evD κ e), .d (trD r), .d (.int ((k : Int) + 1))] < muWk (testsAt e t) [.d X, .d (evD κ e), .d (trD (.bel i c l r)), .d (.int (k : Nat))] := by
  rw [show lotAt e (.bel i c l r) = if (e[i]?).getD 0 < c then lotAt e l else lotAt e r from rfl, if_neg h] at h1
  rw [show testsAt e (.bel i c l r) = (if (e[i]?).getD 0 < c then testsAt e l else testsAt e r) + 1 from rfl, if_neg h] at h2
  refine ⟨⟨r, k + 1, rfl, h1, by omega, h3⟩, ?_⟩
  show ((testsAt e t : Nat) - ((k : Int) + 1)).toNat < ((testsAt e t : Nat) - ((k : Nat) : Int)).toNat
  omega
theorem ab_ok : PySem.W.AllAlike (List.map D.py (List.map (fun kv => kD kv.fst) fldD)) ∧ PySem.W.Sortable (List.map D.py (List.map (fun kv => kD kv.fst) fldD)) ∧ ∀ z : D, z ∈ List.map (fun kv => kD kv.fst) fldD → Pu 31 z := by
  have e : List.map (fun kv => kD kv.fst) fldD = [D.str "a", D.str "b"] := rfl
  rw [e]
  refine ⟨fun d hd d' hd' => ?_, .inr fun d hd => ?_, fun z hz => ?_⟩
  · have h1 : d = PyData.str "a" ∨ d = PyData.str "b" := by simpa [D.py] using hd
    have h2 : d' = PyData.str "a" ∨ d' = PyData.str "b" := by simpa [D.py] using hd'
    rcases h1 with rfl | rfl <;> rcases h2 with rfl | rfl <;> rfl
  · have h1 : d = PyData.str "a" ∨ d = PyData.str "b" := by simpa [D.py] using hd
    rcases h1 with rfl | rfl <;> exact ⟨fun z => (by cases z), fun xs z => (by cases z)⟩
  · have h1 : z = .str "a" ∨ z = .str "b" := by simpa using hz
    rcases h1 with rfl | rfl <;> (unfold Pu; decide +kernel)
theorem sort_ab : List.mergeSort (List.map (fun kv => kD kv.fst) fldD) dLe = [.str "a", .str "b"] := by
  show List.mergeSort [D.str "a", D.str "b"] dLe = _
  refine List.mergeSort_of_pairwise ?_
  refine List.pairwise_cons.mpr ⟨fun x hx => ?_, List.pairwise_singleton ..⟩
  rw [List.mem_singleton.mp hx]
  decide +kernel
theorem cuts_le {rows : List Row} (h : OkRows rows) (b : Box) (i : Nat) : bl (cutsF rows b i).length ≤ 10 := by
  refine bl_lt (Nat.lt_of_le_of_lt (m := 40 * rows.length) ?_ (by have := h.1; omega))
  have hs : ∀ l : List Int, (sortS l).length ≤ l.length := fun l => by
    induction l with
    | nil => exact Nat.le_refl _
    | cons c r ih =>
      have : ∀ (z : List Int), (insS c z).length ≤ z.length + 1 := fun z => by
        induction z with
        | nil => exact Nat.le_refl _
        | cons d t ih2 =>
          unfold insS
          split
          · simp
          · split
            · simp
            · simp only [List.length_cons]; omega
      show (insS c (sortS r)).length ≤ _
      have := this (sortS r)
      rw [List.length_cons]; omega
  refine Nat.le_trans (hs _) ?_
  have h2 := h.2
  clear h
  unfold rawCuts
  induction rows with
  | nil => exact Nat.le_refl _
  | cons r t ih =>
    rw [List.flatMap_cons, List.length_append, List.length_cons]
    have := ih fun r hr => h2 r (List.mem_cons_of_mem _ hr)
    have hr := h2 r List.mem_cons_self
    have h3 : (atS r.2 i).length ≤ 20 := by
      by_cases hi : i < r.2.length
      · exact (hr.2 _ (List.mem_of_getElem? (atS_some hi))).2
      · unfold atS; rw [List.getElem?_eq_none (by omega)]; decide
    have h4 := cuts_len (atS r.2 i)
    have h5 : ((cutsOf (atS r.2 i)).filter (insideP (atB b i))).length ≤ (cutsOf (atS r.2 i)).length := List.length_filter_le ..
    omega
theorem M_lt {rows : List Row} (h : OkRows rows) (b : Box) : M rows b < 21 := by
  have := cuts_le h b 0
  have := cuts_le h b 1
  unfold M; omega
def GoodK (qs : List Qr) (κ : Bool) (t : Tr) : Prop := GoodT (leafR (rowsK κ qs)) B0 t ∧ height t ≤ M (rowsK κ qs) B0
def wTree (c : Ad) : WD := fun ds q => ∃ qs : List Qr, ds = [kindsD c, queriesD c qs] ∧ OkQs qs ∧ ∀ ta tb, GoodK qs false ta → GoodK qs true tb → q (treeD ta tb)
section
variable {P : Program} {w : World} {K : PySem.W.Frag} {mg : Str → Option Value} {base : Heap} {c : Ad}
theorem sc_walked : FnScope ["tree", "event", "node", "tests"] ["tree", "event"] (defScope swalked) := ⟨rfl, rfl, rfl, by decide +kernel, rfl, by decide +kernel, by decide +kernel⟩
-- slots: 0 tree, 1 event, 2 node, 3 tests
theorem ok_walked  (T : Txt K mg) (h0 : Here K mg "walked" ["tree", "event"] swalked)   : Df P w K mg base 1 "walked" ["tree", "event"] wWalked := by
  refine df_of h0 sc_walked (fun ds q h => by obtain ⟨κ, ta, tb, e, rfl, _⟩ := h; rfl) fun f cdv A outer s H E hr => ⟨_, _,
  (dss_cons (ds_par (i := 2) (j := 3) rfl sc_walked.nd rfl rfl (by decide) rfl rfl (da_cons (de_dget hr.units (db_var 0) (de_ixK (K := K) (db_var 1) (DE.toB de_int) (fun _ _ => rfl))) (da_cons de_int da_nil)) (by rfl))
  (dss_cons (ds_while PassesOwn.never (dt_cmp op_eq so_eqS (DE.toB (de_ixK (K := K) (db_var 2) (DE.toB de_int) (fun _ _ => rfl))) (DE.toB de_str) (nomark _)) (dss_cons (ds_aug (i := 3) sc_walked.nd rfl (by first | exact Or.inl rfl | exact Or.inr rfl) de_int)
  (dss_one (ds_set (i := 2) sc_walked.nd rfl (by first | exact Or.inl rfl | exact Or.inr rfl) (de_ifE (dt_cmp op_lt so_lt (DE.toB (de_ixK (K := K) (db_var 1) (DE.toB (de_ixK (K := K) (db_var 2) (DE.toB de_int) (fun _ _ => rfl))) (fun _ _ => rfl))) (DE.toB (de_ixK (K := K) (db_var 2) (DE.toB de_int) (fun _ _ => rfl))) (nomark _)) (de_ixK (K := K) (db_var 2) (DE.toB de_int) (fun _ _ => rfl)) (de_ixK (K := K) (db_var 2) (DE.toB de_int) (fun _ _ => rfl)))))))
  (dss_one (ds_ret (de_tup (da_cons (de_ixK (K := K) (db_var 2) (DE.toB de_int) (fun _ _ => rfl)) (da_cons (de_var 3) da_nil))))))), fun ds q h => ?_⟩
  obtain ⟨κ, ta, tb, e, rfl, he, hi, hq⟩ := h
  obtain ⟨e0, e1, rfl⟩ := two he
  cases κ
  · walk_at "x"
    refine g_while (InWk (treeD ta tb) (knd false) ta [e0, e1]) (muWk (testsAt [e0, e1] ta)) ⟨ta, 0, rfl, rfl, Nat.zero_add _, hi⟩ ?_
    rintro env' ⟨t', k, rfl, h1, h2, h3⟩
    cases t' with
    | lot ns =>
      walk_at "x"
      · exact absurd ‹Str.ofString "lot" = Str.ofString "below"› (by decide)
      · have h1 : ns = _ := h1
        have h2 : k + 0 = _ := h2
        have hq : q (.tup [itD (lotAt [e0, e1] ta), .int (testsAt [e0, e1] ta : Nat)]) := hq
        rw [← h1, ← h2] at hq
        exact hq
    | bel i cc l r =>
      obtain ⟨h3, h4, h5⟩ := h3
      rcases (by omega : i = 0 ∨ i = 1) with rfl | rfl
      all_goals walk_at "x"
      · exact wkL (i := 0) (e := [e0, e1]) (show e0 < cc from ‹e0 < cc›) h1 h2 h4
      · exact wkR (i := 0) (e := [e0, e1]) (show ¬ e0 < cc from ‹¬ e0 < cc›) h1 h2 h5
      · exact wkL (i := 1) (e := [e0, e1]) (show e1 < cc from ‹e1 < cc›) h1 h2 h4
      · exact wkR (i := 1) (e := [e0, e1]) (show ¬ e1 < cc from ‹¬ e1 < cc›) h1 h2 h5
  · walk_at "x"
    refine g_while (InWk (treeD ta tb) (knd true) tb [e0, e1]) (muWk (testsAt [e0, e1] tb)) ⟨tb, 0, rfl, rfl, Nat.zero_add _, hi⟩ ?_
    rintro env' ⟨t', k, rfl, h1, h2, h3⟩
    cases t' with
    | lot ns =>
      walk_at "x"
      · exact absurd ‹Str.ofString "lot" = Str.ofString "below"› (by decide)
      · have h1 : ns = _ := h1
        have h2 : k + 0 = _ := h2
        have hq : q (.tup [itD (lotAt [e0, e1] tb), .int (testsAt [e0, e1] tb : Nat)]) := hq
        rw [← h1, ← h2] at hq
        exact hq
    | bel i cc l r =>
      obtain ⟨h3, h4, h5⟩ := h3
      rcases (by omega : i = 0 ∨ i = 1) with rfl | rfl
      all_goals walk_at "x"
      · exact wkL (i := 0) (e := [e0, e1]) (show e0 < cc from ‹e0 < cc›) h1 h2 h4
      · exact wkR (i := 0) (e := [e0, e1]) (show ¬ e0 < cc from ‹¬ e0 < cc›) h1 h2 h5
      · exact wkL (i := 1) (e := [e0, e1]) (show e1 < cc from ‹e1 < cc›) h1 h2 h4
      · exact wkR (i := 1) (e := [e0, e1]) (show ¬ e1 < cc from ‹¬ e1 < cc›) h1 h2 h5
theorem sc_lot_of : FnScope ["tree", "event"] ["tree", "event"] (defScope slot_of) := ⟨rfl, rfl, rfl, by decide +kernel, rfl, by decide +kernel, by decide +kernel⟩
-- slots: 0 tree, 1 event
theorem ok_lot_of  (T : Txt K mg) (h0 : Here K mg "lot_of" ["tree", "event"] slot_of) (F_walked : Df P w K mg base 1 "walked" ["tree", "event"] wWalked)  : Df P w K mg base 2 "lot_of" ["tree", "event"] wLot := by
  refine df_of h0 sc_lot_of (fun ds q h => by obtain ⟨κ, ta, tb, e, rfl, _⟩ := h; rfl) fun f cdv A outer s H E hr => ⟨_, _,
  (dss_one (ds_ret (de_ixK (K := K) (DE.toB (de_clK (K := K) F_walked (hr.mono (by omega)) rfl (da_cons (de_var 0) (da_cons (de_var 1) da_nil)))) (DE.toB de_int) (fun _ _ => rfl)))), fun ds q h => ?_⟩
  obtain ⟨κ, ta, tb, e, rfl, he, hi, hq⟩ := h
  walk_at "x"
  refine ⟨κ, ta, tb, e, rfl, he, hi, ?_⟩
  walk_at "x"
  exact hq
theorem sc_tree_for : FnScope ["kinds", "queries", "kind"] ["kinds", "queries"] (defScope stree_for) := ⟨rfl, rfl, rfl, by decide +kernel, rfl, by decide +kernel, by decide +kernel⟩
-- slots: 0 kinds, 1 queries, 2 kind
theorem ok_tree_for (L : Cl K c) (T : Txt K mg) (h0 : Here K mg "tree_for" ["kinds", "queries"] stree_for) (F_rows_of : Df P w K mg base 4 "rows_of" ["queries", "kind"] (wRows c)) (F_whole_box : Df P w K mg base 1 "whole_box" ["kinds", "kind"] (wBox c)) (F_node_for : Df P w K mg base 45 "node_for" ["rows", "box"] (wNode 40))  : Df P w K mg base 46 "tree_for" ["kinds", "queries"] (wTree c) := by
  refine df_of h0 sc_tree_for (fun ds q h => by obtain ⟨t, rfl, _⟩ := h; rfl) fun f cdv A outer s H E hr => ⟨_, _,
  (dss_one (ds_ret (DM.toE (dm_dc (own := [("kind", 2)]) rfl sc_tree_for.nd (DI.toB (di_seq (DN.toE (dn_sortD hr.units rfl T.sorted (DN.toE (dn_listD rfl rfl T.list (DE.toB (de_attr (K := K) (de_var 0))))))))) (blkOk_by (N := ["kinds", "queries", "kind"]) (sc := defScope stree_for) (by decide +kernel)) (fun _ _ _ _ _ => (dg_name (i := 2) sc_tree_for.nd rfl (by first | exact Or.inl rfl | exact Or.inr rfl))) (fun _ _ _ _ _ => dts_nil) (fun _ _ _ _ _ => (de_var 2)) (fun _ _ _ _ _ => (de_clK (K := K) F_node_for (hr.mono (by omega)) rfl (da_cons (de_clK (K := K) F_rows_of (hr.mono (by omega)) rfl (da_cons (de_var 1) (da_cons (de_var 2) da_nil))) (da_cons (de_clK (K := K) F_whole_box (hr.mono (by omega)) rfl (da_cons (de_var 0) (da_cons (de_var 2) da_nil))) da_nil)))))))), fun ds q h => ?_⟩
  obtain ⟨a0, a1, a2, a3, a4, a5, a6, a7, a8, a9, a10, a11, a12, a13, a14, a15, a16, a17, a18, a19, a20, a21, a22, a23, a24, a25, a26, a27, a28, a29, a30, a31, a32⟩ := L
  obtain ⟨qs, rfl, ok, hq⟩ := h
  walk_at "x"
  refine ⟨ab_ok, ?_⟩
  rw [sort_ab]
  conv => whnf
  refine kDc_i ⟨fun k acc => (k = 0 ∧ acc = []) ∨ (k = 1 ∧ ∃ t, acc = [(.inr "a", trD t)] ∧ GoodK qs false t) ∨ (k = 2 ∧ ∃ ta tb, acc = [(.inr "a", trD ta), (.inr "b", trD tb)] ∧ GoodK qs false ta ∧ GoodK qs true tb), .inl ⟨rfl, rfl⟩, ?_, ?_⟩
  · rintro k d acc hd (⟨rfl, rfl⟩ | ⟨rfl, t, rfl, g⟩ | ⟨rfl, _⟩)
    · cases hd
      walk_at "x"
      refine ⟨false, qs, rfl, ok, ?_⟩
      walk_at "x"
      refine ⟨false, rfl, ?_⟩
      walk_at "x"
      refine ⟨rowsK false qs, B0, rfl, ok_B0, rows_ok ok, Nat.lt_trans (M_lt (rows_ok ok) B0) (by decide), fun t g1 g2 => ?_⟩
      walk_at "x"
      exact .inr (.inl ⟨rfl, t, rfl, g1, g2⟩)
    · cases hd
      walk_at "x"
      refine ⟨true, qs, rfl, ok, ?_⟩
      walk_at "x"
      refine ⟨true, rfl, ?_⟩
      walk_at "x"
      refine ⟨rowsK true qs, B0, rfl, ok_B0, rows_ok ok, Nat.lt_trans (M_lt (rows_ok ok) B0) (by decide), fun t2 g1 g2 => ?_⟩
      walk_at "x"
      exact .inr (.inr ⟨rfl, t, t2, rfl, g, g1, g2⟩)
    · cases hd
  · rintro acc (⟨h, _⟩ | ⟨h, _⟩ | ⟨_, ta, tb, rfl, h1, h2⟩)
    · cases h
    · cases h
    · exact hq ta tb h1 h2
end
end S07

namespace S07
open PySem L2 Y
local macro_rules | `(tactic| walk_at $_:str) => `(tactic| (conv => whnf) <;> repeat' (first
  | (refine And.intro (fun (hc : (_ : Prop)) => ?_) (fun (hc : (_ : Prop)) => ?_) <;> first | exact (d_ni hc).elim | exact (d_nt hc).elim | exact (d_nl hc).elim | exact (d_tc hc).elim | exact (d_lc hc).elim | exact (hc rfl).elim | (conv => whnf))
  | (refine And.intro (by first | exact dr_t rfl | (with_reducible first | exact lz1 | exact lz2 | exact lz3 | exact lz0 | exact lz5 | exact pu_ii | exact lq2 | exact lq1 | exact lq3 | exact lq5 | assumption | exact ⟨puL _, pu_nl⟩ | exact rfl) | (with_reducible first | refine szl ?_ | refine szl2 ?_) <;> (first | omega | (simp only [List.length_append, List.length_map, List.length_cons, List.length_nil, List.length_set]; omega) | (simp only [List.length_append, List.length_map, List.length_cons, List.length_nil, List.length_set]; done)) | fail) ?_ <;> (conv => whnf))
  | fail))

theorem smem_mem {p : P2} {r : List P2} (N : Norm (p :: r)) : mem (smem p) (p :: r) = true := by
  have ok := N.ok
  obtain ⟨lo, hi⟩ := p
  refine mem_head (inB_mk (fun l e => ?_) fun h e => ?_) <;> cases lo <;> cases hi <;> simp [smem] at e ⊢ <;> try omega
  all_goals (subst e; first | exact Int.le_refl _ | exact ok _ _ rfl rfl)
theorem smem_in {p : P2} (h : okP p) : inB p (smem p) = true := by
  obtain ⟨lo, hi⟩ := p
  refine inB_mk (fun l e => ?_) fun x e => ?_ <;> cases lo <;> cases hi <;> simp [smem] at e ⊢ <;> try omega
  all_goals (subst e; first | exact Int.le_refl _ | exact h _ _ rfl rfl)
/-- o is a common member, or there is none -/
def OO (r : List P2 × P2) : Option Int → Prop
  | none => ∀ n, mem n r.1 = true → inB r.2 n = true → False
  | some n => mem n r.1 = true ∧ inB r.2 n = true
def AllO : List (List P2 × P2) → List (Option Int) → Prop
  | [], l => l = []
  | r :: t, l => ∃ o l', l = o :: l' ∧ OO r o ∧ AllO t l'
theorem AllO.snoc {r : List P2 × P2} {o : Option Int} (h : OO r o) : ∀ {xs : List (List P2 × P2)} {l : List (Option Int)}, AllO xs l → AllO (xs ++ [r]) (l ++ [o])
  | [], l, e => by rw [show l = [] from e]; exact ⟨o, [], rfl, h, rfl⟩
  | x :: t, l, ⟨b, l', e, h1, h2⟩ => ⟨b, l' ++ [o], by rw [e]; rfl, h1, AllO.snoc h h2⟩
theorem AllO.length : ∀ {xs : List (List P2 × P2)} {l : List (Option Int)}, AllO xs l → l.length = xs.length
  | [], l, e => by rw [show l = [] from e]; rfl
  | x :: t, l, ⟨b, l', e, h1, h2⟩ => by rw [e, List.length_cons, List.length_cons, AllO.length h2]
def wMembers : WD := fun ds q => ∃ (s : Sets) (b : Box), ds = [ssD s, sD b] ∧ NormS s ∧ OkBox b ∧ ∀ l : List (Option Int), AllO (s.zip b) l → q (.lst (l.map oD))
def InMe (s : Sets) (b : Box) (k : Nat) (env : List Sl) : Prop := ∃ (pre post : List (List P2 × P2)) (l : List (Option Int)) (x3 x4 x5 : Sl), s.zip b = pre ++ post ∧ pre.length = k ∧ AllO pre l ∧ env = [.d (ssD s), .d (sD b), .ol (l.map oD), x3, x4, x5]
theorem inMe_step {s : Sets} {b : Box} {pre t : List (List P2 × P2)} {r : List P2 × P2} {l : List (Option Int)} {x3 x4 x5 : Sl} {o : Option Int} (e : s.zip b = pre ++ r :: t) (h : AllO pre l) (ho : OO r o) {env : List Sl} (he : env = [.d (ssD s), .d (sD b), .ol (l.map oD ++ [oD o]), x3, x4, x5]) : InMe s b (pre.length + 1) env :=
  ⟨pre ++ [r], t, l ++ [o], x3, x4, x5, by rw [e, List.append_assoc]; rfl, by rw [List.length_append]; rfl, h.snoc ho, by rw [he, List.map_append]; rfl⟩
theorem pu_sD {l : List P2} : Pu 32 (sD l) ∧ Pu 32 (.tup []) := ⟨puT l, pu_nt⟩
theorem non_mem {l : List (Option Int)} : D.non ∈ l.map oD ↔ none ∈ l := by
  rw [List.mem_map]
  constructor
  · rintro ⟨o, h, e⟩
    cases o with
    | none => exact h
    | some i => cases e
  · intro h; exact ⟨none, h, rfl⟩
theorem fl_o {l : List (Option Int)} : Flat .non ∧ ∀ x ∈ l.map oD, Flat x := ⟨trivial, fun x h => by
  obtain ⟨o, _, rfl⟩ := List.mem_map.mp h
  cases o <;> trivial⟩
def wWrongAt : WD := fun ds q => ∃ (κ : Str) (s : Sets) (b : Box) (told : Bool), ds = [.str κ, ssD s, sD b, .bl told] ∧ NormS s ∧ OkBox b ∧ (∀ e, InB2 b e → inSb s e ≠ told → q (evD κ e)) ∧ ((∀ e, InB2 b e → inSb s e = told) → q .non)
def OkLots (lots : List Sets) : Prop := lots.length ≤ 20 ∧ ∀ s ∈ lots, NormS s
abbrev lotsD (lots : List Sets) : D := .lst (lots.map ssD)
def wWrongLot : WD := fun ds q => ∃ (κ : Str) (lots : List Sets) (b : Box) (ns : List Int), ds = [.str κ, lotsD lots, sD b, itD ns] ∧ OkLots lots ∧ OkBox b ∧ (∀ e, InB2 b e → ¬ LotOk lots ns e → q (evD κ e)) ∧ ((∀ e, InB2 b e → LotOk lots ns e) → q .non)
theorem InB2.len {b : Box} {e : List Int} (h : InB2 b e) : e.length = 2 := by obtain ⟨_, _, _, _, _, rfl, _⟩ := h; rfl
def InWa (κ : Str) (x y : List P2) (p q : P2) (l : List (Option Int)) (k : Nat) (env : List Sl) : Prop := ∃ x6 x7 x8 x9 : Sl, (1 ≤ k → ∀ n, inB p n = true → mem n x = true) ∧ (2 ≤ k → ∀ n, inB q n = true → mem n y = true) ∧ env = [.d (.str κ), .d (ssD [x, y]), .d (sD [p, q]), .d (.bl true), .d (.lst (l.map oD)), .d (.lst [.int (smem p), .int (smem q)]), x6, x7, x8, x9]
def InWl (κ : Str) (lots : List Sets) (b : Box) (ns : List Int) (k : Nat) (env : List Sl) : Prop := ∃ x4 x5 x6 x7 : Sl, (∀ j < k, ∀ s, lots[j]? = some s → ∀ e, InB2 b e → ((j : Int) ∈ ns ↔ inSb s e = true)) ∧ env = [.d (.str κ), .d (lotsD lots), .d (sD b), .d (itD ns), x4, x5, x6, x7]
theorem ssD_ne {s : Sets} : ssD s = .non → False := fun h => by cases h
theorem fl_it {i : Int} {ns : List Int} : Flat (.int i) ∧ ∀ x ∈ ns.map D.int, Flat x := ⟨trivial, fun x h => by
  obtain ⟨o, _, rfl⟩ := List.mem_map.mp h
  trivial⟩
theorem mem_it {i : Int} {ns : List Int} : D.int i ∈ ns.map D.int ↔ i ∈ ns := by
  rw [List.mem_map]
  constructor
  · rintro ⟨o, h, e⟩; cases e; exact h
  · intro h; exact ⟨i, h, rfl⟩
section
variable {P : Program} {w : World} {K : PySem.W.Frag} {mg : Str → Option Value} {base : Heap} {c : Ad}
theorem sc_members_of : FnScope ["sets", "box", "found", "one", "pair", "both"] ["sets", "box"] (defScope smembers_of) := ⟨rfl, rfl, rfl, by decide +kernel, rfl, by decide +kernel, by decide +kernel⟩
-- slots: 0 sets, 1 box, 2 found, 3 one, 4 pair, 5 both
theorem ok_members_of  (T : Txt K mg) (h0 : Here K mg "members_of" ["sets", "box"] smembers_of) (F_meet : Df P w K mg base 3 "meet" ["one", "other"] wMeet) (F_some_member : Df P w K mg base 1 "some_member" ["one"] wSome)  : Df P w K mg base 4 "members_of" ["sets", "box"] wMembers := by
  obtain ⟨_, _, nothing1, nothing2, nothing3⟩ := T.nothing.ex
  refine df_of h0 sc_members_of (fun ds q h => by obtain ⟨s, b, rfl, _⟩ := h; rfl) fun f cdv A outer s H E hr => ⟨_, _,
  (dss_cons (ds_setN (i := 2) sc_members_of.nd rfl (by first | exact Or.inl rfl | exact Or.inr rfl) (dn_lst da_nil))
  (dss_cons (ds_for PassesOwn.never rfl (di_zip rfl T.zip (da_cons (de_var 0) (da_cons (de_var 1) da_nil))) (dg_tupK (K := K) (n := 2) rfl (dgs_cons (dg_name (i := 3) sc_members_of.nd rfl (by first | exact Or.inl rfl | exact Or.inr rfl)) (dgs_cons (dg_name (i := 4) sc_members_of.nd rfl (by first | exact Or.inl rfl | exact Or.inr rfl)) dgs_nil))) (dss_cons (ds_set (i := 5) sc_members_of.nd rfl (by first | exact Or.inl rfl | exact Or.inr rfl) (de_clK (K := K) F_meet (hr.mono (by omega)) rfl (da_cons (de_var 3) (da_cons (de_tup (da_cons (de_var 4) da_nil)) da_nil))))
  (dss_one (ds_append 2 (pe_var rfl (by first | exact Or.inl rfl | exact Or.inr (Or.inl rfl) | exact Or.inr (Or.inr rfl)) (by decide) (by decide)) (de_ifE (dt_cmp (op_eqDK (K := K) hr.units) so_eqU (db_var 5) (DE.toB (de_glob rfl nothing1 nothing2 (fun G => nothing3 G) (by decide))) (nomark _)) de_non (de_clK (K := K) F_some_member (hr.mono (by omega)) rfl (da_cons (de_var 5) da_nil)))))))
  (dss_one (ds_retO 2)))), fun ds q h => ?_⟩
  obtain ⟨s, b, rfl, hs, hb, hq⟩ := h
  walk_at "x"
  rw [zip_map]
  have hz : (s.zip b).length = 2 := by rw [List.length_zip, hs.1, hb.1]; rfl
  refine g_for (InMe s b) ⟨[], _, [], _, _, _, rfl, rfl, rfl, rfl⟩ ?_ ?_
  · rintro k d env' hd ⟨pre, post, l, x3, x4, x5, e, rfl, hl, rfl⟩
    rw [e] at hd
    obtain ⟨r, t, rfl, rfl⟩ := splitG hd
    obtain ⟨h1, h2⟩ := List.of_mem_zip (a := r.1) (b := r.2) (by rw [e]; exact List.mem_append_right _ List.mem_cons_self)
    have hll : l.length ≤ 3 := by rw [e, List.length_append] at hz; rw [hl.length]; omega
    walk_at "x"
    refine ⟨r.1, [r.2], rfl, (hs.2 r.1 h1).1, hb.2 r.2 h2, by have := (hs.2 r.1 h1).2; simp only [List.length_cons, List.length_nil]; omega, fun both nb mb lb => ?_⟩
    have hp := pu_sD (l := both)
    have hemp := meetZ_nil (r := r) (y := sD both) ⟨both, rfl, nb, lb, fun n => by rw [mb, mem_one]⟩
    walk_at "x"
    · exact inMe_step (o := none) e hl (fun n m1 m2 => hemp.mp ‹_› ⟨n, m1, m2⟩) rfl
    · rename_i hne
      cases both with
      | nil => exact absurd rfl hne
      | cons p0 t0 =>
        refine ⟨p0, t0, rfl, ?_⟩
        walk_at "x"
        exact inMe_step (o := some _) e hl (by have := smem_mem nb; rw [mb, mem_one, Bool.and_eq_true] at this; exact this) rfl
  · rintro env' ⟨pre, post, l, x3, x4, x5, e, hlen, hl, rfl⟩
    rw [e] at hlen
    obtain rfl := endG hlen
    walk_at "x"
    rw [List.append_nil] at e
    rw [← e] at hl
    exact hq l hl
theorem sc_wrong_at : FnScope ["kind", "sets", "box", "is_told", "inside", "plain", "at", "one", "outside", "pair"] ["kind", "sets", "box", "is_told"] (defScope swrong_at) := ⟨rfl, rfl, rfl, by decide +kernel, rfl, by decide +kernel, by decide +kernel⟩
-- slots: 0 kind, 1 sets, 2 box, 3 is_told, 4 inside, 5 plain, 6 at, 7 one, 8 outside, 9 pair
theorem ok_wrong_at  (T : Txt K mg) (h0 : Here K mg "wrong_at" ["kind", "sets", "box", "is_told"] swrong_at) (F_members_of : Df P w K mg base 4 "members_of" ["sets", "box"] wMembers) (F_some_member : Df P w K mg base 1 "some_member" ["one"] wSome) (F_others : Df P w K mg base 2 "others" ["one"] wOthers) (F_meet : Df P w K mg base 3 "meet" ["one", "other"] wMeet)  : Df P w K mg base 5 "wrong_at" ["kind", "sets", "box", "is_told"] wWrongAt := by
  obtain ⟨_, _, nothing1, nothing2, nothing3⟩ := T.nothing.ex
  refine df_of h0 sc_wrong_at (fun ds q h => by obtain ⟨κ, s, b, t, rfl, _⟩ := h; rfl) fun f cdv A outer s H E hr => ⟨_, _,
  (dss_cons (ds_set (i := 4) sc_wrong_at.nd rfl (by first | exact Or.inl rfl | exact Or.inr rfl) (de_clK (K := K) F_members_of (hr.mono (by omega)) rfl (da_cons (de_var 1) (da_cons (de_var 2) da_nil))))
  (dss_cons (ds_if (dt_not (dt_val (de_var 3))) (dss_one (ds_ret (de_ifE (dt_cmp (op_inK (K := K)) so_in (DE.toB de_non) (db_var 4) (by with_unfolding_all rfl)) de_non (de_tup (da_cons (de_var 0) (da_cons de_int (da_cons de_int (da_star (de_var 4) da_nil)))))))) dss_nil)
  (dss_cons (ds_lc (i := 5) (own := [("pair", 9)]) rfl sc_wrong_at.nd rfl rfl (by rfl) (dib_seq (db_var 2)) (blkOk_by (N := ["kind", "sets", "box", "is_told", "inside", "plain", "at", "one", "outside", "pair"]) (sc := defScope swrong_at) (by decide +kernel)) (fun _ _ _ _ _ => (dg_name (i := 9) sc_wrong_at.nd rfl (by first | exact Or.inl rfl | exact Or.inr rfl))) (fun _ _ _ _ _ => dts_nil) (fun _ _ _ _ _ => (de_clK (K := K) F_some_member (hr.mono (by omega)) rfl (da_cons (de_tup (da_cons (de_var 9) da_nil)) da_nil))))
  (dss_cons (ds_for PassesOwn.never rfl (di_enum rfl T.enumerate (da_cons (de_var 1) da_nil)) (dg_tupK (K := K) (n := 2) rfl (dgs_cons (dg_name (i := 6) sc_wrong_at.nd rfl (by first | exact Or.inl rfl | exact Or.inr rfl)) (dgs_cons (dg_name (i := 7) sc_wrong_at.nd rfl (by first | exact Or.inl rfl | exact Or.inr rfl)) dgs_nil))) (dss_cons (ds_set (i := 8) sc_wrong_at.nd rfl (by first | exact Or.inl rfl | exact Or.inr rfl) (de_clK (K := K) F_meet (hr.mono (by omega)) rfl (da_cons (de_clK (K := K) F_others (hr.mono (by omega)) rfl (da_cons (de_var 7) da_nil)) (da_cons (de_tup (da_cons (de_ixK (K := K) (db_var 2) (db_var 6) (fun _ _ => rfl)) da_nil)) da_nil))))
  (dss_one (ds_if (dt_cmp (op_neDK (K := K) hr.units) so_neU (db_var 8) (DE.toB (de_glob rfl nothing1 nothing2 (fun G => nothing3 G) (by decide))) (nomark _)) (dss_one (ds_ret (de_tup (da_cons (de_var 0) (da_cons de_int (da_cons de_int (da_star (de_sliceK (K := K) (db_var 5) do_none (do_some (de_var 6))) (da_cons (de_clK (K := K) F_some_member (hr.mono (by omega)) rfl (da_cons (de_var 8) da_nil)) (da_star (de_sliceK (K := K) (db_var 5) (do_some (de_op (op_addUK (K := K)) so_add (db_var 6) (DE.toB de_int))) do_none) da_nil))))))))) dss_nil))))
  (dss_one (ds_ret de_non)))))), fun ds q h => ?_⟩
  obtain ⟨κ, s, b, told, rfl, hs, hb, hev, hnn⟩ := h
  obtain ⟨x, y, rfl⟩ := two hs.1
  obtain ⟨p, q, rfl⟩ := two hb.1
  have hx20 := (hs.2 x (by simp)).2
  have hy20 := (hs.2 y (by simp)).2
  walk_at "x"
  refine ⟨[x, y], [p, q], rfl, hs, hb, fun l hl => ?_⟩
  have fl := fl_o (l := l)
  cases told
  · walk_at "x"
    · have hm := non_mem.mp ‹_›
      refine hnn fun e he => ?_
      obtain ⟨p', q', m, n, hbe, rfl, hm1, hm2⟩ := he
      cases hbe
      obtain ⟨o1, l1, rfl, ho1, o2, l2, rfl, ho2, rfl⟩ := hl
      rw [inSb_two, Bool.eq_false_iff]
      intro hb
      rw [Bool.and_eq_true] at hb
      simp only [List.mem_cons, List.not_mem_nil, or_false] at hm
      rcases hm with rfl | rfl
      · exact ho1 m hb.1 hm1
      · exact ho2 n hb.2 hm2
    · have hm := mt non_mem.mpr ‹_›
      obtain ⟨o1, l1, rfl, ho1, o2, l2, rfl, ho2, rfl⟩ := hl
      cases o1 with
      | none => exact absurd List.mem_cons_self hm
      | some m =>
        cases o2 with
        | none => exact absurd (List.mem_cons_of_mem _ List.mem_cons_self) hm
        | some n =>
          walk_at "x"
          refine hev [m, n] ⟨p, q, m, n, rfl, rfl, ho1.2, ho2.2⟩ ?_
          rw [inSb_two, ho1.1, ho2.1]; simp
  · walk_at "x"
    refine g_lcT (fun r d => d = .int (smem r)) (szl (show (2 : Nat) ≤ 10000 by decide)) (fun r hr L R hL hR => ?_) fun l2 hl2 => ?_
    · walk_at "x"
      exact ⟨r, [], rfl, hL, hR _ rfl⟩
    · obtain rfl := hl2.map (g := fun r => .int (smem r)) fun _ _ h => h
      walk_at "x"
      refine g_for (InWa κ x y p q l) ⟨_, _, _, _, fun z => absurd z (by decide), fun z => absurd z (by decide), rfl⟩ ?_ ?_
      · rintro k d env' hd ⟨x6, x7, x8, x9, c1, c2, rfl⟩
        obtain ⟨z, hz, rfl⟩ := enumD_get hd
        have hk : k < 2 := (List.getElem?_eq_some_iff.mp hz).1
        rcases (by omega : k = 0 ∨ k = 1) with rfl | rfl
        · cases hz
          walk_at "x"
          refine ⟨x, rfl, (hs.2 x (by simp)).1, by omega, fun ot no mo lo => ?_⟩
          walk_at "x"
          refine ⟨ot, [p], rfl, no, hb.2 p (by simp), by simp only [List.length_cons, List.length_nil]; omega, fun r nr mr lr => ?_⟩
          have hp2 := pu_sD (l := r)
          walk_at "x"
          · rename_i hne
            cases r with
            | nil => exact absurd rfl hne
            | cons r0 t0 =>
              have hsm := smem_mem nr
              rw [mr, mo, mem_one, Bool.and_eq_true] at hsm
              walk_at "x"
              refine ⟨r0, t0, rfl, ?_⟩
              walk_at "x"
              refine ⟨szl (show (5 : Nat) ≤ 10000 by decide), ?_⟩
              refine hev [smem r0, smem q] ⟨p, q, _, _, rfl, rfl, hsm.2, smem_in (hb.2 q (by simp))⟩ ?_
              rw [inSb_two, show mem (smem r0) x = false from by simpa using hsm.1]; simp
          · rename_i hne
            have hnil : r = [] := by
              have := D.tup.inj hne
              simpa using this
            have hcov : ∀ n, inB p n = true → mem n x = true := fun n hn => by
              have := (norm_nil nr).mp hnil n
              rw [mr, mo, mem_one, hn, Bool.and_true] at this
              simpa using this
            exact ⟨_, _, _, _, fun _ => hcov, fun z => absurd z (by decide), rfl⟩
        · cases hz
          walk_at "x"
          refine ⟨y, rfl, (hs.2 y (by simp)).1, by omega, fun ot no mo lo => ?_⟩
          walk_at "x"
          refine ⟨ot, [q], rfl, no, hb.2 q (by simp), by simp only [List.length_cons, List.length_nil]; omega, fun r nr mr lr => ?_⟩
          have hp2 := pu_sD (l := r)
          walk_at "x"
          · rename_i hne
            cases r with
            | nil => exact absurd rfl hne
            | cons r0 t0 =>
              have hsm := smem_mem nr
              rw [mr, mo, mem_one, Bool.and_eq_true] at hsm
              walk_at "x"
              refine ⟨r0, t0, rfl, ?_⟩
              walk_at "x"
              refine ⟨szl (show (5 : Nat) ≤ 10000 by decide), ?_⟩
              refine hev [smem p, smem r0] ⟨p, q, _, _, rfl, rfl, smem_in (hb.2 p (by simp)), hsm.2⟩ ?_
              rw [inSb_two, show mem (smem r0) y = false from by simpa using hsm.1]; simp
          · rename_i hne
            have hnil : r = [] := by
              have := D.tup.inj hne
              simpa using this
            have hcov : ∀ n, inB q n = true → mem n y = true := fun n hn => by
              have := (norm_nil nr).mp hnil n
              rw [mr, mo, mem_one, hn, Bool.and_true] at this
              simpa using this
            exact ⟨_, _, _, _, fun _ => c1 (by decide), fun _ => hcov, rfl⟩
      · rintro env' ⟨x6, x7, x8, x9, c1, c2, rfl⟩
        walk_at "x"
        refine hnn fun e he => ?_
        obtain ⟨p', q', m, n, hbe, rfl, hm1, hm2⟩ := he
        cases hbe
        rw [inSb_two, c1 (show 1 ≤ 2 by decide) m hm1, c2 (show 2 ≤ 2 by decide) n hm2]; rfl
theorem sc_wrong_lot : FnScope ["kind", "lots", "box", "told", "number", "sets", "found", "pair"] ["kind", "lots", "box", "told"] (defScope swrong_lot) := ⟨rfl, rfl, rfl, by decide +kernel, rfl, by decide +kernel, by decide +kernel⟩
-- slots: 0 kind, 1 lots, 2 box, 3 told, 4 number, 5 sets, 6 found, 7 pair
theorem ok_wrong_lot  (T : Txt K mg) (h0 : Here K mg "wrong_lot" ["kind", "lots", "box", "told"] swrong_lot) (F_some_member : Df P w K mg base 1 "some_member" ["one"] wSome) (F_wrong_at : Df P w K mg base 5 "wrong_at" ["kind", "sets", "box", "is_told"] wWrongAt)  : Df P w K mg base 6 "wrong_lot" ["kind", "lots", "box", "told"] wWrongLot := by
  refine df_of h0 sc_wrong_lot (fun ds q h => by obtain ⟨κ, s, b, t, rfl, _⟩ := h; rfl) fun f cdv A outer s H E hr => ⟨_, _,
  (dss_cons (ds_for PassesOwn.never rfl (di_enum rfl T.enumerate (da_cons (de_var 1) da_nil)) (dg_tupK (K := K) (n := 2) rfl (dgs_cons (dg_name (i := 4) sc_wrong_lot.nd rfl (by first | exact Or.inl rfl | exact Or.inr rfl)) (dgs_cons (dg_name (i := 5) sc_wrong_lot.nd rfl (by first | exact Or.inl rfl | exact Or.inr rfl)) dgs_nil))) (dss_cons (ds_if (dt_cmp op_isN so_isN (db_var 5) (DE.toB de_non) (nomark _)) (dss_cons (ds_if (dt_cmp (op_inK (K := K)) so_in (db_var 4) (db_var 3) (by with_unfolding_all rfl)) (dss_one (ds_ret (de_tup (da_cons (de_var 0) (da_cons de_int (da_cons de_int (da_star (DN.toE (dn_lc (own := [("pair", 7)]) rfl sc_wrong_lot.nd (dib_seq (db_var 2)) (blkOk_by (N := ["kind", "lots", "box", "told", "number", "sets", "found", "pair"]) (sc := defScope swrong_lot) (by decide +kernel)) (fun _ _ _ _ _ => (dg_name (i := 7) sc_wrong_lot.nd rfl (by first | exact Or.inl rfl | exact Or.inr rfl))) (fun _ _ _ _ _ => dts_nil) (fun _ _ _ _ _ => (de_clK (K := K) F_some_member (hr.mono (by omega)) rfl (da_cons (de_tup (da_cons (de_var 7) da_nil)) da_nil))))) da_nil))))))) dss_nil)
  (dss_one ds_continue)) dss_nil)
  (dss_cons (ds_set (i := 6) sc_wrong_lot.nd rfl (by first | exact Or.inl rfl | exact Or.inr rfl) (de_clK (K := K) F_wrong_at (hr.mono (by omega)) rfl (da_cons (de_var 0) (da_cons (de_var 5) (da_cons (de_var 2) (da_cons (de_cmp (op_inK (K := K)) so_in (db_var 4) (db_var 3) (by with_unfolding_all rfl)) da_nil))))))
  (dss_one (ds_if (dt_cmp op_notN so_notN (db_var 6) (DE.toB de_non) (nomark _)) (dss_one (ds_ret (de_var 6))) dss_nil)))))
  (dss_one (ds_ret de_non))), fun ds q h => ?_⟩
  obtain ⟨κ, lots, b, ns, rfl, ok, hb, hev, hnn⟩ := h
  walk_at "x"
  refine g_for (InWl κ lots b ns) ⟨_, _, _, _, fun j hj => absurd hj (Nat.not_lt_zero _), rfl⟩ ?_ ?_
  · rintro k d env' hd ⟨x4, x5, x6, x7, hpre, rfl⟩
    obtain ⟨y, hy, rfl⟩ := enumD_get hd
    rw [List.getElem?_map] at hy
    cases hs : lots[k]? with
    | none => rw [hs] at hy; cases hy
    | some s =>
      rw [hs] at hy
      cases hy
      have hm := List.mem_of_getElem? hs
      have fl := fl_it (i := (k : Int)) (ns := ns)
      walk_at "x"
      · have hin : (k : Int) ∈ ns := mem_it.mp ‹_›
        refine ⟨κ, s, b, true, rfl, ok.2 s hm, hb, fun e he hne => ?_, fun hal => ?_⟩
        · walk_at "x"
          refine hev e he fun hlk => hne ?_
          have := hlk k s hs
          exact this.mp hin
        · walk_at "x"
          refine ⟨_, _, _, _, fun j hj s' hs' e he => ?_, rfl⟩
          rcases Nat.lt_or_eq_of_le (Nat.lt_succ_iff.mp hj) with h | rfl
          · exact hpre j h s' hs' e he
          · rw [hs] at hs'; cases hs'
            rw [hal e he]
            exact iff_of_true hin rfl
      · have hin : (k : Int) ∉ ns := mt mem_it.mpr ‹_›
        refine ⟨κ, s, b, false, rfl, ok.2 s hm, hb, fun e he hne => ?_, fun hal => ?_⟩
        · walk_at "x"
          refine hev e he fun hlk => hne ?_
          have := hlk k s hs
          exact Bool.eq_false_iff.mpr fun z => hin (this.mpr z)
        · walk_at "x"
          refine ⟨_, _, _, _, fun j hj s' hs' e he => ?_, rfl⟩
          rcases Nat.lt_or_eq_of_le (Nat.lt_succ_iff.mp hj) with h | rfl
          · exact hpre j h s' hs' e he
          · rw [hs] at hs'; cases hs'
            rw [hal e he]
            exact iff_of_false hin (by decide)
  · rintro env' ⟨x4, x5, x6, x7, hpre, rfl⟩
    walk_at "x"
    refine hnn fun e he i s hs => hpre i ?_ s hs e he
    rw [enumD_len, List.length_map]
    exact (List.getElem?_eq_some_iff.mp hs).1
end
end S07

namespace S07
open PySem L2 Y
local macro_rules | `(tactic| walk_at $_:str) => `(tactic| (conv => whnf) <;> repeat' (first
  | (refine And.intro (fun (hc : (_ : Prop)) => ?_) (fun (hc : (_ : Prop)) => ?_) <;> first | exact (d_ni hc).elim | exact (d_nt hc).elim | exact (d_nl hc).elim | exact (d_tc hc).elim | exact (d_lc hc).elim | exact (hc rfl).elim | (conv => whnf))
  | (refine And.intro (by first | exact dr_t rfl | (with_reducible first | exact lz1 | exact lz2 | exact lz3 | exact lz0 | exact lz5 | exact pu_ii | exact lq2 | exact lq1 | exact lq3 | exact lq5 | assumption | exact ⟨puL _, pu_nl⟩ | exact rfl) | (with_reducible first | refine szl ?_ | refine szl2 ?_) <;> (first | omega | (simp only [List.length_append, List.length_map, List.length_cons, List.length_nil, List.length_set]; omega) | (simp only [List.length_append, List.length_map, List.length_cons, List.length_nil, List.length_set]; done)) | fail) ?_ <;> (conv => whnf))
  | fail))

def lotS (s : Sets) : Sets := if emptyS s then [[], []] else s
def kvR (rows : List Row) : List (Key × D) := rows.map fun r => (Sum.inl ((r.1 : Nat) : Int), ssD r.2)
theorem pairs_rows (rows : List Row) : pairsD (rows.map rowD) = some (kvR rows) := by
  induction rows with
  | nil => rfl
  | cons r t ih =>
    show pairsD (.tup [.int (r.1 : Nat), ssD r.2] :: t.map rowD) = some ((Sum.inl ((r.1 : Nat) : Int), ssD r.2) :: kvR t)
    unfold pairsD
    rw [ih]
    rfl
theorem putD_new {kvs : List (Key × D)} {k : Key} {d : D} (h : k ∉ kvs.map (·.1)) : putD kvs k d = kvs ++ [(k, d)] := by
  unfold putD
  rw [if_neg]
  rw [List.any_eq_true]
  rintro ⟨z, hz, e⟩
  exact h (List.mem_map.mpr ⟨z, hz, of_decide_eq_true e⟩)
theorem merge_new : ∀ (l acc : List (Key × D)), ((acc ++ l).map (·.1)).Nodup → mergeD acc l = acc ++ l
  | [], acc, _ => by unfold mergeD; rw [List.append_nil]; rfl
  | (k, d) :: r, acc, h => by
    have e : putD acc k d = acc ++ [(k, d)] := putD_new fun hm => by
      rw [List.map_append, List.nodup_append] at h
      exact h.2.2 k hm k (by simp) rfl
    show mergeD (putD acc k d) r = _
    rw [e, merge_new r (acc ++ [(k, d)]) (by rw [List.append_assoc]; exact h), List.append_assoc]
    rfl
theorem rows_ge {k : Nat} {qs : List Sets} {r : Row} (h : r ∈ rowsFrom k qs) : k ≤ r.1 := by
  obtain ⟨i, e, _⟩ := rows_mem.mp h
  omega
theorem rows_nd : ∀ (qs : List Sets) (k : Nat), ((kvR (rowsFrom k qs)).map (·.1)).Nodup
  | [], k => by show ([] : List Key).Nodup; exact List.nodup_nil
  | s :: r, k => by
    have ih := rows_nd r (k + 1)
    show ((kvR (if emptyS s then rowsFrom (k + 1) r else (k, s) :: rowsFrom (k + 1) r)).map (·.1)).Nodup
    split
    · exact ih
    · refine List.nodup_cons.mpr ⟨fun hm => ?_, ih⟩
      obtain ⟨z, hz, e⟩ := List.mem_map.mp hm
      obtain ⟨x, hx, rfl⟩ := List.mem_map.mp hz
      have := rows_ge hx
      have e2 : ((x.1 : Nat) : Int) = (k : Nat) := Sum.inl.inj e
      omega
theorem val_none {k n : Nat} {qs : List Sets} (h : n < k) : valD (kvR (rowsFrom k qs)) (Sum.inl ((n : Nat) : Int)) = none := by
  unfold valD
  rw [Option.map_eq_none_iff, List.find?_eq_none]
  intro z hz e
  obtain ⟨x, hx, rfl⟩ := List.mem_map.mp hz
  have := rows_ge hx
  have e2 : ((x.1 : Nat) : Int) = (n : Nat) := Sum.inl.inj (of_decide_eq_true e)
  omega
theorem val_rows : ∀ (qs : List Sets) (k i : Nat) (s : Sets), qs[i]? = some s → valD (kvR (rowsFrom k qs)) (Sum.inl ((k + i : Nat) : Int)) = if emptyS s then none else some (ssD s)
  | [], _, _, _, h => by simp at h
  | p :: r, k, 0, s, h => by
    rw [List.getElem?_cons_zero] at h
    cases h
    show valD (kvR (if emptyS p then rowsFrom (k + 1) r else (k, p) :: rowsFrom (k + 1) r)) _ = _
    cases he : emptyS p
    · exact valD_pos (by rfl)
    · exact val_none (by omega)
  | p :: r, k, i + 1, s, h => by
    rw [List.getElem?_cons_succ] at h
    have ih := val_rows r (k + 1) i s h
    rw [show k + 1 + i = k + (i + 1) by omega] at ih
    show valD (kvR (if emptyS p then rowsFrom (k + 1) r else (k, p) :: rowsFrom (k + 1) r)) _ = _
    cases he : emptyS p
    · refine (valD_neg ?_).trans ih
      intro e
      have : ((k : Nat) : Int) = ((k + (i + 1) : Nat) : Int) := Sum.inl.inj e
      omega
    · exact ih
def lotsOf (qs : List Sets) : List Sets := qs.map lotS
theorem lots_range (qs : List Sets) : (List.range qs.length).map (fun i => ssD (lotS ((qs[i]?).getD []))) = (lotsOf qs).map ssD := by
  refine List.ext_getElem (by unfold lotsOf; simp) fun i h1 h2 => ?_
  have hi : i < qs.length := by rw [List.length_map, List.length_range] at h1; exact h1
  unfold lotsOf
  simp [hi]
def lotsK (κ : Bool) (qs : List Qr) : List Sets := lotsOf (qs.map (lk κ))
def wSetsBy (c : Ad) : WD := fun ds q => ∃ (κ : Bool) (qs : List Qr), ds = [queriesD c qs, .str (knd κ), .int 2] ∧ OkQs qs ∧ q (lotsD (lotsK κ qs))
/-! the checker's stack -/
def nodesT : Tr → Nat
  | .lot _ => 1
  | .bel _ _ l r => 1 + nodesT l + nodesT r
def totT (st : List (Tr × Box)) : Nat := (st.map fun x => nodesT x.1).sum
abbrev itemD (x : Tr × Box) : D := .tup [trD x.1, sD x.2]
theorem st_tot {ini : List (Tr × Box)} {i : Nat} {c : Int} {l r : Tr} {x y z : Box} : totT (ini ++ [(l, x)] ++ [(r, y)]) < totT (ini ++ [(.bel i c l r, z)]) := by
  unfold totT
  simp only [List.map_append, List.map_cons, List.map_nil, List.sum_append, List.sum_cons, List.sum_nil]
  rw [show nodesT (.bel i c l r) = 1 + nodesT l + nodesT r from rfl]
  omega
theorem pu_tr : ∀ (t : Tr) (n : Nat), height t + 2 ≤ n → Pu n (trD t)
  | .lot ns, n, h => by
    match n, h with
    | n + 2, _ =>
      show Pu (n + 2) (.tup [.str "lot", itD ns])
      unfold Pu
      simp only [PuL]
      refine ⟨by unfold Pu; decide +kernel, ?_, trivial⟩
      show Pu (n + 1) (.tup (ns.map D.int))
      unfold Pu
      exact PuL.map fun i _ => by unfold Pu; trivial
  | .bel i c l r, n, h => by
    have hh : height (.bel i c l r) = 1 + max (height l) (height r) := rfl
    match n, h with
    | n + 1, h =>
      show Pu (n + 1) (.tup [.str "below", .int ((3 : Int) + (i : Nat)), .int c, trD l, trD r])
      have h1 := pu_tr l n (by omega)
      have h2 := pu_tr r n (by omega)
      unfold Pu
      simp only [PuL]
      refine ⟨?_, ?_, ?_, h1, h2, trivial⟩
      · unfold Pu; decide +kernel
      · unfold Pu; trivial
      · unfold Pu; trivial
def wWrongNode : WD := fun ds q => ∃ (κ : Str) (lots : List Sets) (b : Box) (t : Tr), ds = [.str κ, lotsD lots, sD b, trD t] ∧ OkLots lots ∧ b.length = 2 ∧ ixOk t ∧ height t ≤ 25 ∧ (∀ e, InB2 b e → ¬ LotOk lots (lotAt e t) e → q (evD κ e)) ∧ ((∀ e, InB2 b e → LotOk lots (lotAt e t) e) → q .non)
structure GoodSt (lots : List Sets) (b : Box) (t : Tr) (st : List (Tr × Box)) : Prop where
  h : ∀ (i : Nat) (x : Tr × Box), st[i]? = some x → x.2.length = 2 ∧ ixOk x.1 ∧ i + height x.1 ≤ 25
  a : ∀ x ∈ st, ∀ e, InB2 x.2 e → InB2 b e ∧ lotAt e x.1 = lotAt e t
  b : ∀ e, InB2 b e → LotOk lots (lotAt e t) e ∨ ∃ x ∈ st, InB2 x.2 e
theorem GoodSt.start {lots : List Sets} {b : Box} {t : Tr} (h1 : b.length = 2) (h2 : ixOk t) (h3 : height t ≤ 25) : GoodSt lots b t [(t, b)] where
  h := fun i x hx => by
    cases i with
    | zero => cases hx; exact ⟨h1, h2, by show 0 + height t ≤ 25; omega⟩
    | succ i => cases hx
  a := fun x hx e he => by rw [List.mem_singleton.mp hx] at he ⊢; exact ⟨he, rfl⟩
  b := fun e he => .inr ⟨_, List.mem_singleton.mpr rfl, he⟩
theorem GoodSt.pop {lots : List Sets} {b : Box} {t : Tr} {ini : List (Tr × Box)} {x : Tr × Box} (g : GoodSt lots b t (ini ++ [x])) (ok : ∀ e, InB2 x.2 e → LotOk lots (lotAt e t) e) : GoodSt lots b t ini where
  h := fun i y hy => g.h i y (by rw [List.getElem?_append_left (List.getElem?_eq_some_iff.mp hy).1]; exact hy)
  a := fun y hy e he => g.a y (List.mem_append_left _ hy) e he
  b := fun e he => by
    rcases g.b e he with h | ⟨y, hy, h⟩
    · exact .inl h
    · rcases List.mem_append.mp hy with hy | hy
      · exact .inr ⟨y, hy, h⟩
      · rw [List.mem_singleton.mp hy] at h; exact .inl (ok e h)
def loP (b : Box) (i : Nat) (c : Int) : Box := b.set i ((atB b i).1, some (minO (atB b i).2 (c - 1)))
def hiP (b : Box) (i : Nat) (c : Int) : Box := b.set i (some (maxO (atB b i).1 c), (atB b i).2)
theorem inB2_two {p q : P2} {m n : Int} : InB2 [p, q] [m, n] ↔ inB p m = true ∧ inB q n = true := by
  constructor
  · rintro ⟨p', q', m', n', h1, h2, h3, h4⟩; cases h1; cases h2; exact ⟨h3, h4⟩
  · rintro ⟨h1, h2⟩; exact ⟨p, q, m, n, rfl, rfl, h1, h2⟩
theorem in_loP {b : Box} {i : Nat} {c : Int} {e : List Int} (hb : b.length = 2) (hi : i < 2) : InB2 (loP b i c) e ↔ InB2 b e ∧ (e[i]?).getD 0 < c := by
  obtain ⟨p, q, rfl⟩ := two hb
  constructor
  · intro h
    have he := h.len
    obtain ⟨m, n, rfl⟩ := two he
    rcases (by omega : i = 0 ∨ i = 1) with rfl | rfl
    · obtain ⟨h1, h2⟩ := inB2_two.mp (show InB2 [(p.1, some (minO p.2 (c - 1))), q] [m, n] from h)
      have := inB_below.mp h1
      exact ⟨inB2_two.mpr ⟨this.1, h2⟩, this.2⟩
    · obtain ⟨h1, h2⟩ := inB2_two.mp (show InB2 [p, (q.1, some (minO q.2 (c - 1)))] [m, n] from h)
      have := inB_below.mp h2
      exact ⟨inB2_two.mpr ⟨h1, this.1⟩, this.2⟩
  · rintro ⟨h, hlt⟩
    have he := h.len
    obtain ⟨m, n, rfl⟩ := two he
    obtain ⟨h1, h2⟩ := inB2_two.mp h
    rcases (by omega : i = 0 ∨ i = 1) with rfl | rfl
    · exact (show InB2 [(p.1, some (minO p.2 (c - 1))), q] [m, n] from inB2_two.mpr ⟨inB_below.mpr ⟨h1, hlt⟩, h2⟩)
    · exact (show InB2 [p, (q.1, some (minO q.2 (c - 1)))] [m, n] from inB2_two.mpr ⟨h1, inB_below.mpr ⟨h2, hlt⟩⟩)
theorem in_hiP {b : Box} {i : Nat} {c : Int} {e : List Int} (hb : b.length = 2) (hi : i < 2) : InB2 (hiP b i c) e ↔ InB2 b e ∧ ¬ (e[i]?).getD 0 < c := by
  obtain ⟨p, q, rfl⟩ := two hb
  constructor
  · intro h
    have he := h.len
    obtain ⟨m, n, rfl⟩ := two he
    rcases (by omega : i = 0 ∨ i = 1) with rfl | rfl
    · obtain ⟨h1, h2⟩ := inB2_two.mp (show InB2 [(some (maxO p.1 c), p.2), q] [m, n] from h)
      have := inB_above.mp h1
      exact ⟨inB2_two.mpr ⟨this.1, h2⟩, by have := this.2; show ¬ m < c; omega⟩
    · obtain ⟨h1, h2⟩ := inB2_two.mp (show InB2 [p, (some (maxO q.1 c), q.2)] [m, n] from h)
      have := inB_above.mp h2
      exact ⟨inB2_two.mpr ⟨h1, this.1⟩, by have := this.2; show ¬ n < c; omega⟩
  · rintro ⟨h, hlt⟩
    have he := h.len
    obtain ⟨m, n, rfl⟩ := two he
    obtain ⟨h1, h2⟩ := inB2_two.mp h
    rcases (by omega : i = 0 ∨ i = 1) with rfl | rfl
    · have hlt : ¬ m < c := hlt
      exact (show InB2 [(some (maxO p.1 c), p.2), q] [m, n] from inB2_two.mpr ⟨inB_above.mpr ⟨h1, by omega⟩, h2⟩)
    · have hlt : ¬ n < c := hlt
      exact (show InB2 [p, (some (maxO q.1 c), q.2)] [m, n] from inB2_two.mpr ⟨h1, inB_above.mpr ⟨h2, by omega⟩⟩)
theorem GoodSt.push {lots : List Sets} {b : Box} {t : Tr} {ini : List (Tr × Box)} {i : Nat} {c : Int} {l r : Tr} {b' : Box} (g : GoodSt lots b t (ini ++ [(.bel i c l r, b')])) : GoodSt lots b t (ini ++ [(l, loP b' i c)] ++ [(r, hiP b' i c)]) := by
  obtain ⟨k1, k2, k3⟩ := g.h ini.length (.bel i c l r, b') (by rw [List.getElem?_append_right (Nat.le_refl _), Nat.sub_self]; rfl)
  have k1 : b'.length = 2 := k1
  have k3 : ini.length + (1 + max (height l) (height r)) ≤ 25 := k3
  refine ⟨fun j x hx => ?_, fun x hx e he => ?_, fun e he => ?_⟩
  · rcases Nat.lt_trichotomy j ini.length with h | h | h
    · rw [List.append_assoc, List.getElem?_append_left h] at hx
      exact g.h j x (by rw [List.getElem?_append_left h]; exact hx)
    · subst h
      rw [List.append_assoc, List.getElem?_append_right (Nat.le_refl _), Nat.sub_self] at hx
      cases hx
      exact ⟨by unfold loP; rw [List.length_set]; exact k1, k2.2.1, by show ini.length + height l ≤ 25; omega⟩
    · rw [List.append_assoc, List.getElem?_append_right (Nat.le_of_lt h)] at hx
      cases hj : j - ini.length with
      | zero => omega
      | succ m =>
        rw [hj] at hx
        cases m with
        | zero => cases hx; exact ⟨by unfold hiP; rw [List.length_set]; exact k1, k2.2.2, by show j + height r ≤ 25; omega⟩
        | succ m => cases hx
  · have ga := g.a (.bel i c l r, b') (List.mem_append_right _ (List.mem_singleton.mpr rfl)) e
    rw [List.append_assoc] at hx
    rcases List.mem_append.mp hx with hx | hx
    · exact g.a x (List.mem_append_left _ hx) e he
    · rcases List.mem_cons.mp hx with rfl | hx
      · obtain ⟨h1, h2⟩ := (in_loP k1 k2.1).mp he
        refine ⟨(ga h1).1, ?_⟩
        rw [← (ga h1).2]
        show _ = if (e[i]?).getD 0 < c then lotAt e l else lotAt e r
        rw [if_pos h2]
      · rw [List.mem_singleton.mp hx] at he ⊢
        obtain ⟨h1, h2⟩ := (in_hiP k1 k2.1).mp he
        refine ⟨(ga h1).1, ?_⟩
        rw [← (ga h1).2]
        show _ = if (e[i]?).getD 0 < c then lotAt e l else lotAt e r
        rw [if_neg h2]
  · rcases g.b e he with h | ⟨y, hy, h⟩
    · exact .inl h
    · rcases List.mem_append.mp hy with hy | hy
      · exact .inr ⟨y, List.mem_append_left _ (List.mem_append_left _ hy), h⟩
      · rw [List.mem_singleton.mp hy] at h
        by_cases hc : (e[i]?).getD 0 < c
        · exact .inr ⟨_, List.mem_append_left _ (List.mem_append_right _ (List.mem_singleton.mpr rfl)), (in_loP k1 k2.1).mpr ⟨h, hc⟩⟩
        · exact .inr ⟨_, List.mem_append_right _ (List.mem_singleton.mpr rfl), (in_hiP k1 k2.1).mpr ⟨h, hc⟩⟩
def badP : P2 → Bool
  | (some l, some h) => decide (h < l)
  | _ => false
theorem bad_no {p : P2} (h : badP p = true) (n : Int) : inB p n = true → False := fun hn => by
  obtain ⟨lo, hi⟩ := p
  cases lo with
  | none => cases h
  | some lv =>
    cases hi with
    | none => cases h
    | some hv =>
      have h1 : lv ≤ n := inB_lo hn rfl
      have h2 : n ≤ hv := inB_hi hn rfl
      have := of_decide_eq_true h
      omega
theorem bad_ok {p : P2} (h : badP p = false) : okP p := fun l x e1 e2 => by
  obtain ⟨lo, hi⟩ := p
  cases e1; cases e2
  have := of_decide_eq_false h
  omega
def InSt (κ : Str) (lots : List Sets) (b : Box) (t : Tr) (n : Nat) (env : List Sl) : Prop := ∃ (st : List (Tr × Box)) (x5 x6 x7 x8 x9 x10 x11 : Sl), GoodSt lots b t st ∧ n = totT st ∧ env = [.d (.str κ), .d (lotsD lots), .d (sD b), .d (trD t), .ol (st.map itemD), x5, x6, x7, x8, x9, x10, x11]
theorem pu_st {lots : List Sets} {b : Box} {t : Tr} {st : List (Tr × Box)} (h : GoodSt lots b t st) : Pu 32 (.lst (st.map itemD)) ∧ Pu 32 (.lst []) := ⟨by
  unfold Pu
  refine PuL.map fun x hx => ?_
  obtain ⟨i, hi⟩ := List.mem_iff_getElem?.mp hx
  have hg := (h.h i x hi).2.2
  show Pu 31 (.tup [trD x.1, sD x.2])
  unfold Pu
  simp only [PuL]
  refine ⟨pu_tr _ _ (by omega), ?_, trivial⟩
  show Pu 30 (.tup (x.2.map pD))
  unfold Pu
  exact PuL.map fun p _ => puP p 28, pu_nl⟩
section
variable {P : Program} {w : World} {K : PySem.W.Frag} {mg : Str → Option Value} {base : Heap} {c : Ad}
theorem sc_sets_by : FnScope ["queries", "kind", "fields", "rows", "number"] ["queries", "kind", "fields"] (defScope ssets_by) := ⟨rfl, rfl, rfl, by decide +kernel, rfl, by decide +kernel, by decide +kernel⟩
-- slots: 0 queries, 1 kind, 2 fields, 3 rows, 4 number
theorem ok_sets_by (L : Cl K c) (T : Txt K mg) (h0 : Here K mg "sets_by" ["queries", "kind", "fields"] ssets_by) (F_rows_of : Df P w K mg base 4 "rows_of" ["queries", "kind"] (wRows c))  : Df P w K mg base 5 "sets_by" ["queries", "kind", "fields"] (wSetsBy c) := by
  obtain ⟨_, _, nothing1, nothing2, nothing3⟩ := T.nothing.ex
  refine df_of h0 sc_sets_by (fun ds q h => by obtain ⟨κ, qs, rfl, _⟩ := h; rfl) fun f cdv A outer s H E hr => ⟨_, _,
  (dss_cons (ds_set (i := 3) sc_sets_by.nd rfl (by first | exact Or.inl rfl | exact Or.inr rfl) (DM.toE (dm_dictP rfl rfl T.dict (de_clK (K := K) F_rows_of (hr.mono (by omega)) rfl (da_cons (de_var 0) (da_cons (de_var 1) da_nil))))))
  (dss_one (ds_ret (DN.toE (dn_lc (own := [("number", 4)]) rfl sc_sets_by.nd (DI.toB (di_range1 rfl T.range (da_cons (de_cb (call_lenK (K := K)) sc_len rfl T.len (by with_unfolding_all rfl) (dab_cons (db_var 0) dab_nil)) da_nil))) (blkOk_by (N := ["queries", "kind", "fields", "rows", "number"]) (sc := defScope ssets_by) (by decide +kernel)) (fun _ _ _ _ _ => (dg_name (i := 4) sc_sets_by.nd rfl (by first | exact Or.inl rfl | exact Or.inr rfl))) (fun _ _ _ _ _ => dts_nil) (fun _ _ _ _ _ => (de_dget2 hr.units (de_var 3) (de_var 4) (de_ifE (dt_cmp op_gt so_gt (db_var 2) (DE.toB de_int) (nomark _)) (de_op (op_repTK (K := K)) so_repT (DE.toB (de_tup (da_cons (de_glob rfl nothing1 nothing2 (fun G => nothing3 G) (by decide)) da_nil))) (db_var 2)) de_non)))))))), fun ds q h => ?_⟩
  obtain ⟨a0, a1, a2, a3, a4, a5, a6, a7, a8, a9, a10, a11, a12, a13, a14, a15, a16, a17, a18, a19, a20, a21, a22, a23, a24, a25, a26, a27, a28, a29, a30, a31, a32⟩ := L
  obtain ⟨κ, qs, rfl, ok, hq⟩ := h
  walk_at "x"
  refine ⟨κ, qs, rfl, ok, ?_⟩
  walk_at "x"
  rw [pairs_rows]
  walk_at "x"
  have hmg := merge_new (kvR (rowsK κ qs)) [] (rows_nd (qs.map (lk κ)) 0)
  rw [List.nil_append] at hmg
  rw [hmg]
  refine ⟨by have := ok.1; rw [List.length_map]; omega, ?_⟩
  unfold Y.intsFrom
  refine g_lcT (fun i y => ∃ s, (qs.map (lk κ))[i]? = some s ∧ y = ssD (lotS s)) (szl (by have := ok.1; rw [List.length_range, List.length_map]; omega)) (fun i hr L R hL hR => ?_) fun l hl => ?_
  · rw [List.mem_range, List.length_map] at hr
    have hi : i < (qs.map (lk κ)).length := by rw [List.length_map]; omega
    obtain ⟨s, hs⟩ : ∃ s, (qs.map (lk κ))[i]? = some s := ⟨_, List.getElem?_eq_getElem hi⟩
    have hv := val_rows (qs.map (lk κ)) 0 i s hs
    have hR' := hR _ ⟨s, hs, rfl⟩
    rw [Int.zero_add]
    rw [Nat.zero_add] at hv
    unfold lotS at hR'
    walk_at "x"
    · refine ⟨fun z => (by cases z), by decide, by decide, by decide, ?_⟩
      walk_at "x"
      rw [show rowsK κ qs = rowsFrom 0 (qs.map (lk κ)) from rfl, hv]
      cases he : emptyS s
      · rw [he] at hR'; exact hR'
      · rw [he] at hR'; exact hR'
    · (exfalso; rename_i hc; revert hc; decide)
  · obtain rfl := hl.map (g := fun i => ssD (lotS (((qs.map (lk κ))[i]?).getD []))) fun i y ⟨s, h1, h2⟩ => by rw [h2, h1]; rfl
    rw [List.length_map, Int.toNat_natCast, ← List.length_map (f := lk κ), lots_range]
    exact hq
theorem sc_wrong_node : FnScope ["kind", "lots", "box", "node", "rest", "here", "part", "found", "at", "cut", "low", "high"] ["kind", "lots", "box", "node"] (defScope swrong_node) := ⟨rfl, rfl, rfl, by decide +kernel, rfl, by decide +kernel, by decide +kernel⟩
-- slots: 0 kind, 1 lots, 2 box, 3 node, 4 rest, 5 here, 6 part, 7 found, 8 at, 9 cut, 10 low, 11 high
theorem ok_wrong_node  (T : Txt K mg) (h0 : Here K mg "wrong_node" ["kind", "lots", "box", "node"] swrong_node) (F_wrong_lot : Df P w K mg base 6 "wrong_lot" ["kind", "lots", "box", "told"] wWrongLot) (F_with_pair : Df P w K mg base 1 "with_pair" ["box", "at", "pair"] wWith)  : Df P w K mg base 7 "wrong_node" ["kind", "lots", "box", "node"] wWrongNode := by
  refine df_of h0 sc_wrong_node (fun ds q h => by obtain ⟨κ, l, b, t, rfl, _⟩ := h; rfl) fun f cdv A outer s H E hr => ⟨_, _,
  (dss_cons (ds_setN (i := 4) sc_wrong_node.nd rfl (by first | exact Or.inl rfl | exact Or.inr rfl) (dn_lst (da_cons (de_tup (da_cons (de_var 3) (da_cons (de_var 2) da_nil))) da_nil)))
  (dss_cons (ds_while PassesOwn.never (dt_cmp (op_neDK (K := K) hr.units) so_neU (db_var 4) (DE.toB (DN.toE (dn_lst da_nil))) (nomark _)) (dss_cons (ds_pop (K := K) 4 (pe_var rfl (by first | exact Or.inl rfl | exact Or.inr (Or.inl rfl) | exact Or.inr (Or.inr rfl)) (by decide) (by decide)) (dg_tupK (K := K) (n := 2) rfl (dgs_cons (dg_name (i := 5) sc_wrong_node.nd rfl (by first | exact Or.inl rfl | exact Or.inr rfl)) (dgs_cons (dg_name (i := 6) sc_wrong_node.nd rfl (by first | exact Or.inl rfl | exact Or.inr rfl)) dgs_nil))))
  (dss_cons (ds_if (dt_val (de_cb (cr_anyK (K := K) rfl) sc_any rfl T.any (by with_unfolding_all rfl) (dab_cons (DE.toB (DN.toE (dn_lc (own := [("low", 10), ("high", 11)]) rfl sc_wrong_node.nd (dib_seq (db_var 6)) (blkOk_by (N := ["kind", "lots", "box", "node", "rest", "here", "part", "found", "at", "cut", "low", "high"]) (sc := defScope swrong_node) (by decide +kernel)) (fun _ _ _ _ _ => (dg_tupK (K := K) (n := 2) rfl (dgs_cons (dg_name (i := 10) sc_wrong_node.nd rfl (by first | exact Or.inl rfl | exact Or.inr rfl)) (dgs_cons (dg_name (i := 11) sc_wrong_node.nd rfl (by first | exact Or.inl rfl | exact Or.inr rfl)) dgs_nil)))) (fun _ _ _ _ _ => dts_nil) (fun _ _ _ _ _ => (de_and (de_cmp op_notN so_notN (db_var 10) (DE.toB de_non) (nomark _)) (de_and (de_cmp op_notN so_notN (db_var 11) (DE.toB de_non) (nomark _)) (de_one (de_cmp op_gt so_gt (db_var 10) (db_var 11) (nomark _))))))))) dab_nil))) (dss_one ds_continue) dss_nil)
  (dss_one (ds_if (dt_cmp op_eq so_eqS (DE.toB (de_ixK (K := K) (db_var 5) (DE.toB de_int) (fun _ _ => rfl))) (DE.toB de_str) (nomark _)) (dss_cons (ds_set (i := 7) sc_wrong_node.nd rfl (by first | exact Or.inl rfl | exact Or.inr rfl) (de_clK (K := K) F_wrong_lot (hr.mono (by omega)) rfl (da_cons (de_var 0) (da_cons (de_var 1) (da_cons (de_var 6) (da_cons (de_ixK (K := K) (db_var 5) (DE.toB de_int) (fun _ _ => rfl)) da_nil))))))
  (dss_one (ds_if (dt_cmp op_notN so_notN (db_var 7) (DE.toB de_non) (nomark _)) (dss_one (ds_ret (de_var 7))) dss_nil))) (dss_cons (ds_par (i := 8) (j := 9) rfl sc_wrong_node.nd rfl rfl (by decide) rfl rfl (da_cons (de_op op_sub so_sub (DE.toB (de_ixK (K := K) (db_var 5) (DE.toB de_int) (fun _ _ => rfl))) (DE.toB de_int)) (da_cons (de_ixK (K := K) (db_var 5) (DE.toB de_int) (fun _ _ => rfl)) da_nil)) (by rfl))
  (dss_cons (ds_asg (de_ixK (K := K) (db_var 6) (db_var 8) (fun _ _ => rfl)) (dg_tupK (K := K) (n := 2) rfl (dgs_cons (dg_name (i := 10) sc_wrong_node.nd rfl (by first | exact Or.inl rfl | exact Or.inr rfl)) (dgs_cons (dg_name (i := 11) sc_wrong_node.nd rfl (by first | exact Or.inl rfl | exact Or.inr rfl)) dgs_nil))))
  (dss_cons (ds_append 4 (pe_var rfl (by first | exact Or.inl rfl | exact Or.inr (Or.inl rfl) | exact Or.inr (Or.inr rfl)) (by decide) (by decide)) (de_tup (da_cons (de_ixK (K := K) (db_var 5) (DE.toB de_int) (fun _ _ => rfl)) (da_cons (de_clK (K := K) F_with_pair (hr.mono (by omega)) rfl (da_cons (de_var 6) (da_cons (de_var 8) (da_cons (de_tup (da_cons (de_var 10) (da_cons (de_ifE (dt_cmp op_isN so_isN (db_var 11) (DE.toB de_non) (nomark _)) (de_op op_sub so_sub (db_var 9) (DE.toB de_int)) (de_cb (call_min2 rfl) sc_min2 rfl T.min (by with_unfolding_all rfl) (dab_cons (db_var 11) (dab_cons (DE.toB (de_op op_sub so_sub (db_var 9) (DE.toB de_int))) dab_nil)))) da_nil))) da_nil)))) da_nil))))
  (dss_one (ds_append 4 (pe_var rfl (by first | exact Or.inl rfl | exact Or.inr (Or.inl rfl) | exact Or.inr (Or.inr rfl)) (by decide) (by decide)) (de_tup (da_cons (de_ixK (K := K) (db_var 5) (DE.toB de_int) (fun _ _ => rfl)) (da_cons (de_clK (K := K) F_with_pair (hr.mono (by omega)) rfl (da_cons (de_var 6) (da_cons (de_var 8) (da_cons (de_tup (da_cons (de_ifE (dt_cmp op_isN so_isN (db_var 10) (DE.toB de_non) (nomark _)) (de_var 9) (de_cb (call_max2 rfl) sc_max2 rfl T.max (by with_unfolding_all rfl) (dab_cons (db_var 10) (dab_cons (db_var 9) dab_nil)))) (da_cons (de_var 11) da_nil))) da_nil)))) da_nil)))))))))))))
  (dss_one (ds_ret de_non)))), fun ds q h => ?_⟩
  obtain ⟨κ, lots, b, t, rfl, ok, hb, hix, hh, hev, hnn⟩ := h
  walk_at "x"
  refine g_whileN (InSt κ lots b t) _ ⟨[(t, b)], _, _, _, _, _, _, _, GoodSt.start hb hix hh, rfl, rfl⟩ ?_
  rintro n env' N ⟨st, x5, x6, x7, x8, x9, x10, x11, hst, rfl, rfl⟩ hN
  have hpu := pu_st hst
  walk_at "x"
  · rename_i hne
    obtain ⟨ini, ⟨t', b'⟩, rfl⟩ : ∃ ini x, st = ini ++ [x] := by
      rcases List.eq_nil_or_concat st with rfl | ⟨a, x, e⟩
      · exact absurd rfl hne
      · exact ⟨a, x, by rw [e, List.concat_eq_append]⟩
    obtain ⟨hb', hix', hh'⟩ := hst.h ini.length (t', b') (by rw [List.getElem?_append_right (Nat.le_refl _), Nat.sub_self]; rfl)
    have hsa := hst.a (t', b') (List.mem_append_right _ (List.mem_singleton.mpr rfl))
    have htot : totT (ini ++ [(t', b')]) = totT ini + nodesT t' := by unfold totT; simp
    have hpos : 0 < nodesT t' := by cases t' <;> (show 0 < _; unfold nodesT; omega)
    refine ⟨itemD (t', b'), ini.map itemD, by rw [List.map_append]; rfl, ?_⟩
    walk_at "x"
    refine g_lcT (fun r y => y = .bl (badP r)) (szl (by rw [show b'.length = 2 from hb']; decide)) (fun r hr L R hL hR => ?_) fun l hl => ?_
    · obtain ⟨lo, hi⟩ := r
      cases lo <;> cases hi <;> walk_at "x"
      all_goals first | exact hR _ rfl | skip
      · exact hR _ (congrArg D.bl (decide_eq_true ‹_ < _›).symm)
      · exact hR _ (congrArg D.bl (decide_eq_false ‹¬ _ < _›).symm)
    · obtain ⟨p0, p1, rfl⟩ := two (show b'.length = 2 from hb')
      have e : l = [D.bl (badP p0), D.bl (badP p1)] := hl.map (g := fun r => .bl (badP r)) fun _ _ h => h
      subst e
      cases hb0 : badP p0 with
      | true =>
        walk_at "x"
        exact hN (totT ini) _ (by rw [htot]; omega) ⟨ini, _, _, _, _, _, _, _, hst.pop fun e he => by
          obtain ⟨m, n, rfl⟩ := two he.len
          exact (bad_no hb0 m (inB2_two.mp he).1).elim, rfl, rfl⟩
      | false =>
        cases hb1 : badP p1 with
        | true =>
          walk_at "x"
          exact hN (totT ini) _ (by rw [htot]; omega) ⟨ini, _, _, _, _, _, _, _, hst.pop fun e he => by
            obtain ⟨m, n, rfl⟩ := two he.len
            exact (bad_no hb1 n (inB2_two.mp he).2).elim, rfl, rfl⟩
        | false =>
          have okb : OkBox [p0, p1] := ⟨rfl, fun p hp => by
            simp only [List.mem_cons, List.not_mem_nil, or_false] at hp
            rcases hp with rfl | rfl
            · exact bad_ok hb0
            · exact bad_ok hb1⟩
          cases t' with
          | lot ns =>
            walk_at "x"
            · refine ⟨κ, lots, [p0, p1], ns, rfl, ok, okb, fun e he hno => ?_, fun hal => ?_⟩
              · walk_at "x"
                exact hev e (hsa e he).1 (by rw [← (hsa e he).2]; exact hno)
              · walk_at "x"
                exact hN (totT ini) _ (by rw [htot]; omega) ⟨ini, _, _, _, _, _, _, _, hst.pop fun e he => by rw [← (hsa e he).2]; exact hal e he, rfl, rfl⟩
          | bel i cc l r =>
            obtain ⟨hi3, _⟩ := hix'
            rcases (by omega : i = 0 ∨ i = 1) with rfl | rfl
            · obtain ⟨lo, hi⟩ := p0
              cases lo with
              | none =>
                cases hi with
                | none =>
                  walk_at "x"
                  · exact absurd ‹Str.ofString "below" = Str.ofString "lot"› (by decide)
                  · refine ⟨[(none, none), p1], 0, (none, some (minO none (cc - 1))), rfl, rfl, by decide, ?_⟩
                    walk_at "x"
                    refine ⟨[(none, none), p1], 0, (some (maxO none cc), none), rfl, rfl, by decide, ?_⟩
                    walk_at "x"
                    exact hN _ _ st_tot ⟨ini ++ [(l, _)] ++ [(r, _)], _, _, _, _, _, _, _, hst.push, rfl, by simp only [List.map_append]; rfl⟩
                | some hv =>
                  walk_at "x"
                  · exact absurd ‹Str.ofString "below" = Str.ofString "lot"› (by decide)
                  · refine ⟨[(none, (some hv)), p1], 0, (none, some (minO (some hv) (cc - 1))), rfl, rfl, by decide, ?_⟩
                    walk_at "x"
                    refine ⟨[(none, (some hv)), p1], 0, (some (maxO none cc), (some hv)), rfl, rfl, by decide, ?_⟩
                    walk_at "x"
                    exact hN _ _ st_tot ⟨ini ++ [(l, _)] ++ [(r, _)], _, _, _, _, _, _, _, hst.push, rfl, by simp only [List.map_append]; rfl⟩
              | some lv =>
                cases hi with
                | none =>
                  walk_at "x"
                  · exact absurd ‹Str.ofString "below" = Str.ofString "lot"› (by decide)
                  · refine ⟨[((some lv), none), p1], 0, ((some lv), some (minO none (cc - 1))), rfl, rfl, by decide, ?_⟩
                    walk_at "x"
                    refine ⟨[((some lv), none), p1], 0, (some (maxO (some lv) cc), none), rfl, rfl, by decide, ?_⟩
                    walk_at "x"
                    exact hN _ _ st_tot ⟨ini ++ [(l, _)] ++ [(r, _)], _, _, _, _, _, _, _, hst.push, rfl, by simp only [List.map_append]; rfl⟩
                | some hv =>
                  walk_at "x"
                  · exact absurd ‹Str.ofString "below" = Str.ofString "lot"› (by decide)
                  · refine ⟨[((some lv), (some hv)), p1], 0, ((some lv), some (minO (some hv) (cc - 1))), rfl, rfl, by decide, ?_⟩
                    walk_at "x"
                    refine ⟨[((some lv), (some hv)), p1], 0, (some (maxO (some lv) cc), (some hv)), rfl, rfl, by decide, ?_⟩
                    walk_at "x"
                    exact hN _ _ st_tot ⟨ini ++ [(l, _)] ++ [(r, _)], _, _, _, _, _, _, _, hst.push, rfl, by simp only [List.map_append]; rfl⟩
            · obtain ⟨lo, hi⟩ := p1
              cases lo with
              | none =>
                cases hi with
                | none =>
                  walk_at "x"
                  · exact absurd ‹Str.ofString "below" = Str.ofString "lot"› (by decide)
                  · refine ⟨[p0, (none, none)], 1, (none, some (minO none (cc - 1))), rfl, rfl, by decide, ?_⟩
                    walk_at "x"
                    refine ⟨[p0, (none, none)], 1, (some (maxO none cc), none), rfl, rfl, by decide, ?_⟩
                    walk_at "x"
                    exact hN _ _ st_tot ⟨ini ++ [(l, _)] ++ [(r, _)], _, _, _, _, _, _, _, hst.push, rfl, by simp only [List.map_append]; rfl⟩
                | some hv =>
                  walk_at "x"
                  · exact absurd ‹Str.ofString "below" = Str.ofString "lot"› (by decide)
                  · refine ⟨[p0, (none, (some hv))], 1, (none, some (minO (some hv) (cc - 1))), rfl, rfl, by decide, ?_⟩
                    walk_at "x"
                    refine ⟨[p0, (none, (some hv))], 1, (some (maxO none cc), (some hv)), rfl, rfl, by decide, ?_⟩
                    walk_at "x"
                    exact hN _ _ st_tot ⟨ini ++ [(l, _)] ++ [(r, _)], _, _, _, _, _, _, _, hst.push, rfl, by simp only [List.map_append]; rfl⟩
              | some lv =>
                cases hi with
                | none =>
                  walk_at "x"
                  · exact absurd ‹Str.ofString "below" = Str.ofString "lot"› (by decide)
                  · refine ⟨[p0, ((some lv), none)], 1, ((some lv), some (minO none (cc - 1))), rfl, rfl, by decide, ?_⟩
                    walk_at "x"
                    refine ⟨[p0, ((some lv), none)], 1, (some (maxO (some lv) cc), none), rfl, rfl, by decide, ?_⟩
                    walk_at "x"
                    exact hN _ _ st_tot ⟨ini ++ [(l, _)] ++ [(r, _)], _, _, _, _, _, _, _, hst.push, rfl, by simp only [List.map_append]; rfl⟩
                | some hv =>
                  walk_at "x"
                  · exact absurd ‹Str.ofString "below" = Str.ofString "lot"› (by decide)
                  · refine ⟨[p0, ((some lv), (some hv))], 1, ((some lv), some (minO (some hv) (cc - 1))), rfl, rfl, by decide, ?_⟩
                    walk_at "x"
                    refine ⟨[p0, ((some lv), (some hv))], 1, (some (maxO (some lv) cc), (some hv)), rfl, rfl, by decide, ?_⟩
                    walk_at "x"
                    exact hN _ _ st_tot ⟨ini ++ [(l, _)] ++ [(r, _)], _, _, _, _, _, _, _, hst.push, rfl, by simp only [List.map_append]; rfl⟩
  · rename_i hemp
    have hemp : st = [] := by
      have := D.lst.inj hemp
      simpa using this
    subst hemp
    walk_at "x"
    refine hnn fun e he => ?_
    rcases hst.b e he with h | ⟨x, hx, _⟩
    · exact h
    · cases hx
end
end S07

namespace S07
open PySem L2 Y
local macro_rules | `(tactic| walk_at $_:str) => `(tactic| (conv => whnf) <;> repeat' (first
  | (refine And.intro (fun (hc : (_ : Prop)) => ?_) (fun (hc : (_ : Prop)) => ?_) <;> first | exact (d_ni hc).elim | exact (d_nt hc).elim | exact (d_nl hc).elim | exact (d_tc hc).elim | exact (d_lc hc).elim | exact (hc rfl).elim | (conv => whnf))
  | (refine And.intro (by first | exact dr_t rfl | (with_reducible first | exact lz1 | exact lz2 | exact lz3 | exact lz0 | exact lz5 | exact pu_ii | exact lq2 | exact lq1 | exact lq3 | exact lq5 | assumption | exact ⟨puL _, pu_nl⟩ | exact rfl) | (with_reducible first | refine szl ?_ | refine szl2 ?_) <;> (first | omega | (simp only [List.length_append, List.length_map, List.length_cons, List.length_nil, List.length_set]; omega) | (simp only [List.length_append, List.length_map, List.length_cons, List.length_nil, List.length_set]; done)) | fail) ?_ <;> (conv => whnf))
  | fail))

def enumFrom {α : Type} (k : Nat) : List α → List (Nat × α)
  | [] => []
  | s :: r => (k, s) :: enumFrom (k + 1) r
theorem enum_get {α : Type} : ∀ (qs : List α) (k i : Nat), (enumFrom k qs)[i]? = (qs[i]?).map fun s => (k + i, s)
  | [], _, _ => by simp [enumFrom]
  | s :: r, k, 0 => by simp [enumFrom]
  | s :: r, k, i + 1 => by
    show (enumFrom (k + 1) r)[i]? = _
    rw [enum_get r (k + 1) i, List.getElem?_cons_succ, show k + 1 + i = k + (i + 1) by omega]
theorem enum_len {α : Type} : ∀ (qs : List α) (k : Nat), (enumFrom k qs).length = qs.length
  | [], _ => rfl
  | s :: r, k => by show (enumFrom (k + 1) r).length + 1 = r.length + 1; rw [enum_len r (k + 1)]
theorem enumD_map {α : Type} {f : α → D} (qs : List α) : enumD (qs.map f) = (enumFrom 0 qs).map fun r => .tup [.int (r.1 : Nat), f r.2] := by
  refine List.ext_getElem? fun i => ?_
  rw [List.getElem?_map, enum_get]
  unfold enumD
  rw [List.getElem?_map]
  by_cases hi : i < qs.length
  · rw [List.getElem?_range (by rw [List.length_map]; exact hi), List.getElem?_eq_getElem hi]
    show some (D.tup [D.int (i : Nat), ((qs.map f)[i]?).getD D.non]) = some (D.tup [D.int ((0 + i : Nat) : Int), f qs[i]])
    rw [List.getElem?_map, List.getElem?_eq_getElem hi, Nat.zero_add]; rfl
  · rw [List.getElem?_eq_none (by rw [List.length_range, List.length_map]; omega), List.getElem?_eq_none (by omega)]; rfl
theorem enum_lt {α : Type} : ∀ (qs : List α) (k : Nat), (enumFrom k qs).Pairwise (fun a b => (a.1 : Int) < b.1)
  | [], _ => .nil
  | s :: r, k => List.pairwise_cons.mpr ⟨fun x hx => by
      obtain ⟨i, hi⟩ := List.mem_iff_getElem?.mp hx
      rw [enum_get] at hi
      cases h : r[i]? with
      | none => rw [h] at hi; cases hi
      | some y => rw [h] at hi; cases hi; show ((k : Nat) : Int) < ((k + 1 + i : Nat) : Int); omega, enum_lt r (k + 1)⟩
def rightL (κ : Bool) (qs : List Qr) (e : List Int) : List Int := ((enumFrom 0 qs).filter fun r => inSb (lk κ r.2) e).map fun r => (r.1 : Int)
theorem srt_right {κ : Bool} {qs : List Qr} {e : List Int} : Srt (rightL κ qs e) := by
  unfold rightL Srt
  rw [List.pairwise_map]
  exact (enum_lt qs 0).filter _
theorem mem_right {κ : Bool} {qs : List Qr} {e : List Int} {x : Int} : x ∈ rightL κ qs e ↔ ∃ (i : Nat) (Q : Qr), x = i ∧ qs[i]? = some Q ∧ inSb (lk κ Q) e = true := by
  unfold rightL
  rw [List.mem_map]
  constructor
  · rintro ⟨⟨n, Q⟩, hm, rfl⟩
    obtain ⟨hm, hb⟩ := List.mem_filter.mp hm
    obtain ⟨i, hi⟩ := List.mem_iff_getElem?.mp hm
    rw [enum_get] at hi
    cases h : qs[i]? with
    | none => rw [h] at hi; cases hi
    | some y => rw [h] at hi; cases hi; exact ⟨i, Q, by show ((0 + i : Nat) : Int) = i; omega, h, hb⟩
  · rintro ⟨i, Q, rfl, h, hb⟩
    refine ⟨(i, Q), List.mem_filter.mpr ⟨List.mem_iff_getElem?.mpr ⟨i, ?_⟩, hb⟩, rfl⟩
    rw [enum_get, h, Nat.zero_add]; rfl
theorem lotS_in {s : Sets} {e : List Int} (hs : s.length = 2) (he : e.length = 2) : inSb (lotS s) e = inSb s e := by
  obtain ⟨x, y, rfl⟩ := two hs
  obtain ⟨m, n, rfl⟩ := two he
  unfold lotS
  cases h : emptyS [x, y]
  · rfl
  · rw [if_pos rfl, inSb_two, inSb_two]
    have h : (x.isEmpty || (y.isEmpty || false)) = true := h
    rw [Bool.or_false, Bool.or_eq_true, List.isEmpty_iff, List.isEmpty_iff] at h
    rcases h with rfl | rfl
    · rfl
    · rw [show mem n [] = false from rfl, Bool.and_false, Bool.and_false]
theorem lots_get {κ : Bool} {qs : List Qr} {i : Nat} : (lotsK κ qs)[i]? = (qs[i]?).map fun Q => lotS (lk κ Q) := by
  unfold lotsK lotsOf
  rw [List.getElem?_map, List.getElem?_map]
  cases qs[i]? <;> rfl
theorem lot_iff {κ : Bool} {qs : List Qr} {e ns : List Int} (ok : OkQs qs) (he : e.length = 2) (h1 : Srt ns) (h2 : ∀ n ∈ ns, 0 ≤ n ∧ n < (qs.length : Nat)) : LotOk (lotsK κ qs) ns e ↔ ns = rightL κ qs e := by
  have hin : ∀ (i : Nat) (Q : Qr), qs[i]? = some Q → inSb (lotS (lk κ Q)) e = inSb (lk κ Q) e := fun i Q h => lotS_in (okq_lk (ok.2 Q (List.mem_of_getElem? h)) κ).1 he
  constructor
  · intro h
    refine srt_uniq h1 srt_right fun x => ?_
    rw [mem_right]
    constructor
    · intro hx
      obtain ⟨a, b⟩ := h2 x hx
      obtain ⟨i, rfl⟩ : ∃ i : Nat, x = i := ⟨x.toNat, by omega⟩
      have hi : i < qs.length := by omega
      refine ⟨i, qs[i], rfl, List.getElem?_eq_getElem hi, ?_⟩
      rw [← hin i _ (List.getElem?_eq_getElem hi)]
      exact (h i _ (by rw [lots_get, List.getElem?_eq_getElem hi]; rfl)).mp hx
    · rintro ⟨i, Q, rfl, hQ, hb⟩
      refine (h i (lotS (lk κ Q)) (by rw [lots_get, hQ]; rfl)).mpr ?_
      rw [hin i Q hQ]; exact hb
  · intro h i s hs
    rw [lots_get] at hs
    cases hQ : qs[i]? with
    | none => rw [hQ] at hs; cases hs
    | some Q =>
      rw [hQ] at hs
      cases hs
      rw [hin i Q hQ, h, mem_right]
      constructor
      · rintro ⟨j, Q', hj, hQ', hb⟩
        have : i = j := by omega
        subst this
        rw [hQ] at hQ'; cases hQ'; exact hb
      · intro hb; exact ⟨i, Q, rfl, hQ, hb⟩
def TrOk (qs : List Qr) (t : Tr) : Prop := ixOk t ∧ LotsIn qs.length t ∧ height t ≤ 25
def TreeOk (qs : List Qr) (ta tb : Tr) : Prop := ∀ κ, TrOk qs (sel κ ta tb)
theorem lots_ok {κ : Bool} {qs : List Qr} (h : OkQs qs) : OkLots (lotsK κ qs) := ⟨by unfold lotsK lotsOf; rw [List.length_map, List.length_map]; exact h.1, fun s hs => by
  obtain ⟨i, hi⟩ := List.mem_iff_getElem?.mp hs
  rw [lots_get] at hi
  cases hQ : qs[i]? with
  | none => rw [hQ] at hi; cases hi
  | some Q =>
    rw [hQ] at hi; cases hi
    show NormS (if emptyS (lk κ Q) then EmpS else lk κ Q)
    split
    · exact norm_emp
    · exact okq_lk (h.2 Q (List.mem_of_getElem? hQ)) κ⟩
theorem inB2_B0 {e : List Int} : InB2 B0 e ↔ e.length = 2 := by
  constructor
  · intro h; exact h.len
  · intro h
    obtain ⟨m, n, rfl⟩ := two h
    exact inB2_two.mpr ⟨rfl, rfl⟩
def RightAt (qs : List Qr) (ta tb : Tr) (κ : Bool) (e : List Int) : Prop := lotAt e (sel κ ta tb) = rightL κ qs e
def wWrongTree (c : Ad) : WD := fun ds q => ∃ (qs : List Qr) (ta tb : Tr), ds = [kindsD c, queriesD c qs, treeD ta tb] ∧ OkQs qs ∧ TreeOk qs ta tb ∧ (∀ κ e, e.length = 2 → ¬ RightAt qs ta tb κ e → q (evD (knd κ) e)) ∧ ((∀ κ e, e.length = 2 → RightAt qs ta tb κ e) → q .non)
def wBrought (c : Ad) : WD := fun ds q => ∃ (qs : List Qr) (ta tb : Tr) (κ : Bool) (e : List Int), ds = [queriesD c qs, treeD ta tb, evD (knd κ) e] ∧ OkQs qs ∧ TreeOk qs ta tb ∧ e.length = 2 ∧ (RightAt qs ta tb κ e → q (.bl true)) ∧ (¬ RightAt qs ta tb κ e → q (.bl false))
theorem pu_is (cs : List Int) : Pu 32 (.lst (cs.map D.int)) := by unfold Pu; exact PuL.map fun i _ => by unfold Pu; trivial
theorem ints_inj {a b : List Int} (h : a.map D.int = b.map D.int) : a = b := List.map_inj_right (fun x y e => D.int.inj e) |>.mp h
def InWt (c : Ad) (qs : List Qr) (ta tb : Tr) (m : Nat) (env : List Sl) : Prop := ∃ x3 x4 x5 : Sl, (1 ≤ m → ∀ e, e.length = 2 → RightAt qs ta tb false e) ∧ (2 ≤ m → ∀ e, e.length = 2 → RightAt qs ta tb true e) ∧ env = [.d (kindsD c), .d (queriesD c qs), .d (treeD ta tb), x3, x4, x5]
section
variable {P : Program} {w : World} {K : PySem.W.Frag} {mg : Str → Option Value} {base : Heap} {c : Ad}
theorem sc_wrong_tree : FnScope ["kinds", "queries", "tree", "kind", "box", "found"] ["kinds", "queries", "tree"] (defScope swrong_tree) := ⟨rfl, rfl, rfl, by decide +kernel, rfl, by decide +kernel, by decide +kernel⟩
-- slots: 0 kinds, 1 queries, 2 tree, 3 kind, 4 box, 5 found
theorem ok_wrong_tree (L : Cl K c) (T : Txt K mg) (h0 : Here K mg "wrong_tree" ["kinds", "queries", "tree"] swrong_tree) (F_whole_box : Df P w K mg base 1 "whole_box" ["kinds", "kind"] (wBox c)) (F_sets_by : Df P w K mg base 5 "sets_by" ["queries", "kind", "fields"] (wSetsBy c)) (F_wrong_node : Df P w K mg base 7 "wrong_node" ["kind", "lots", "box", "node"] wWrongNode)  : Df P w K mg base 8 "wrong_tree" ["kinds", "queries", "tree"] (wWrongTree c) := by
  refine df_of h0 sc_wrong_tree (fun ds q h => by obtain ⟨q, ta, tb, rfl, _⟩ := h; rfl) fun f cdv A outer s H E hr => ⟨_, _,
  (dss_cons (ds_for PassesOwn.never rfl (di_seq (DN.toE (dn_sortD hr.units rfl T.sorted (DN.toE (dn_listD rfl rfl T.list (DE.toB (de_attr (K := K) (de_var 0)))))))) (dg_name (i := 3) sc_wrong_tree.nd rfl (by first | exact Or.inl rfl | exact Or.inr rfl)) (dss_cons (ds_set (i := 4) sc_wrong_tree.nd rfl (by first | exact Or.inl rfl | exact Or.inr rfl) (de_clK (K := K) F_whole_box (hr.mono (by omega)) rfl (da_cons (de_var 0) (da_cons (de_var 3) da_nil))))
  (dss_cons (ds_set (i := 5) sc_wrong_tree.nd rfl (by first | exact Or.inl rfl | exact Or.inr rfl) (de_clK (K := K) F_wrong_node (hr.mono (by omega)) rfl (da_cons (de_var 3) (da_cons (de_clK (K := K) F_sets_by (hr.mono (by omega)) rfl (da_cons (de_var 1) (da_cons (de_var 3) (da_cons (de_cb (call_lenK (K := K)) sc_len rfl T.len (by with_unfolding_all rfl) (dab_cons (db_var 4) dab_nil)) da_nil)))) (da_cons (de_var 4) (da_cons (de_dget hr.units (db_var 2) (de_var 3)) da_nil))))))
  (dss_one (ds_if (dt_cmp op_notN so_notN (db_var 5) (DE.toB de_non) (nomark _)) (dss_one (ds_ret (de_var 5))) dss_nil)))))
  (dss_one (ds_ret de_non))), fun ds q h => ?_⟩
  obtain ⟨a0, a1, a2, a3, a4, a5, a6, a7, a8, a9, a10, a11, a12, a13, a14, a15, a16, a17, a18, a19, a20, a21, a22, a23, a24, a25, a26, a27, a28, a29, a30, a31, a32⟩ := L
  obtain ⟨qs, ta, tb, rfl, ok, tok, hev, hnn⟩ := h
  walk_at "x"
  refine ⟨ab_ok, ?_⟩
  rw [sort_ab]
  conv => whnf
  refine g_for (InWt c qs ta tb) ⟨_, _, _, fun z => absurd z (by decide), fun z => absurd z (by decide), rfl⟩ ?_ ?_
  · rintro m d env' hd ⟨x3, x4, x5, c1, c2, rfl⟩
    rcases (show m = 0 ∨ m = 1 from by have := (List.getElem?_eq_some_iff.mp hd).1; simp at this; omega) with rfl | rfl
    · cases hd
      walk_at "x"
      refine ⟨false, rfl, ?_⟩
      walk_at "x"
      refine ⟨false, qs, rfl, ok, ?_⟩
      walk_at "x"
      have tk := tok false
      refine ⟨knd false, lotsK false qs, B0, sel false ta tb, rfl, lots_ok ok, rfl, tk.1, tk.2.2, fun e he hno => ?_, fun hal => ?_⟩
      · walk_at "x"
        refine hev false e he.len fun hr => hno ?_
        exact (lot_iff ok he.len tk.2.1.at.1 tk.2.1.at.2).mpr hr
      · walk_at "x"
        refine ⟨_, _, _, fun _ e he => (lot_iff ok he tk.2.1.at.1 tk.2.1.at.2).mp (hal e (inB2_B0.mpr he)), fun z => absurd z (by decide), rfl⟩
    · cases hd
      walk_at "x"
      refine ⟨true, rfl, ?_⟩
      walk_at "x"
      refine ⟨true, qs, rfl, ok, ?_⟩
      walk_at "x"
      have tk := tok true
      refine ⟨knd true, lotsK true qs, B0, sel true ta tb, rfl, lots_ok ok, rfl, tk.1, tk.2.2, fun e he hno => ?_, fun hal => ?_⟩
      · walk_at "x"
        refine hev true e he.len fun hr => hno ?_
        exact (lot_iff ok he.len tk.2.1.at.1 tk.2.1.at.2).mpr hr
      · walk_at "x"
        refine ⟨_, _, _, fun _ => c1 (by decide), fun _ e he => (lot_iff ok he tk.2.1.at.1 tk.2.1.at.2).mp (hal e (inB2_B0.mpr he)), rfl⟩
  · rintro env' ⟨x3, x4, x5, c1, c2, rfl⟩
    walk_at "x"
    refine hnn fun κ e he => ?_
    cases κ
    · exact c1 (show 1 ≤ 2 by decide) e he
    · exact c2 (show 2 ≤ 2 by decide) e he
theorem sc__law_is_brought : FnScope ["_law_queries", "_law_tree", "_law_event", "_law_number_here", "_law_query_here"] ["_law_queries", "_law_tree", "_law_event"] (defScope sL_is_brought) := ⟨rfl, rfl, rfl, by decide +kernel, rfl, by decide +kernel, by decide +kernel⟩
-- slots: 0 _law_queries, 1 _law_tree, 2 _law_event, 3 _law_number_here, 4 _law_query_here
theorem ok__law_is_brought (L : Cl K c) (T : Txt K mg) (h0 : Here K mg "_law_is_brought" ["_law_queries", "_law_tree", "_law_event"] sL_is_brought) (F_lot_of : Df P w K mg base 2 "lot_of" ["tree", "event"] wLot) (F_is_seen : Df P w K mg base 3 "is_seen" ["query", "event"] (wSeen c))  : Df P w K mg base 5 "_law_is_brought" ["_law_queries", "_law_tree", "_law_event"] (wBrought c) := by
  refine df_of h0 sc__law_is_brought (fun ds q h => by obtain ⟨qs, ta, tb, κ, e, rfl, _⟩ := h; rfl) fun f cdv A outer s H E hr => ⟨_, _,
  (dss_one (ds_ret (de_cmp (op_eqDK (K := K) hr.units) so_eqU (DE.toB (DN.toE (dn_list rfl T.list (by with_unfolding_all rfl) (dab_cons (DE.toB (de_clK (K := K) F_lot_of (hr.mono (by omega)) rfl (da_cons (de_var 1) (da_cons (de_var 2) da_nil)))) dab_nil)))) (DE.toB (DN.toE (dn_lc (own := [("_law_number_here", 3), ("_law_query_here", 4)]) rfl sc__law_is_brought.nd (DI.toB (di_enum rfl T.enumerate (da_cons (de_var 0) da_nil))) (blkOk_by (N := ["_law_queries", "_law_tree", "_law_event", "_law_number_here", "_law_query_here"]) (sc := defScope sL_is_brought) (by decide +kernel)) (fun _ _ _ _ _ => (dg_tupK (K := K) (n := 2) rfl (dgs_cons (dg_name (i := 3) sc__law_is_brought.nd rfl (by first | exact Or.inl rfl | exact Or.inr rfl)) (dgs_cons (dg_name (i := 4) sc__law_is_brought.nd rfl (by first | exact Or.inl rfl | exact Or.inr rfl)) dgs_nil)))) (fun _ _ _ _ _ => (dts_one (dt_val (de_clK (K := K) F_is_seen (hr.mono (by omega)) rfl (da_cons (de_var 4) (da_cons (de_var 2) da_nil)))))) (fun _ _ _ _ _ => (de_var 3))))) (nomark _)))), fun ds q h => ?_⟩
  obtain ⟨a0, a1, a2, a3, a4, a5, a6, a7, a8, a9, a10, a11, a12, a13, a14, a15, a16, a17, a18, a19, a20, a21, a22, a23, a24, a25, a26, a27, a28, a29, a30, a31, a32⟩ := L
  obtain ⟨qs, ta, tb, κ, e, rfl, ok, tok, he, hy, hn⟩ := h
  walk_at "x"
  refine ⟨κ, ta, tb, e, rfl, he, (tok κ).1, ?_⟩
  walk_at "x"
  rw [enumD_map]
  refine g_lcR (fun r => inSb (lk κ r.2) e) (fun r => .int (r.1 : Nat)) (szl (by rw [enum_len]; have := ok.1; omega)) (fun r hr L n R hL hR hn => ?_) ?_
  · obtain ⟨num, Q⟩ := r
    have hQ : OkQ Q := by
      obtain ⟨m, hm⟩ := List.mem_iff_getElem?.mp hr
      rw [enum_get] at hm
      cases hq : qs[m]? with
      | none => rw [hq] at hm; cases hm
      | some s1 => rw [hq] at hm; cases hm; exact ok.2 _ (List.mem_of_getElem? hq)
    walk_at "x"
    refine ⟨Q, κ, e, rfl, hQ, he, ?_⟩
    cases hin : inSb (lk κ Q) e
    · walk_at "x"
      exact hn hin
    · walk_at "x"
      exact hR hin
  · have hmm : ((enumFrom 0 qs).filter fun r => inSb (lk κ r.2) e).map (fun r => D.int (r.1 : Nat)) = (rightL κ qs e).map D.int := by unfold rightL; rw [List.map_map]; rfl
    rw [hmm]
    have hpu : Pu 32 (.lst ((lotAt e (sel κ ta tb)).map D.int)) ∧ Pu 32 (.lst ((rightL κ qs e).map D.int)) := ⟨pu_is _, pu_is _⟩
    walk_at "x"
    · exact hy (ints_inj (D.lst.inj ‹_›))
    · exact hn fun z => ‹¬ _ = _› (by rw [show lotAt e (sel κ ta tb) = _ from z])
end
end S07

namespace S07
open PySem L2 Y
local macro_rules | `(tactic| walk_at $_:str) => `(tactic| (conv => whnf) <;> repeat' (first
  | (refine And.intro (fun (hc : (_ : Prop)) => ?_) (fun (hc : (_ : Prop)) => ?_) <;> first | exact (d_ni hc).elim | exact (d_nt hc).elim | exact (d_nl hc).elim | exact (d_tc hc).elim | exact (d_lc hc).elim | exact (hc rfl).elim | (conv => whnf))
  | (refine And.intro (by first | exact dr_t rfl | (with_reducible first | exact lz1 | exact lz2 | exact lz3 | exact lz0 | exact lz5 | exact pu_ii | exact lq2 | exact lq1 | exact lq3 | exact lq5 | assumption | exact ⟨puL _, pu_nl⟩ | exact rfl) | (with_reducible first | refine szl ?_ | refine szl2 ?_) <;> (first | omega | (simp only [List.length_append, List.length_map, List.length_cons, List.length_nil, List.length_set]; omega) | (simp only [List.length_append, List.length_map, List.length_cons, List.length_nil, List.length_set]; done)) | fail) ?_ <;> (conv => whnf))
  | fail))

def wPick : WD := fun ds q => ∃ xs : List D, ds = [.lst xs] ∧ 0 < xs.length ∧ ∀ x ∈ xs, q x
theorem at_of {xs : List D} {v : Int} (h0 : 0 ≤ v) (h1 : v < xs.length) : ∃ x, x ∈ xs ∧ atI xs v = some x := by
  obtain ⟨k, rfl⟩ : ∃ k : Nat, v = (k : Int) := ⟨v.toNat, by omega⟩
  have hk : k < xs.length := by omega
  refine ⟨xs[k], List.getElem_mem hk, ?_⟩
  exact atI_nat (List.getElem?_eq_getElem hk)
def wSet : WD := fun ds q => ds = [] ∧ ∀ l : List P2, l.length ≤ 2 → q (.lst (l.map pD))
def wLSide (c : Ad) : WD := fun ds q => ∃ κ : Bool, ds = [.str (knd κ)] ∧ ∀ s, NormS s → q (sideD c κ s)
theorem nmj_inj {κ : Bool} {i j : Nat} (hi : i < 2) (hj : j < 2) (h : nmj κ i = nmj κ j) : i = j := by
  rcases (by omega : i = 0 ∨ i = 1) with rfl | rfl <;> rcases (by omega : j = 0 ∨ j = 1) with rfl | rfl <;> first | rfl | (cases κ <;> exact absurd h (by decide))
theorem put_wh {κ : Bool} {its : List (Nat × List P2)} {k : Nat} {l : List P2} (hk : k < 2) (h : ∀ e ∈ its, e.1 < k) : putD (whD κ its) (Sum.inr (nmj κ k)) (.lst (l.map pD)) = whD κ (its ++ [(k, l)]) := by
  rw [putD_new]
  · show _ = List.map _ (its ++ [(k, l)])
    rw [List.map_append]; rfl
  · intro hm
    obtain ⟨z, hz, e⟩ := List.mem_map.mp hm
    obtain ⟨x, hx, rfl⟩ := List.mem_map.mp hz
    have h1 := h x hx
    have := nmj_inj (by omega) hk (Sum.inr.inj e)
    omega
def InSd (κ : Bool) (k : Nat) (env : List Sl) : Prop := ∃ (its : List (Nat × List P2)) (x4 : Sl), its.length ≤ k ∧ (∀ e ∈ its, e.1 < k ∧ e.2.length ≤ 2) ∧ env = [.dr, .d (.str (knd κ)), .d (.tup [.str "k", .str (nm1 κ)]), .od (whD κ its), x4]
def WOk (ks : List Str) (w : Wt) : Prop := wtK w ∈ ks ∧ match w with
  | .pl k => k = "count" ∨ k = "first" ∨ k = "last"
  | .al n => 1 ≤ n
  | .fi k f => (k = "sum" ∨ k = "least" ∨ k = "greatest" ∨ k = "unlike") ∧ f = .v
def allK : List Str := ["count", "first", "last", "atleast", "sum", "least", "greatest", "unlike"]
def wLWorths : WD := fun ds q => ∃ ks : List Str, ds = [.lst (ks.map D.str)] ∧ 0 < ks.length ∧ (∀ k ∈ ks, k ∈ allK) ∧ ∀ ws : List Wt, ws.length ≤ 3 → (∀ w ∈ ws, WOk ks w) → q (wsD ws)
def InLw (ks : List Str) (i : Nat) (env : List Sl) : Prop := ∃ (ws : List Wt) (x3 x4 : Sl), ws.length = i ∧ (∀ w ∈ ws, WOk ks w) ∧ env = [.dr, .d (.lst (ks.map D.str)), .ol (ws.map (wtD false)), x3, x4]
theorem lw_step {ks : List Str} {ws : List Wt} {w : Wt} {i : Nat} {x3 x4 : Sl} {env : List Sl} (hl : ws.length = i) (h : ∀ w ∈ ws, WOk ks w) (hw : WOk ks w) (he : env = [.dr, .d (.lst (ks.map D.str)), .ol (ws.map (wtD false) ++ [wtD false w]), x3, x4]) : InLw ks (i + 1) env :=
  ⟨ws ++ [w], x3, x4, by rw [List.length_append, hl]; rfl, fun z hz => by
    rcases List.mem_append.mp hz with hz | hz
    · exact h z hz
    · rw [List.mem_singleton.mp hz]; exact hw, by rw [he, List.map_append]; rfl⟩
section
variable {P : Program} {w : World} {K : PySem.W.Frag} {mg : Str → Option Value} {base : Heap} {c : Ad}
theorem sc__law_pick : FnScope ["_law_draw", "_law_items"] ["_law_draw", "_law_items"] (defScope sL_pick) := ⟨rfl, rfl, rfl, by decide +kernel, rfl, by decide +kernel, by decide +kernel⟩
-- slots: 0 _law_draw, 1 _law_items
theorem ok__law_pick  (T : Txt K mg) (h0 : Here K mg "_law_pick" ["_law_draw", "_law_items"] sL_pick) (F_law_take : Dr P w K mg base 2 "_law_take" ["_law_draw", "_law_many"] wTake)  : Dr P w K mg base 3 "_law_pick" ["_law_draw", "_law_items"] wPick := by
  refine dr_of h0 sc__law_pick (fun ds q h => by obtain ⟨x, rfl, _⟩ := h; rfl) fun f cdv A outer s H E hr => ⟨_, _,
  (dss_one (ds_ret (de_ixK (K := K) (db_var 1) (DE.toB (de_clRK (K := K) 0 F_law_take (hr.mono (by omega)) rfl (pe_var rfl (by first | exact Or.inl rfl | exact Or.inr (Or.inl rfl) | exact Or.inr (Or.inr rfl)) (by decide) (by decide)) (da_cons (de_cb (call_lenK (K := K)) sc_len rfl T.len (by with_unfolding_all rfl) (dab_cons (db_var 1) dab_nil)) da_nil))) (fun _ _ => rfl)))), fun ds q h => ?_⟩
  obtain ⟨xs, rfl, hl, hq⟩ := h
  walk_at "x"
  refine ⟨_, rfl, by omega, fun v v0 v1 => ?_⟩
  obtain ⟨x, hx, e⟩ := at_of v0 v1
  walk_at "x"
  rw [e]
  exact hq x hx
theorem sc__law_set : FnScope ["_law_draw"] ["_law_draw"] (defScope sL_set) := ⟨rfl, rfl, rfl, by decide +kernel, rfl, by decide +kernel, by decide +kernel⟩
-- slots: 0 _law_draw
theorem ok__law_set  (T : Txt K mg) (h0 : Here K mg "_law_set" ["_law_draw"] sL_set) (F_law_pick : Dr P w K mg base 3 "_law_pick" ["_law_draw", "_law_items"] wPick)  : Dr P w K mg base 4 "_law_set" ["_law_draw"] wSet := by
  refine dr_of h0 sc__law_set (fun ds q h => by obtain ⟨rfl, _⟩ := h; rfl) fun f cdv A outer s H E hr => ⟨_, _,
  (dss_one (ds_ret (de_clRK (K := K) 0 F_law_pick (hr.mono (by omega)) rfl (pe_var rfl (by first | exact Or.inl rfl | exact Or.inr (Or.inl rfl) | exact Or.inr (Or.inr rfl)) (by decide) (by decide)) (da_cons (DN.toE (dn_lst (da_cons (DN.toE (dn_lst (da_cons (de_tup (da_cons de_non (da_cons de_non da_nil))) da_nil))) (da_cons (DN.toE (dn_lst (da_cons (de_tup (da_cons de_non (da_cons de_non da_nil))) da_nil))) (da_cons (DN.toE (dn_lst (da_cons (de_tup (da_cons de_non (da_cons de_non da_nil))) da_nil))) (da_cons (DN.toE (dn_lst (da_cons (de_tup (da_cons de_int (da_cons de_int da_nil))) da_nil))) (da_cons (DN.toE (dn_lst (da_cons (de_tup (da_cons de_int (da_cons de_non da_nil))) da_nil))) (da_cons (DN.toE (dn_lst (da_cons (de_tup (da_cons de_non (da_cons de_int da_nil))) da_nil))) (da_cons (DN.toE (dn_lst (da_cons (de_tup (da_cons de_int (da_cons de_int da_nil))) (da_cons (de_tup (da_cons de_int (da_cons de_int da_nil))) da_nil)))) (da_cons (DN.toE (dn_lst (da_cons (de_tup (da_cons de_int (da_cons de_int da_nil))) da_nil))) (da_cons (DN.toE (dn_lst (da_cons (de_tup (da_cons de_int (da_cons de_int da_nil))) da_nil))) (da_cons (DN.toE (dn_lst (da_cons (de_tup (da_cons de_int (da_cons de_int da_nil))) da_nil))) (da_cons (DN.toE (dn_lst (da_cons (de_tup (da_cons de_non (da_cons de_int da_nil))) (da_cons (de_tup (da_cons de_int (da_cons de_non da_nil))) da_nil)))) da_nil))))))))))))) da_nil)))), fun ds q h => ?_⟩
  obtain ⟨rfl, hq⟩ := h
  walk_at "x"
  refine ⟨_, rfl, show 0 < 11 by decide, fun x hx => ?_⟩
  obtain ⟨l, hl, rfl⟩ : ∃ l : List P2, l.length ≤ 2 ∧ x = .lst (l.map pD) := by
    simp only [List.mem_cons, List.not_mem_nil, or_false] at hx
    rcases hx with rfl | rfl | rfl | rfl | rfl | rfl | rfl | rfl | rfl | rfl | rfl
    · exact ⟨[(none, none)], by decide, rfl⟩
    · exact ⟨[(none, none)], by decide, rfl⟩
    · exact ⟨[(none, none)], by decide, rfl⟩
    · exact ⟨[(some 0, some 2)], by decide, rfl⟩
    · exact ⟨[(some 1, none)], by decide, rfl⟩
    · exact ⟨[(none, some 1)], by decide, rfl⟩
    · exact ⟨[(some 0, some 0), (some 2, some 2)], by decide, rfl⟩
    · exact ⟨[(some 1, some 1)], by decide, rfl⟩
    · exact ⟨[(some 0, some 0)], by decide, rfl⟩
    · exact ⟨[(some 3, some 2)], by decide, rfl⟩
    · exact ⟨[(none, some 0), (some 2, none)], by decide, rfl⟩

  walk_at "x"
  exact hq l hl
theorem sc__law_side : FnScope ["_law_draw", "_law_kind_here", "_law_names", "_law_where", "_law_name"] ["_law_draw", "_law_kind_here"] (defScope sL_side) := ⟨rfl, rfl, rfl, by decide +kernel, rfl, by decide +kernel, by decide +kernel⟩
-- slots: 0 _law_draw, 1 _law_kind_here, 2 _law_names, 3 _law_where, 4 _law_name
theorem ok__law_side  (T : Txt K mg) (h0 : Here K mg "_law_side" ["_law_draw", "_law_kind_here"] sL_side) (F_law_take : Dr P w K mg base 2 "_law_take" ["_law_draw", "_law_many"] wTake) (F_law_set : Dr P w K mg base 4 "_law_set" ["_law_draw"] wSet) (I_Kinds : Di P w K mg base 2 "Kinds" c.k ["self", "fields"] wKinds) (I_Side : Di P w K mg base 3 "Side" c.s ["self", "kinds", "kind", "where"] (wSide c)) : Dr P w K mg base 5 "_law_side" ["_law_draw", "_law_kind_here"] (wLSide c) := by
  refine dr_of h0 sc__law_side (fun ds q h => by obtain ⟨κ, rfl, _⟩ := h; rfl) fun f cdv A outer s H E hr => ⟨_, _,
  (dss_cons (ds_set (i := 2) sc__law_side.nd rfl (by first | exact Or.inl rfl | exact Or.inr rfl) (de_dget hr.units (DE.toB (DM.toE (dm_disp (dp_cons de_str (de_tup (da_cons de_str (da_cons de_str da_nil))) (dp_cons de_str (de_tup (da_cons de_str (da_cons de_str da_nil))) dp_nil))))) (de_var 1)))
  (dss_cons (ds_setM (i := 3) sc__law_side.nd rfl (by first | exact Or.inl rfl | exact Or.inr rfl) dm_new)
  (dss_cons (ds_for PassesOwn.never rfl (di_seq (de_var 2)) (dg_name (i := 4) sc__law_side.nd rfl (by first | exact Or.inl rfl | exact Or.inr rfl)) (dss_one (ds_if (dt_cmp (op_eqDK (K := K) hr.units) so_eqU (DE.toB (de_clRK (K := K) 0 F_law_take (hr.mono (by omega)) rfl (pe_var rfl (by first | exact Or.inl rfl | exact Or.inr (Or.inl rfl) | exact Or.inr (Or.inr rfl)) (by decide) (by decide)) (da_cons de_int da_nil))) (DE.toB de_int) (nomark _)) (dss_one (ds_dput 3 hr.units (pe_var rfl (by first | exact Or.inl rfl | exact Or.inr (Or.inl rfl) | exact Or.inr (Or.inr rfl)) (by decide) (by decide)) (de_var 4) (de_clRK (K := K) 0 F_law_set (hr.mono (by omega)) rfl (pe_var rfl (by first | exact Or.inl rfl | exact Or.inr (Or.inl rfl) | exact Or.inr (Or.inr rfl)) (by decide) (by decide)) da_nil))) dss_nil)))
  (dss_one (ds_frzD 3 (ds_ret (de_make I_Side (hr.mono (by omega)) rfl (da_cons (de_make I_Kinds (hr.mono (by omega)) rfl (da_cons (DM.toE (dm_disp (dp_cons de_str (de_tupc (da_cons de_str (da_cons de_str da_nil))) (dp_cons de_str (de_tupc (da_cons de_str (da_cons de_str da_nil))) dp_nil)))) da_nil)) (da_cons (de_var 1) (da_cons (de_var 3) da_nil)))))))))), fun ds q h => ?_⟩
  obtain ⟨κ, rfl, hq⟩ := h
  cases κ
  · walk_at "x"
    refine ⟨show (2 : Nat) ≤ 15 by decide, ?_⟩
    walk_at "x"
    refine g_for (InSd false) ⟨[], _, Nat.le_refl _, fun e h => (by cases h), rfl⟩ ?_ ?_
    · rintro k d env' hd ⟨its, x4, hlen, hits, rfl⟩
      obtain ⟨hk, rfl⟩ := nm_get (κ := false) hd
      walk_at "x"
      refine ⟨2, rfl, by decide, fun u u0 u1 => ?_⟩
      walk_at "x"
      · intro l hl
        have hil : (whD false its).length ≤ 2 := by rw [List.length_map]; omega
        walk_at "x"
        exact ⟨its ++ [(k, l)], _, by rw [List.length_append]; show its.length + 1 ≤ k + 1; omega, fun e he => by
          rcases List.mem_append.mp he with he | he
          · exact ⟨by have := (hits e he).1; omega, (hits e he).2⟩
          · rw [List.mem_singleton.mp he]; exact ⟨Nat.lt_succ_self _, hl⟩, by rw [put_wh hk fun e he => (hits e he).1]; rfl⟩
      · exact ⟨its, _, by omega, fun e he => ⟨by have := (hits e he).1; omega, (hits e he).2⟩, rfl⟩
    · rintro env' ⟨its, x4, hlen, hits, rfl⟩
      have hlen : its.length ≤ 2 := hlen
      walk_at "x"
      refine ⟨show (2 : Nat) ≤ 15 by decide, ?_⟩
      walk_at "x"
      refine ⟨rfl, ?_⟩
      walk_at "x"
      refine ⟨false, its, rfl, by omega, fun e he => ⟨(hits e he).1, by have := (hits e he).2; omega⟩, fun s hs => ?_⟩
      walk_at "x"
      exact hq s hs
  · walk_at "x"
    refine ⟨show (2 : Nat) ≤ 15 by decide, ?_⟩
    walk_at "x"
    refine g_for (InSd true) ⟨[], _, Nat.le_refl _, fun e h => (by cases h), rfl⟩ ?_ ?_
    · rintro k d env' hd ⟨its, x4, hlen, hits, rfl⟩
      obtain ⟨hk, rfl⟩ := nm_get (κ := true) hd
      walk_at "x"
      refine ⟨2, rfl, by decide, fun u u0 u1 => ?_⟩
      walk_at "x"
      · intro l hl
        have hil : (whD true its).length ≤ 2 := by rw [List.length_map]; omega
        walk_at "x"
        exact ⟨its ++ [(k, l)], _, by rw [List.length_append]; show its.length + 1 ≤ k + 1; omega, fun e he => by
          rcases List.mem_append.mp he with he | he
          · exact ⟨by have := (hits e he).1; omega, (hits e he).2⟩
          · rw [List.mem_singleton.mp he]; exact ⟨Nat.lt_succ_self _, hl⟩, by rw [put_wh hk fun e he => (hits e he).1]; rfl⟩
      · exact ⟨its, _, by omega, fun e he => ⟨by have := (hits e he).1; omega, (hits e he).2⟩, rfl⟩
    · rintro env' ⟨its, x4, hlen, hits, rfl⟩
      have hlen : its.length ≤ 2 := hlen
      walk_at "x"
      refine ⟨show (2 : Nat) ≤ 15 by decide, ?_⟩
      walk_at "x"
      refine ⟨rfl, ?_⟩
      walk_at "x"
      refine ⟨true, its, rfl, by omega, fun e he => ⟨(hits e he).1, by have := (hits e he).2; omega⟩, fun s hs => ?_⟩
      walk_at "x"
      exact hq s hs
theorem sc__law_worths : FnScope ["_law_draw", "_law_kinds", "_law_found", "_law_turn", "_law_kind_here"] ["_law_draw", "_law_kinds"] (defScope sL_worths) := ⟨rfl, rfl, rfl, by decide +kernel, rfl, by decide +kernel, by decide +kernel⟩
-- slots: 0 _law_draw, 1 _law_kinds, 2 _law_found, 3 _law_turn, 4 _law_kind_here
theorem ok__law_worths  (T : Txt K mg) (h0 : Here K mg "_law_worths" ["_law_draw", "_law_kinds"] sL_worths) (F_law_take : Dr P w K mg base 2 "_law_take" ["_law_draw", "_law_many"] wTake) (F_law_pick : Dr P w K mg base 3 "_law_pick" ["_law_draw", "_law_items"] wPick)  : Dr P w K mg base 4 "_law_worths" ["_law_draw", "_law_kinds"] wLWorths := by
  refine dr_of h0 sc__law_worths (fun ds q h => by obtain ⟨κ, rfl, _⟩ := h; rfl) fun f cdv A outer s H E hr => ⟨_, _,
  (dss_cons (ds_setN (i := 2) sc__law_worths.nd rfl (by first | exact Or.inl rfl | exact Or.inr rfl) (dn_lst da_nil))
  (dss_cons (ds_for PassesOwn.never rfl (di_range1 rfl T.range (da_cons (de_clRK (K := K) 0 F_law_take (hr.mono (by omega)) rfl (pe_var rfl (by first | exact Or.inl rfl | exact Or.inr (Or.inl rfl) | exact Or.inr (Or.inr rfl)) (by decide) (by decide)) (da_cons de_int da_nil)) da_nil)) (dg_name (i := 3) sc__law_worths.nd rfl (by first | exact Or.inl rfl | exact Or.inr rfl)) (dss_cons (ds_set (i := 4) sc__law_worths.nd rfl (by first | exact Or.inl rfl | exact Or.inr rfl) (de_clRK (K := K) 0 F_law_pick (hr.mono (by omega)) rfl (pe_var rfl (by first | exact Or.inl rfl | exact Or.inr (Or.inl rfl) | exact Or.inr (Or.inr rfl)) (by decide) (by decide)) (da_cons (de_var 1) da_nil)))
  (dss_one (ds_if (dt_cmp (op_inK (K := K)) so_in (db_var 4) (DE.toB (de_tup (da_cons de_str (da_cons de_str (da_cons de_str da_nil))))) (by with_unfolding_all rfl)) (dss_one (ds_append 2 (pe_var rfl (by first | exact Or.inl rfl | exact Or.inr (Or.inl rfl) | exact Or.inr (Or.inr rfl)) (by decide) (by decide)) (de_tup (da_cons (de_var 4) da_nil)))) (dss_one (ds_append 2 (pe_var rfl (by first | exact Or.inl rfl | exact Or.inr (Or.inl rfl) | exact Or.inr (Or.inr rfl)) (by decide) (by decide)) (de_ifE (dt_cmp op_eq so_eqS (db_var 4) (DE.toB de_str) (nomark _)) (de_tup (da_cons de_str (da_cons (de_op (op_addUK (K := K)) so_add (DE.toB de_int) (DE.toB (de_clRK (K := K) 0 F_law_take (hr.mono (by omega)) rfl (pe_var rfl (by first | exact Or.inl rfl | exact Or.inr (Or.inl rfl) | exact Or.inr (Or.inr rfl)) (by decide) (by decide)) (da_cons de_int da_nil)))) da_nil))) (de_tup (da_cons (de_var 4) (da_cons de_str da_nil))))))))))
  (dss_one (ds_retO 2)))), fun ds q h => ?_⟩
  obtain ⟨ks, rfl, hk0, hka, hq⟩ := h
  walk_at "x"
  refine ⟨4, rfl, by decide, fun v v0 v1 => ?_⟩
  walk_at "x"
  refine ⟨⟨by omega, by omega⟩, ?_⟩
  refine g_for (InLw ks) ⟨[], _, _, rfl, fun e h => (by cases h), rfl⟩ ?_ ?_
  · rintro i d env' hd ⟨ws, x3, x4, hl, hws, rfl⟩
    obtain ⟨hi, rfl⟩ := ints_get hd
    have hl3 : ws.length ≤ 3 := by omega
    walk_at "x"
    refine ⟨_, rfl, by rw [List.length_map]; exact hk0, fun x hx => ?_⟩
    obtain ⟨k, hk, rfl⟩ := List.mem_map.mp hx
    have hal := hka k hk
    simp only [allK, List.mem_cons, List.not_mem_nil, or_false] at hal
    rcases hal with rfl | rfl | rfl | rfl | rfl | rfl | rfl | rfl
    · have f1 : Flat (D.str "count") ∧ ∀ x ∈ [D.str "count", D.str "first", D.str "last"], Flat x := fl_strs "count" plainL
      walk_at "x"
      · exact lw_step hl hws (w := .pl "count") ⟨hk, by decide⟩ rfl
      all_goals exact absurd (mem_strs (s := "count") (bar := plainL).mpr (by decide)) ‹_›
    · have f1 : Flat (D.str "first") ∧ ∀ x ∈ [D.str "count", D.str "first", D.str "last"], Flat x := fl_strs "first" plainL
      walk_at "x"
      · exact lw_step hl hws (w := .pl "first") ⟨hk, by decide⟩ rfl
      all_goals exact absurd (mem_strs (s := "first") (bar := plainL).mpr (by decide)) ‹_›
    · have f1 : Flat (D.str "last") ∧ ∀ x ∈ [D.str "count", D.str "first", D.str "last"], Flat x := fl_strs "last" plainL
      walk_at "x"
      · exact lw_step hl hws (w := .pl "last") ⟨hk, by decide⟩ rfl
      all_goals exact absurd (mem_strs (s := "last") (bar := plainL).mpr (by decide)) ‹_›
    · have f1 : Flat (D.str "atleast") ∧ ∀ x ∈ [D.str "count", D.str "first", D.str "last"], Flat x := fl_strs "atleast" plainL
      walk_at "x"
      · exact absurd (mem_strs (s := "atleast") (bar := plainL).mp ‹_›) (by decide)
      · refine ⟨3, rfl, by decide, fun u u0 u1 => ?_⟩
        walk_at "x"
        exact lw_step hl hws (w := .al (1 + u)) ⟨hk, show (1 : Int) ≤ 1 + u by omega⟩ rfl
    · have f1 : Flat (D.str "sum") ∧ ∀ x ∈ [D.str "count", D.str "first", D.str "last"], Flat x := fl_strs "sum" plainL
      walk_at "x"
      · exact absurd (mem_strs (s := "sum") (bar := plainL).mp ‹_›) (by decide)
      · exact absurd ‹Str.ofString "sum" = Str.ofString "atleast"› (by decide)
      · exact lw_step hl hws (w := .fi "sum" .v) ⟨hk, by decide, rfl⟩ rfl
    · have f1 : Flat (D.str "least") ∧ ∀ x ∈ [D.str "count", D.str "first", D.str "last"], Flat x := fl_strs "least" plainL
      walk_at "x"
      · exact absurd (mem_strs (s := "least") (bar := plainL).mp ‹_›) (by decide)
      · exact absurd ‹Str.ofString "least" = Str.ofString "atleast"› (by decide)
      · exact lw_step hl hws (w := .fi "least" .v) ⟨hk, by decide, rfl⟩ rfl
    · have f1 : Flat (D.str "greatest") ∧ ∀ x ∈ [D.str "count", D.str "first", D.str "last"], Flat x := fl_strs "greatest" plainL
      walk_at "x"
      · exact absurd (mem_strs (s := "greatest") (bar := plainL).mp ‹_›) (by decide)
      · exact absurd ‹Str.ofString "greatest" = Str.ofString "atleast"› (by decide)
      · exact lw_step hl hws (w := .fi "greatest" .v) ⟨hk, by decide, rfl⟩ rfl
    · have f1 : Flat (D.str "unlike") ∧ ∀ x ∈ [D.str "count", D.str "first", D.str "last"], Flat x := fl_strs "unlike" plainL
      walk_at "x"
      · exact absurd (mem_strs (s := "unlike") (bar := plainL).mp ‹_›) (by decide)
      · exact absurd ‹Str.ofString "unlike" = Str.ofString "atleast"› (by decide)
      · exact lw_step hl hws (w := .fi "unlike" .v) ⟨hk, by decide, rfl⟩ rfl
  · rintro env' ⟨ws, x3, x4, hl, hws, rfl⟩
    have hl : ws.length ≤ 3 := by rw [hl]; unfold Y.intsFrom; rw [List.length_map, List.length_range]; omega
    walk_at "x"
    exact hq ws hl hws
end
end S07

namespace S07
open PySem L2 Y
local macro_rules | `(tactic| walk_at $_:str) => `(tactic| (conv => whnf) <;> repeat' (first
  | (refine And.intro (fun (hc : (_ : Prop)) => ?_) (fun (hc : (_ : Prop)) => ?_) <;> first | exact (d_ni hc).elim | exact (d_nt hc).elim | exact (d_nl hc).elim | exact (d_tc hc).elim | exact (d_lc hc).elim | exact (hc rfl).elim | (conv => whnf))
  | (refine And.intro (by first | exact dr_t rfl | (with_reducible first | exact lz1 | exact lz2 | exact lz3 | exact lz0 | exact lz5 | exact pu_ii | exact lq2 | exact lq1 | exact lq3 | exact lq5 | assumption | exact ⟨puL _, pu_nl⟩ | exact rfl) | (with_reducible first | refine szl ?_ | refine szl2 ?_) <;> (first | omega | (simp only [List.length_append, List.length_map, List.length_cons, List.length_nil, List.length_set]; omega) | (simp only [List.length_append, List.length_map, List.length_cons, List.length_nil, List.length_set]; done)) | fail) ?_ <;> (conv => whnf))
  | fail))

def qk : List Str := ["each", "windows", "blocks", "sessions", "pairs", "lonely"]
def wLQuery (c : Ad) : WD := fun ds q => ∃ k : Str, ds = [.str k] ∧ k ∈ qk ∧ ∀ Q, OkQ Q → q (queryD c Q)
def wLKind : WD := fun ds q => ds = [] ∧ ∀ k ∈ qk, q (.str k)
theorem keys_nil : KeysOk [] := ⟨by decide, fun n h => (by cases h), List.nodup_nil⟩
theorem keys_k : KeysOk [.k] := ⟨by decide, fun n h => by rw [List.mem_singleton.mp h]; rfl, List.pairwise_singleton ..⟩
theorem keys_v : KeysOk [.v] := ⟨by decide, fun n h => by rw [List.mem_singleton.mp h]; rfl, List.pairwise_singleton ..⟩
def ByOk (bys : List Nm) : Prop := bys = [] ∨ bys = [.k]
theorem ByOk.keys {bys : List Nm} (h : ByOk bys) : KeysOk bys := by rcases h with rfl | rfl; exact keys_nil; exact keys_k
theorem ws_ok {bys : List Nm} {ks bar : List Str} {ws : List Wt} (hb : ByOk bys) (hl : ws.length ≤ 3) (hw : ∀ w ∈ ws, WOk ks w) (hd : ∀ k ∈ ks, k ∉ bar) : OkWs bys bar ws := ⟨by omega, fun w h => by
  obtain ⟨h1, h2⟩ := hw w h
  refine ⟨hd _ h1, ?_⟩
  cases w with
  | pl k => exact h2
  | al n => exact h2
  | fi k f =>
    obtain ⟨h3, rfl⟩ := h2
    refine ⟨h3, rfl, ?_⟩
    rcases hb with rfl | rfl <;> intro h <;> cases h
    rename_i h; cases h⟩
def TpOk (kk : List (Nm × Nm)) : Prop := kk = [] ∨ kk = [(.k, .k)] ∨ kk = [(.v, .v)]
theorem TpOk.two {kk : List (Nm × Nm)} (h : TpOk kk) : TwoOk kk := by
  rcases h with rfl | rfl | rfl
  · exact ⟨keys_nil, keys_nil⟩
  · exact ⟨keys_k, keys_k⟩
  · exact ⟨keys_v, keys_v⟩
theorem okq_one {s : Sets} (h : NormS s) {Q : Qr} (e : lk false Q = s) (e2 : lk true Q = EmpS) : OkQ Q := ⟨by rw [e]; exact h, by rw [e2]; exact norm_emp⟩
/-! spoiling -/
def wSpoilt (n : Nat) : WD := fun ds q => ∃ (t : Tr) (m : Nat), ds = [trD t, .int (m : Nat)] ∧ height t < n ∧ 0 < m ∧ m ≤ 20 ∧ ixOk t ∧ LotsIn m t ∧ ∀ t', ixOk t' → LotsIn m t' → height t' ≤ height t → q (trD t')
theorem srt_len {m : Nat} {ns : List Int} (h1 : Srt ns) (h2 : ∀ n ∈ ns, 0 ≤ n ∧ n < (m : Nat)) : ns.length ≤ m := by
  have hr : Srt ((List.range m).map fun i : Nat => (i : Int)) := by
    unfold Srt
    rw [List.pairwise_map]
    exact List.pairwise_lt_range.imp fun h => by omega
  have := srt_sub_len h1 hr fun x hx => by
    obtain ⟨a, b⟩ := h2 x hx
    exact List.mem_map.mpr ⟨x.toNat, List.mem_range.mpr (by omega), by omega⟩
  rwa [List.length_map, List.length_range] at this
theorem cut_one (ds : List D) : cutD ds (some 1) none = ds.drop 1 := by
  unfold cutD HT.sIx
  cases ds with
  | nil => rfl
  | cons d r => simp
section
variable {P : Program} {w : World} {K : PySem.W.Frag} {mg : Str → Option Value} {base : Heap} {c : Ad}
theorem sc__law_query : FnScope ["_law_draw", "_law_kind_here", "_law_side_here", "_law_by", "_law_length", "_law_worths_here", "_law_other", "_law_pairs", "_law_told", "_law_mode", "_law_late"] ["_law_draw", "_law_kind_here"] (defScope sL_query) := ⟨rfl, rfl, rfl, by decide +kernel, rfl, by decide +kernel, by decide +kernel⟩
-- slots: 0 _law_draw, 1 _law_kind_here, 2 _law_side_here, 3 _law_by, 4 _law_length, 5 _law_worths_here, 6 _law_other, 7 _law_pairs, 8 _law_told, 9 _law_mode, 10 _law_late
theorem ok__law_query  (T : Txt K mg) (h0 : Here K mg "_law_query" ["_law_draw", "_law_kind_here"] sL_query) (F_law_side : Dr P w K mg base 5 "_law_side" ["_law_draw", "_law_kind_here"] (wLSide c)) (F_law_pick : Dr P w K mg base 3 "_law_pick" ["_law_draw", "_law_items"] wPick) (F_law_take : Dr P w K mg base 2 "_law_take" ["_law_draw", "_law_many"] wTake) (F_law_worths : Dr P w K mg base 4 "_law_worths" ["_law_draw", "_law_kinds"] wLWorths) (I_Each : Di P w K mg base 4 "Each" c.e ["self", "side", "told"] (wEach c)) (I_Windows : Di P w K mg base 5 "Windows" c.w ["self", "side", "keys", "length", "step", "worths"] (wWindows c)) (I_Blocks : Di P w K mg base 5 "Blocks" c.b ["self", "side", "keys", "size", "worths"] (wBlocks c)) (I_Sessions : Di P w K mg base 5 "Sessions" c.n ["self", "side", "keys", "gap", "worths"] (wSessions c)) (I_Pairs : Di P w K mg base 4 "Pairs" c.p ["self", "first", "second", "keys", "mode", "reach", "told"] (wPairs c)) (I_Lonely : Di P w K mg base 4 "Lonely" c.l ["self", "first", "second", "keys", "reach", "told"] (wLonely c)) : Dr P w K mg base 7 "_law_query" ["_law_draw", "_law_kind_here"] (wLQuery c) := by
  refine dr_of h0 sc__law_query (fun ds q h => by obtain ⟨k, rfl, _⟩ := h; rfl) fun f cdv A outer s H E hr => ⟨_, _,
  (dss_cons (ds_set (i := 2) sc__law_query.nd rfl (by first | exact Or.inl rfl | exact Or.inr rfl) (de_clRK (K := K) 0 F_law_side (hr.mono (by omega)) rfl (pe_var rfl (by first | exact Or.inl rfl | exact Or.inr (Or.inl rfl) | exact Or.inr (Or.inr rfl)) (by decide) (by decide)) (da_cons de_str da_nil)))
  (dss_cons (ds_set (i := 3) sc__law_query.nd rfl (by first | exact Or.inl rfl | exact Or.inr rfl) (de_clRK (K := K) 0 F_law_pick (hr.mono (by omega)) rfl (pe_var rfl (by first | exact Or.inl rfl | exact Or.inr (Or.inl rfl) | exact Or.inr (Or.inr rfl)) (by decide) (by decide)) (da_cons (DN.toE (dn_lst (da_cons (DN.toE (dn_lst da_nil)) (da_cons (DN.toE (dn_lst (da_cons de_str da_nil))) (da_cons (DN.toE (dn_lst (da_cons de_str da_nil))) da_nil))))) da_nil)))
  (dss_cons (ds_if (dt_cmp op_eq so_eqS (db_var 1) (DE.toB de_str) (nomark _)) (dss_one (ds_ret (de_make I_Each (hr.mono (by omega)) rfl (da_cons (de_var 2) (da_cons (de_clRK (K := K) 0 F_law_pick (hr.mono (by omega)) rfl (pe_var rfl (by first | exact Or.inl rfl | exact Or.inr (Or.inl rfl) | exact Or.inr (Or.inr rfl)) (by decide) (by decide)) (da_cons (DN.toE (dn_lst (da_cons (DN.toE (dn_lst (da_cons de_str da_nil))) (da_cons (DN.toE (dn_lst (da_cons de_str (da_cons de_str da_nil)))) (da_cons (DN.toE (dn_lst da_nil)) (da_cons (DN.toE (dn_lst (da_cons de_str da_nil))) da_nil)))))) da_nil)) da_nil))))) dss_nil)
  (dss_cons (ds_if (dt_cmp op_eq so_eqS (db_var 1) (DE.toB de_str) (nomark _)) (dss_cons (ds_set (i := 4) sc__law_query.nd rfl (by first | exact Or.inl rfl | exact Or.inr rfl) (de_clRK (K := K) 0 F_law_pick (hr.mono (by omega)) rfl (pe_var rfl (by first | exact Or.inl rfl | exact Or.inr (Or.inl rfl) | exact Or.inr (Or.inr rfl)) (by decide) (by decide)) (da_cons (DN.toE (dn_lst (da_cons de_int (da_cons de_int (da_cons de_int (da_cons de_int da_nil)))))) da_nil)))
  (dss_cons (ds_set (i := 5) sc__law_query.nd rfl (by first | exact Or.inl rfl | exact Or.inr rfl) (de_clRK (K := K) 0 F_law_worths (hr.mono (by omega)) rfl (pe_var rfl (by first | exact Or.inl rfl | exact Or.inr (Or.inl rfl) | exact Or.inr (Or.inr rfl)) (by decide) (by decide)) (da_cons (DN.toE (dn_lst (da_cons de_str (da_cons de_str (da_cons de_str (da_cons de_str (da_cons de_str (da_cons de_str (da_cons de_str (da_cons de_str (da_cons de_str da_nil))))))))))) da_nil)))
  (dss_one (ds_ret (de_make I_Windows (hr.mono (by omega)) rfl (da_cons (de_var 2) (da_cons (de_var 3) (da_cons (de_var 4) (da_cons (de_op (op_addUK (K := K)) so_add (DE.toB de_int) (DE.toB (de_clRK (K := K) 0 F_law_take (hr.mono (by omega)) rfl (pe_var rfl (by first | exact Or.inl rfl | exact Or.inr (Or.inl rfl) | exact Or.inr (Or.inr rfl)) (by decide) (by decide)) (da_cons (de_var 4) da_nil)))) (da_cons (de_var 5) da_nil)))))))))) dss_nil)
  (dss_cons (ds_if (dt_cmp op_eq so_eqS (db_var 1) (DE.toB de_str) (nomark _)) (dss_one (ds_ret (de_make I_Blocks (hr.mono (by omega)) rfl (da_cons (de_var 2) (da_cons (de_var 3) (da_cons (de_op (op_addUK (K := K)) so_add (DE.toB de_int) (DE.toB (de_clRK (K := K) 0 F_law_take (hr.mono (by omega)) rfl (pe_var rfl (by first | exact Or.inl rfl | exact Or.inr (Or.inl rfl) | exact Or.inr (Or.inr rfl)) (by decide) (by decide)) (da_cons de_int da_nil)))) (da_cons (de_clRK (K := K) 0 F_law_worths (hr.mono (by omega)) rfl (pe_var rfl (by first | exact Or.inl rfl | exact Or.inr (Or.inl rfl) | exact Or.inr (Or.inr rfl)) (by decide) (by decide)) (da_cons (DN.toE (dn_lst (da_cons de_str (da_cons de_str (da_cons de_str (da_cons de_str (da_cons de_str da_nil))))))) da_nil)) da_nil))))))) dss_nil)
  (dss_cons (ds_if (dt_cmp op_eq so_eqS (db_var 1) (DE.toB de_str) (nomark _)) (dss_one (ds_ret (de_make I_Sessions (hr.mono (by omega)) rfl (da_cons (de_var 2) (da_cons (de_var 3) (da_cons (de_op (op_addUK (K := K)) so_add (DE.toB de_int) (DE.toB (de_clRK (K := K) 0 F_law_take (hr.mono (by omega)) rfl (pe_var rfl (by first | exact Or.inl rfl | exact Or.inr (Or.inl rfl) | exact Or.inr (Or.inr rfl)) (by decide) (by decide)) (da_cons de_int da_nil)))) (da_cons (de_clRK (K := K) 0 F_law_worths (hr.mono (by omega)) rfl (pe_var rfl (by first | exact Or.inl rfl | exact Or.inr (Or.inl rfl) | exact Or.inr (Or.inr rfl)) (by decide) (by decide)) (da_cons (DN.toE (dn_lst (da_cons de_str (da_cons de_str (da_cons de_str (da_cons de_str (da_cons de_str (da_cons de_str da_nil)))))))) da_nil)) da_nil))))))) dss_nil)
  (dss_cons (ds_par (i := 6) (j := 7) rfl sc__law_query.nd rfl rfl (by decide) rfl rfl (da_cons (de_clRK (K := K) 0 F_law_side (hr.mono (by omega)) rfl (pe_var rfl (by first | exact Or.inl rfl | exact Or.inr (Or.inl rfl) | exact Or.inr (Or.inr rfl)) (by decide) (by decide)) (da_cons de_str da_nil)) (da_cons (de_clRK (K := K) 0 F_law_pick (hr.mono (by omega)) rfl (pe_var rfl (by first | exact Or.inl rfl | exact Or.inr (Or.inl rfl) | exact Or.inr (Or.inr rfl)) (by decide) (by decide)) (da_cons (DN.toE (dn_lst (da_cons (DN.toE (dn_lst da_nil)) (da_cons (DN.toE (dn_lst (da_cons (de_tup (da_cons de_str (da_cons de_str da_nil))) da_nil))) (da_cons (DN.toE (dn_lst (da_cons (de_tup (da_cons de_str (da_cons de_str da_nil))) da_nil))) (da_cons (DN.toE (dn_lst (da_cons (de_tup (da_cons de_str (da_cons de_str da_nil))) da_nil))) da_nil)))))) da_nil)) da_nil)) (by rfl))
  (dss_cons (ds_set (i := 8) sc__law_query.nd rfl (by first | exact Or.inl rfl | exact Or.inr rfl) (de_clRK (K := K) 0 F_law_pick (hr.mono (by omega)) rfl (pe_var rfl (by first | exact Or.inl rfl | exact Or.inr (Or.inl rfl) | exact Or.inr (Or.inr rfl)) (by decide) (by decide)) (da_cons (DN.toE (dn_lst (da_cons (DN.toE (dn_lst da_nil)) (da_cons (DN.toE (dn_lst (da_cons de_str da_nil))) (da_cons (DN.toE (dn_lst (da_cons de_str da_nil))) (da_cons (DN.toE (dn_lst (da_cons de_str (da_cons de_str da_nil)))) da_nil)))))) da_nil)))
  (dss_cons (ds_if (dt_cmp op_eq so_eqS (db_var 1) (DE.toB de_str) (nomark _)) (dss_cons (ds_set (i := 9) sc__law_query.nd rfl (by first | exact Or.inl rfl | exact Or.inr rfl) (de_clRK (K := K) 0 F_law_pick (hr.mono (by omega)) rfl (pe_var rfl (by first | exact Or.inl rfl | exact Or.inr (Or.inl rfl) | exact Or.inr (Or.inr rfl)) (by decide) (by decide)) (da_cons (DN.toE (dn_lst (da_cons de_str (da_cons de_str da_nil)))) da_nil)))
  (dss_cons (ds_set (i := 10) sc__law_query.nd rfl (by first | exact Or.inl rfl | exact Or.inr rfl) (de_clRK (K := K) 0 F_law_pick (hr.mono (by omega)) rfl (pe_var rfl (by first | exact Or.inl rfl | exact Or.inr (Or.inl rfl) | exact Or.inr (Or.inr rfl)) (by decide) (by decide)) (da_cons (DN.toE (dn_lst (da_cons (DN.toE (dn_lst da_nil)) (da_cons (DN.toE (dn_lst (da_cons de_str da_nil))) (da_cons (DN.toE (dn_lst (da_cons de_str da_nil))) da_nil))))) da_nil)))
  (dss_one (ds_ret (de_make I_Pairs (hr.mono (by omega)) rfl (da_cons (de_var 2) (da_cons (de_var 6) (da_cons (de_var 7) (da_cons (de_var 9) (da_cons (de_op (op_addUK (K := K)) so_add (DE.toB (de_ifE (dt_cmp op_eq so_eqS (db_var 9) (DE.toB de_str) (nomark _)) de_int de_int)) (DE.toB (de_clRK (K := K) 0 F_law_take (hr.mono (by omega)) rfl (pe_var rfl (by first | exact Or.inl rfl | exact Or.inr (Or.inl rfl) | exact Or.inr (Or.inr rfl)) (by decide) (by decide)) (da_cons de_int da_nil)))) (da_cons (de_tup (da_cons (de_var 8) (da_cons (de_var 10) da_nil))) da_nil))))))))))) dss_nil)
  (dss_one (ds_ret (de_make I_Lonely (hr.mono (by omega)) rfl (da_cons (de_var 2) (da_cons (de_var 6) (da_cons (de_var 7) (da_cons (de_op (op_addUK (K := K)) so_add (DE.toB de_int) (DE.toB (de_clRK (K := K) 0 F_law_take (hr.mono (by omega)) rfl (pe_var rfl (by first | exact Or.inl rfl | exact Or.inr (Or.inl rfl) | exact Or.inr (Or.inr rfl)) (by decide) (by decide)) (da_cons de_int da_nil)))) (da_cons (de_var 8) da_nil))))))))))))))))), fun ds q h => ?_⟩
  obtain ⟨k, rfl, hk, hq⟩ := h
  simp only [qk, List.mem_cons, List.not_mem_nil, or_false] at hk
  rcases hk with rfl | rfl | rfl | rfl | rfl | rfl
  · walk_at "x"
    refine ⟨false, rfl, fun s hs => ?_⟩
    walk_at "x"
    refine ⟨_, rfl, show 0 < 3 by decide, fun x hx => ?_⟩
    obtain ⟨bys, hbys, rfl⟩ : ∃ bys, ByOk bys ∧ x = nsD false bys := by
      simp only [List.mem_cons, List.not_mem_nil, or_false] at hx
      rcases hx with rfl | rfl | rfl
      · exact ⟨[], .inl rfl, rfl⟩
      · exact ⟨[.k], .inr rfl, rfl⟩
      · exact ⟨[.k], .inr rfl, rfl⟩
    walk_at "x"
    refine ⟨_, rfl, show 0 < 4 by decide, fun x2 hx2 => ?_⟩
    obtain ⟨t1, hl_t1, rfl⟩ : ∃ ns : List Nm, ns.length ≤ 100 ∧ x2 = nsD false ns := by
      simp only [List.mem_cons, List.not_mem_nil, or_false] at hx2
      rcases hx2 with rfl | rfl | rfl | rfl
      · exact ⟨[.v], by decide, rfl⟩
      · exact ⟨[.time, .id], by decide, rfl⟩
      · exact ⟨[], by decide, rfl⟩
      · exact ⟨[.k], by decide, rfl⟩
    walk_at "x"
    refine ⟨s, t1, rfl, hl_t1, ?_⟩
    walk_at "x"
    exact hq (.each s _) (okq_one hs rfl rfl)
  · walk_at "x"
    refine ⟨false, rfl, fun s hs => ?_⟩
    walk_at "x"
    refine ⟨_, rfl, show 0 < 3 by decide, fun x hx => ?_⟩
    obtain ⟨bys, hbys, rfl⟩ : ∃ bys, ByOk bys ∧ x = nsD false bys := by
      simp only [List.mem_cons, List.not_mem_nil, or_false] at hx
      rcases hx with rfl | rfl | rfl
      · exact ⟨[], .inl rfl, rfl⟩
      · exact ⟨[.k], .inr rfl, rfl⟩
      · exact ⟨[.k], .inr rfl, rfl⟩
    walk_at "x"
    · exact absurd ‹Str.ofString "windows" = Str.ofString "each"› (by decide)
    refine ⟨_, rfl, show 0 < 4 by decide, fun x2 hx2 => ?_⟩
    obtain ⟨l, hl1, rfl⟩ : ∃ l : Int, 1 ≤ l ∧ x2 = .int l := by
      simp only [List.mem_cons, List.not_mem_nil, or_false] at hx2
      rcases hx2 with rfl | rfl | rfl | rfl
      · exact ⟨1, by decide, rfl⟩
      · exact ⟨2, by decide, rfl⟩
      · exact ⟨4, by decide, rfl⟩
      · exact ⟨6, by decide, rfl⟩
    walk_at "x"
    refine ⟨["count", "atleast", "atleast", "sum", "least", "greatest", "unlike", "first", "last"], rfl, by decide, by decide, fun ws hwl hws => ?_⟩
    walk_at "x"
    refine ⟨l, rfl, by omega, fun u u0 u1 => ?_⟩
    walk_at "x"
    refine ⟨s, bys, l, 1 + u, ws, rfl, hbys.keys, by omega, by omega, ws_ok hbys hwl hws fun k _ => (by simp), ?_⟩
    walk_at "x"
    exact hq (.win s _ _ _ _) (okq_one hs rfl rfl)
  · walk_at "x"
    refine ⟨false, rfl, fun s hs => ?_⟩
    walk_at "x"
    refine ⟨_, rfl, show 0 < 3 by decide, fun x hx => ?_⟩
    obtain ⟨bys, hbys, rfl⟩ : ∃ bys, ByOk bys ∧ x = nsD false bys := by
      simp only [List.mem_cons, List.not_mem_nil, or_false] at hx
      rcases hx with rfl | rfl | rfl
      · exact ⟨[], .inl rfl, rfl⟩
      · exact ⟨[.k], .inr rfl, rfl⟩
      · exact ⟨[.k], .inr rfl, rfl⟩
    walk_at "x"
    · exact absurd ‹Str.ofString "blocks" = Str.ofString "each"› (by decide)
    · exact absurd ‹Str.ofString "blocks" = Str.ofString "windows"› (by decide)
    refine ⟨3, rfl, by decide, fun u u0 u1 => ?_⟩
    walk_at "x"
    refine ⟨["count", "sum", "least", "greatest", "unlike"], rfl, by decide, by decide, fun ws hwl hws => ?_⟩
    walk_at "x"
    refine ⟨s, bys, 1 + u, ws, rfl, hbys.keys, by omega, ws_ok hbys hwl hws (by decide), ?_⟩
    walk_at "x"
    exact hq (.blk s _ _ _) (okq_one hs rfl rfl)
  · walk_at "x"
    refine ⟨false, rfl, fun s hs => ?_⟩
    walk_at "x"
    refine ⟨_, rfl, show 0 < 3 by decide, fun x hx => ?_⟩
    obtain ⟨bys, hbys, rfl⟩ : ∃ bys, ByOk bys ∧ x = nsD false bys := by
      simp only [List.mem_cons, List.not_mem_nil, or_false] at hx
      rcases hx with rfl | rfl | rfl
      · exact ⟨[], .inl rfl, rfl⟩
      · exact ⟨[.k], .inr rfl, rfl⟩
      · exact ⟨[.k], .inr rfl, rfl⟩
    walk_at "x"
    · exact absurd ‹Str.ofString "sessions" = Str.ofString "each"› (by decide)
    · exact absurd ‹Str.ofString "sessions" = Str.ofString "windows"› (by decide)
    · exact absurd ‹Str.ofString "sessions" = Str.ofString "blocks"› (by decide)
    refine ⟨3, rfl, by decide, fun u u0 u1 => ?_⟩
    walk_at "x"
    refine ⟨["count", "sum", "least", "greatest", "first", "last"], rfl, by decide, by decide, fun ws hwl hws => ?_⟩
    walk_at "x"
    refine ⟨s, bys, 1 + u, ws, rfl, hbys.keys, by omega, ws_ok hbys hwl hws (by decide), ?_⟩
    walk_at "x"
    exact hq (.ses s _ _ _) (okq_one hs rfl rfl)
  · walk_at "x"
    refine ⟨false, rfl, fun s hs => ?_⟩
    walk_at "x"
    refine ⟨_, rfl, show 0 < 3 by decide, fun x hx => ?_⟩
    obtain ⟨bys, hbys, rfl⟩ : ∃ bys, ByOk bys ∧ x = nsD false bys := by
      simp only [List.mem_cons, List.not_mem_nil, or_false] at hx
      rcases hx with rfl | rfl | rfl
      · exact ⟨[], .inl rfl, rfl⟩
      · exact ⟨[.k], .inr rfl, rfl⟩
      · exact ⟨[.k], .inr rfl, rfl⟩
    walk_at "x"
    · exact absurd ‹Str.ofString "pairs" = Str.ofString "each"› (by decide)
    · exact absurd ‹Str.ofString "pairs" = Str.ofString "windows"› (by decide)
    · exact absurd ‹Str.ofString "pairs" = Str.ofString "blocks"› (by decide)
    · exact absurd ‹Str.ofString "pairs" = Str.ofString "sessions"› (by decide)
    refine ⟨true, rfl, fun s2 hs2 => ?_⟩
    walk_at "x"
    refine ⟨_, rfl, show 0 < 4 by decide, fun x2 hx2 => ?_⟩
    obtain ⟨kk, hkk, rfl⟩ : ∃ kk, TpOk kk ∧ x2 = .lst (kk.map pairN) := by
      simp only [List.mem_cons, List.not_mem_nil, or_false] at hx2
      rcases hx2 with rfl | rfl | rfl | rfl
      · exact ⟨[], .inl rfl, rfl⟩
      · exact ⟨[(.k, .k)], .inr (.inl rfl), rfl⟩
      · exact ⟨[(.k, .k)], .inr (.inl rfl), rfl⟩
      · exact ⟨[(.v, .v)], .inr (.inr rfl), rfl⟩
    walk_at "x"
    refine ⟨_, rfl, show 0 < 4 by decide, fun x3 hx3 => ?_⟩
    obtain ⟨t1, hl_t1, rfl⟩ : ∃ ns : List Nm, ns.length ≤ 100 ∧ x3 = nsD false ns := by
      simp only [List.mem_cons, List.not_mem_nil, or_false] at hx3
      rcases hx3 with rfl | rfl | rfl | rfl
      · exact ⟨[], by decide, rfl⟩
      · exact ⟨[.v], by decide, rfl⟩
      · exact ⟨[.time], by decide, rfl⟩
      · exact ⟨[.id, .k], by decide, rfl⟩
    walk_at "x"
    · refine ⟨_, rfl, show 0 < 2 by decide, fun x4 hx4 => ?_⟩
      obtain ⟨near, rfl⟩ : ∃ near, x4 = .str (modeS near) := by
        simp only [List.mem_cons, List.not_mem_nil, or_false] at hx4
        rcases hx4 with rfl | rfl
        · exact ⟨true, rfl⟩
        · exact ⟨false, rfl⟩
      walk_at "x"
      refine ⟨_, rfl, show 0 < 3 by decide, fun x5 hx5 => ?_⟩
      obtain ⟨t2, hl_t2, rfl⟩ : ∃ ns : List Nm, ns.length ≤ 100 ∧ x5 = nsD true ns := by
        simp only [List.mem_cons, List.not_mem_nil, or_false] at hx5
        rcases hx5 with rfl | rfl | rfl
        · exact ⟨[], by decide, rfl⟩
        · exact ⟨[.v], by decide, rfl⟩
        · exact ⟨[.id], by decide, rfl⟩
      walk_at "x"
      · refine ⟨4, rfl, by decide, fun u u0 u1 => ?_⟩
        walk_at "x"
        refine ⟨s, s2, kk, near, 0 + u, t1, t2, rfl, hkk.two, by omega, fun z => ?_, hl_t1, hl_t2, ?_⟩
        · subst z; exact absurd ‹modeS false = Str.ofString "near"› (by decide)
        walk_at "x"
        exact hq (.prs s s2 _ _ _ _ _ _) ⟨hs, hs2⟩
      · refine ⟨4, rfl, by decide, fun u u0 u1 => ?_⟩
        walk_at "x"
        refine ⟨s, s2, kk, near, 1 + u, t1, t2, rfl, hkk.two, by omega, fun _ => by omega, hl_t1, hl_t2, ?_⟩
        walk_at "x"
        exact hq (.prs s s2 _ _ _ _ _ _) ⟨hs, hs2⟩
  · walk_at "x"
    refine ⟨false, rfl, fun s hs => ?_⟩
    walk_at "x"
    refine ⟨_, rfl, show 0 < 3 by decide, fun x hx => ?_⟩
    obtain ⟨bys, hbys, rfl⟩ : ∃ bys, ByOk bys ∧ x = nsD false bys := by
      simp only [List.mem_cons, List.not_mem_nil, or_false] at hx
      rcases hx with rfl | rfl | rfl
      · exact ⟨[], .inl rfl, rfl⟩
      · exact ⟨[.k], .inr rfl, rfl⟩
      · exact ⟨[.k], .inr rfl, rfl⟩
    walk_at "x"
    · exact absurd ‹Str.ofString "lonely" = Str.ofString "each"› (by decide)
    · exact absurd ‹Str.ofString "lonely" = Str.ofString "windows"› (by decide)
    · exact absurd ‹Str.ofString "lonely" = Str.ofString "blocks"› (by decide)
    · exact absurd ‹Str.ofString "lonely" = Str.ofString "sessions"› (by decide)
    refine ⟨true, rfl, fun s2 hs2 => ?_⟩
    walk_at "x"
    refine ⟨_, rfl, show 0 < 4 by decide, fun x2 hx2 => ?_⟩
    obtain ⟨kk, hkk, rfl⟩ : ∃ kk, TpOk kk ∧ x2 = .lst (kk.map pairN) := by
      simp only [List.mem_cons, List.not_mem_nil, or_false] at hx2
      rcases hx2 with rfl | rfl | rfl | rfl
      · exact ⟨[], .inl rfl, rfl⟩
      · exact ⟨[(.k, .k)], .inr (.inl rfl), rfl⟩
      · exact ⟨[(.k, .k)], .inr (.inl rfl), rfl⟩
      · exact ⟨[(.v, .v)], .inr (.inr rfl), rfl⟩
    walk_at "x"
    refine ⟨_, rfl, show 0 < 4 by decide, fun x3 hx3 => ?_⟩
    obtain ⟨t1, hl_t1, rfl⟩ : ∃ ns : List Nm, ns.length ≤ 100 ∧ x3 = nsD false ns := by
      simp only [List.mem_cons, List.not_mem_nil, or_false] at hx3
      rcases hx3 with rfl | rfl | rfl | rfl
      · exact ⟨[], by decide, rfl⟩
      · exact ⟨[.v], by decide, rfl⟩
      · exact ⟨[.time], by decide, rfl⟩
      · exact ⟨[.id, .k], by decide, rfl⟩
    walk_at "x"
    · exact absurd ‹Str.ofString "lonely" = Str.ofString "pairs"› (by decide)
    refine ⟨4, rfl, by decide, fun u u0 u1 => ?_⟩
    walk_at "x"
    refine ⟨s, s2, kk, 1 + u, t1, rfl, hkk.two, by omega, hl_t1, ?_⟩
    walk_at "x"
    exact hq (.lon s s2 _ _ _ _) ⟨hs, hs2⟩
theorem sc__law_kind : FnScope ["_law_draw"] ["_law_draw"] (defScope sL_kind) := ⟨rfl, rfl, rfl, by decide +kernel, rfl, by decide +kernel, by decide +kernel⟩
-- slots: 0 _law_draw
theorem ok__law_kind  (T : Txt K mg) (h0 : Here K mg "_law_kind" ["_law_draw"] sL_kind) (F_law_pick : Dr P w K mg base 3 "_law_pick" ["_law_draw", "_law_items"] wPick)  : Dr P w K mg base 4 "_law_kind" ["_law_draw"] wLKind := by
  refine dr_of h0 sc__law_kind (fun ds q h => by obtain ⟨rfl, _⟩ := h; rfl) fun f cdv A outer s H E hr => ⟨_, _,
  (dss_one (ds_ret (de_clRK (K := K) 0 F_law_pick (hr.mono (by omega)) rfl (pe_var rfl (by first | exact Or.inl rfl | exact Or.inr (Or.inl rfl) | exact Or.inr (Or.inr rfl)) (by decide) (by decide)) (da_cons (DN.toE (dn_lst (da_cons de_str (da_cons de_str (da_cons de_str (da_cons de_str (da_cons de_str (da_cons de_str (da_cons de_str (da_cons de_str (da_cons de_str (da_cons de_str da_nil)))))))))))) da_nil)))), fun ds q h => ?_⟩
  obtain ⟨rfl, hq⟩ := h
  walk_at "x"
  refine ⟨_, rfl, show 0 < 10 by decide, fun x hx => ?_⟩
  obtain ⟨k, hk, rfl⟩ : ∃ k, k ∈ qk ∧ x = .str k := by
    simp only [List.mem_cons, List.not_mem_nil, or_false] at hx
    rcases hx with rfl | rfl | rfl | rfl | rfl | rfl | rfl | rfl | rfl | rfl <;> exact ⟨_, by decide, rfl⟩
  walk_at "x"
  exact hq k hk
end
end S07

namespace S07
open PySem L2 Y
local macro_rules | `(tactic| walk_at $_:str) => `(tactic| (conv => whnf) <;> repeat' (first
  | (refine And.intro (fun (hc : (_ : Prop)) => ?_) (fun (hc : (_ : Prop)) => ?_) <;> first | exact (d_ni hc).elim | exact (d_nt hc).elim | exact (d_nl hc).elim | exact (d_tc hc).elim | exact (d_lc hc).elim | exact (hc rfl).elim | (conv => whnf))
  | (refine And.intro (by first | exact dr_t rfl | (with_reducible first | exact lz1 | exact lz2 | exact lz3 | exact lz0 | exact lz5 | exact pu_ii | exact lq2 | exact lq1 | exact lq3 | exact lq5 | assumption | exact ⟨puL _, pu_nl⟩ | exact rfl) | (with_reducible first | refine szl ?_ | refine szl2 ?_) <;> (first | omega | (simp only [List.length_append, List.length_map, List.length_cons, List.length_nil, List.length_set]; omega) | (simp only [List.length_append, List.length_map, List.length_cons, List.length_nil, List.length_set]; done)) | fail) ?_ <;> (conv => whnf))
  | fail))

section
variable {P : Program} {w : World} {K : PySem.W.Frag} {mg : Str → Option Value} {base : Heap} {c : Ad}
theorem sc__law_spoilt : FnScope ["_law_draw", "_law_node", "_law_many", "_law_kind_here", "_law_lot"] ["_law_draw", "_law_node", "_law_many"] (defScope sL_spoilt) := ⟨rfl, rfl, rfl, by decide +kernel, rfl, by decide +kernel, by decide +kernel⟩
-- slots: 0 _law_draw, 1 _law_node, 2 _law_many, 3 _law_kind_here, 4 _law_lot
theorem ok__law_spoilt {n : Nat} (T : Txt K mg) (h0 : Here K mg "_law_spoilt" ["_law_draw", "_law_node", "_law_many"] sL_spoilt) (F_law_take : Dr P w K mg base 2 "_law_take" ["_law_draw", "_law_many"] wTake) (F_law_pick : Dr P w K mg base 3 "_law_pick" ["_law_draw", "_law_items"] wPick) (F_law_spoilt : Dr P w K mg base (4 + n) "_law_spoilt" ["_law_draw", "_law_node", "_law_many"] (wSpoilt n))  : Dr P w K mg base (4 + n + 1) "_law_spoilt" ["_law_draw", "_law_node", "_law_many"] (wSpoilt (n + 1)) := by
  refine dr_of h0 sc__law_spoilt (fun ds q h => by obtain ⟨t, m, rfl, _⟩ := h; rfl) fun f cdv A outer s H E hr => ⟨_, _,
  (dss_cons (ds_if (dt_cmp op_eq so_eqS (DE.toB (de_ixK (K := K) (db_var 1) (DE.toB de_int) (fun _ _ => rfl))) (DE.toB de_str) (nomark _)) (dss_cons (ds_set (i := 3) sc__law_spoilt.nd rfl (by first | exact Or.inl rfl | exact Or.inr rfl) (de_clRK (K := K) 0 F_law_take (hr.mono (by omega)) rfl (pe_var rfl (by first | exact Or.inl rfl | exact Or.inr (Or.inl rfl) | exact Or.inr (Or.inr rfl)) (by decide) (by decide)) (da_cons de_int da_nil)))
  (dss_cons (ds_if (dt_cmp (op_eqDK (K := K) hr.units) so_eqU (db_var 3) (DE.toB de_int) (nomark _)) (dss_one (ds_ret (de_tup (da_cons de_str (da_cons (de_ixK (K := K) (db_var 1) (DE.toB de_int) (fun _ _ => rfl)) (da_cons (de_op (op_addUK (K := K)) so_add (DE.toB (de_ixK (K := K) (db_var 1) (DE.toB de_int) (fun _ _ => rfl))) (DE.toB (de_clRK (K := K) 0 F_law_pick (hr.mono (by omega)) rfl (pe_var rfl (by first | exact Or.inl rfl | exact Or.inr (Or.inl rfl) | exact Or.inr (Or.inr rfl)) (by decide) (by decide)) (da_cons (DN.toE (dn_lst (da_cons de_int (da_cons (de_neg de_int) (da_cons de_int da_nil))))) da_nil)))) (da_cons (de_ixK (K := K) (db_var 1) (DE.toB de_int) (fun _ _ => rfl)) (da_cons (de_ixK (K := K) (db_var 1) (DE.toB de_int) (fun _ _ => rfl)) da_nil)))))))) dss_nil)
  (dss_cons (ds_if (dt_cmp (op_eqDK (K := K) hr.units) so_eqU (db_var 3) (DE.toB de_int) (nomark _)) (dss_one (ds_ret (de_tup (da_cons de_str (da_cons (de_ixK (K := K) (db_var 1) (DE.toB de_int) (fun _ _ => rfl)) (da_cons (de_ixK (K := K) (db_var 1) (DE.toB de_int) (fun _ _ => rfl)) (da_cons (de_ixK (K := K) (db_var 1) (DE.toB de_int) (fun _ _ => rfl)) (da_cons (de_ixK (K := K) (db_var 1) (DE.toB de_int) (fun _ _ => rfl)) da_nil)))))))) dss_nil)
  (dss_cons (ds_if (dt_cmp (op_eqDK (K := K) hr.units) so_eqU (db_var 3) (DE.toB de_int) (nomark _)) (dss_one (ds_ret (de_ixK (K := K) (db_var 1) (DE.toB de_int) (fun _ _ => rfl)))) dss_nil)
  (dss_cons (ds_if (dt_cmp (op_eqDK (K := K) hr.units) so_eqU (db_var 3) (DE.toB de_int) (nomark _)) (dss_one (ds_ret (de_tup (da_cons de_str (da_cons (de_ixK (K := K) (db_var 1) (DE.toB de_int) (fun _ _ => rfl)) (da_cons (de_ixK (K := K) (db_var 1) (DE.toB de_int) (fun _ _ => rfl)) (da_cons (de_clRK (K := K) 0 F_law_spoilt (hr.mono (by omega)) rfl (pe_var rfl (by first | exact Or.inl rfl | exact Or.inr (Or.inl rfl) | exact Or.inr (Or.inr rfl)) (by decide) (by decide)) (da_cons (de_ixK (K := K) (db_var 1) (DE.toB de_int) (fun _ _ => rfl)) (da_cons (de_var 2) da_nil))) (da_cons (de_ixK (K := K) (db_var 1) (DE.toB de_int) (fun _ _ => rfl)) da_nil)))))))) dss_nil)
  (dss_one (ds_ret (de_tup (da_cons de_str (da_cons (de_ixK (K := K) (db_var 1) (DE.toB de_int) (fun _ _ => rfl)) (da_cons (de_ixK (K := K) (db_var 1) (DE.toB de_int) (fun _ _ => rfl)) (da_cons (de_ixK (K := K) (db_var 1) (DE.toB de_int) (fun _ _ => rfl)) (da_cons (de_clRK (K := K) 0 F_law_spoilt (hr.mono (by omega)) rfl (pe_var rfl (by first | exact Or.inl rfl | exact Or.inr (Or.inl rfl) | exact Or.inr (Or.inr rfl)) (by decide) (by decide)) (da_cons (de_ixK (K := K) (db_var 1) (DE.toB de_int) (fun _ _ => rfl)) (da_cons (de_var 2) da_nil))) da_nil))))))))))))) dss_nil)
  (dss_cons (ds_set (i := 4) sc__law_spoilt.nd rfl (by first | exact Or.inl rfl | exact Or.inr rfl) (de_ifE (dt_cmp (op_eqDK (K := K) hr.units) so_eqU (DE.toB (de_clRK (K := K) 0 F_law_take (hr.mono (by omega)) rfl (pe_var rfl (by first | exact Or.inl rfl | exact Or.inr (Or.inl rfl) | exact Or.inr (Or.inr rfl)) (by decide) (by decide)) (da_cons de_int da_nil))) (DE.toB de_int) (nomark _)) (DN.toE (dn_srtSet rfl rfl T.sorted rfl T.set (DN.toE (dn_cat (DE.toB (DN.toE (dn_list rfl T.list (by with_unfolding_all rfl) (dab_cons (DE.toB (de_ixK (K := K) (db_var 1) (DE.toB de_int) (fun _ _ => rfl))) dab_nil)))) (DE.toB (DN.toE (dn_lst (da_cons (de_clRK (K := K) 0 F_law_take (hr.mono (by omega)) rfl (pe_var rfl (by first | exact Or.inl rfl | exact Or.inr (Or.inl rfl) | exact Or.inr (Or.inr rfl)) (by decide) (by decide)) (da_cons (de_var 2) da_nil)) da_nil)))))))) (de_sliceK (K := K) (DE.toB (DN.toE (dn_list rfl T.list (by with_unfolding_all rfl) (dab_cons (DE.toB (de_ixK (K := K) (db_var 1) (DE.toB de_int) (fun _ _ => rfl))) dab_nil)))) (do_some de_int) do_none)))
  (dss_one (ds_ret (de_tup (da_cons de_str (da_cons (de_ty (call_tupleK (K := K)) sc_tuple rfl T.tuple (by with_unfolding_all rfl) (dab_cons (db_var 4) dab_nil)) da_nil))))))), fun ds q h => ?_⟩
  obtain ⟨t, m, rfl, hh, hm0, hm, hix, hlo, hq⟩ := h
  cases t with
  | lot ns =>
    have hnl : ns.length ≤ 20 := Nat.le_trans (srt_len hlo.1 hlo.2) hm
    walk_at "x"
    · exact absurd ‹Str.ofString "lot" = Str.ofString "below"› (by decide)
    refine ⟨2, rfl, by decide, fun u u0 u1 => ?_⟩
    walk_at "x"
    · refine ⟨m, rfl, by omega, fun v v0 v1 => ?_⟩
      walk_at "x"
      refine ⟨ns ++ [v], by rw [List.map_append]; rfl, by rw [List.length_append]; show ns.length + 1 < 63; omega, fun ms hs hmm => ?_⟩
      walk_at "x"
      refine hq (.lot ms) trivial ⟨hs, fun x hx => ?_⟩ (Nat.le_refl _)
      rcases List.mem_append.mp ((hmm x).mp hx) with hx | hx
      · exact hlo.2 x hx
      · rw [List.mem_singleton.mp hx]; exact ⟨v0, v1⟩
    · rw [cut_one, ← List.map_drop]
      refine hq (.lot (ns.drop 1)) trivial ⟨hlo.1.sublist (List.drop_sublist ..), fun x hx => hlo.2 x (List.mem_of_mem_drop hx)⟩ (Nat.le_refl _)
  | bel i cc l r =>
    have hht : height (.bel i cc l r) = 1 + max (height l) (height r) := rfl
    obtain ⟨hi, hxl, hxr⟩ := hix
    obtain ⟨hll, hlr⟩ := hlo
    walk_at "x"
    refine ⟨5, rfl, by decide, fun u u0 u1 => ?_⟩
    walk_at "x"
    · refine ⟨_, rfl, show 0 < 3 by decide, fun x hx => ?_⟩
      obtain ⟨z, rfl⟩ : ∃ z : Int, x = .int z := by
        simp only [List.mem_cons, List.not_mem_nil, or_false] at hx
        rcases hx with rfl | rfl | rfl <;> exact ⟨_, rfl⟩
      walk_at "x"
      exact hq (.bel i (cc + z) l r) ⟨hi, hxl, hxr⟩ ⟨hll, hlr⟩ (Nat.le_refl _)
    · exact hq (.bel i cc r l) ⟨hi, hxr, hxl⟩ ⟨hlr, hll⟩ (by show 1 + max (height r) (height l) ≤ _; omega)
    · exact hq l hxl hll (by omega)
    · refine ⟨l, m, rfl, by omega, hm0, hm, hxl, hll, fun t' a1 a2 a3 => ?_⟩
      walk_at "x"
      exact hq (.bel i cc t' r) ⟨hi, a1, hxr⟩ ⟨a2, hlr⟩ (by show 1 + max (height t') (height r) ≤ _; omega)
    · refine ⟨r, m, rfl, by omega, hm0, hm, hxr, hlr, fun t' a1 a2 a3 => ?_⟩
      walk_at "x"
      exact hq (.bel i cc l t') ⟨hi, hxl, a1⟩ ⟨hll, a2⟩ (by show 1 + max (height l) (height t') ≤ _; omega)
end
end S07

namespace S07
open PySem L2 Y
local macro_rules | `(tactic| walk_at $_:str) => `(tactic| (conv => whnf) <;> repeat' (first
  | (refine And.intro (fun (hc : (_ : Prop)) => ?_) (fun (hc : (_ : Prop)) => ?_) <;> first | exact (d_ni hc).elim | exact (d_nt hc).elim | exact (d_nl hc).elim | exact (d_tc hc).elim | exact (d_lc hc).elim | exact (hc rfl).elim | (conv => whnf))
  | (refine And.intro (by first | exact dr_t rfl | (with_reducible first | exact lz1 | exact lz2 | exact lz3 | exact lz0 | exact lz5 | exact pu_ii | exact lq2 | exact lq1 | exact lq3 | exact lq5 | assumption | exact ⟨puL _, pu_nl⟩ | exact rfl) | (with_reducible first | refine szl ?_ | refine szl2 ?_) <;> (first | omega | (simp only [List.length_append, List.length_map, List.length_cons, List.length_nil, List.length_set]; omega) | (simp only [List.length_append, List.length_map, List.length_cons, List.length_nil, List.length_set]; done)) | fail) ?_ <;> (conv => whnf))
  | fail))

abbrev NL : List Str := ["_law_script", "_law_draw", "_law_kinds", "_law_turn", "_law_queries", "_law_tree", "_law_again", "_law_kind_here", "_law_found", "_law_one", "_law_other"]
theorem sc_law : FnScope NL ["_law_script"] (defScope slaw) := ⟨rfl, rfl, rfl, by decide +kernel, rfl, by decide +kernel, by decide +kernel⟩
-- [(0, '_law_script'), (1, '_law_draw'), (2, '_law_kinds'), (3, '_law_turn'), (4, '_law_queries'), (5, '_law_tree'), (6, '_law_again'), (7, '_law_kind_here'), (8, '_law_found'), (9, '_law_one'), (10, '_law_other')]
theorem rows_srt : ∀ (qs : List Sets) (k : Nat), (rowsFrom k qs).Pairwise (fun a b => (a.1 : Int) < b.1)
  | [], _ => .nil
  | s :: r, k => by
    have ih := rows_srt r (k + 1)
    show (if emptyS s then rowsFrom (k + 1) r else (k, s) :: rowsFrom (k + 1) r).Pairwise _
    split
    · exact ih
    · refine List.pairwise_cons.mpr ⟨fun x hx => ?_, ih⟩
      have := rows_ge hx
      show ((k : Nat) : Int) < ((x.1 : Nat) : Int)
      omega
theorem leaf_lot {κ : Bool} {qs : List Qr} {b : Box} {ns : List Int} (h : leafR (rowsK κ qs) b ns) : Srt ns ∧ ∀ n ∈ ns, 0 ≤ n ∧ n < (qs.length : Nat) := by
  rw [h.1]
  refine ⟨?_, fun n hn => ?_⟩
  · unfold Srt
    rw [List.pairwise_map]
    exact (rows_srt _ 0).filter _
  · obtain ⟨r, hr, rfl⟩ := List.mem_map.mp hn
    obtain ⟨i, e1, e2, _⟩ := rows_mem.mp (List.mem_filter.mp hr).1
    have := (List.getElem?_eq_some_iff.mp e2).1
    rw [List.length_map] at this
    show 0 ≤ ((r.1 : Nat) : Int) ∧ ((r.1 : Nat) : Int) < _
    omega
theorem good_ok {κ : Bool} {qs : List Qr} {t : Tr} (ok : OkQs qs) (h : GoodK qs κ t) : TrOk qs t := ⟨h.1.ix, h.1.lots fun b ns hl => leaf_lot hl, by have := M_lt (rows_ok (κ := κ) ok) B0; have := h.2; omega⟩
abbrev treeK (ta tb : Tr) : List (Key × D) := [(.inr "a", trD ta), (.inr "b", trD tb)]
theorem ok_set1 {qs : List Qr} {ta tb t : Tr} (h : TreeOk qs ta tb) (g : TrOk qs t) : TreeOk qs t tb := fun κ => by cases κ; exact g; exact h true
theorem ok_set2 {qs : List Qr} {ta tb t : Tr} (h : TreeOk qs ta tb) (g : TrOk qs t) : TreeOk qs ta t := fun κ => by cases κ; exact h false; exact g
theorem qs_of {c : Ad} : ∀ {xs : List Nat} {l : List D}, AllR (fun _ y => ∃ Q, OkQ Q ∧ y = queryD c Q) xs l → ∃ qs : List Qr, l = qs.map (queryD c) ∧ qs.length = xs.length ∧ ∀ Q ∈ qs, OkQ Q
  | [], l, e => ⟨[], by rw [show l = [] from e]; rfl, rfl, fun Q h => (by cases h)⟩
  | x :: r, l, ⟨y, l', e, ⟨Q, hQ, hy⟩, h2⟩ => by
    obtain ⟨qs, e2, hl, ok⟩ := qs_of h2
    exact ⟨Q :: qs, by rw [e, hy, e2]; rfl, by rw [List.length_cons, List.length_cons, hl], fun P hP => by
      rcases List.mem_cons.mp hP with rfl | hP
      · exact hQ
      · exact ok P hP⟩
def InAg (c : Ad) (qs : List Qr) (env : List Sl) : Prop := ∃ (ta tb : Tr) (x3 x6 x7 x8 x9 x10 : Sl), TreeOk qs ta tb ∧ env = [.no, .dr, .d (kindsD c), x3, .d (queriesD c qs), .od (treeK ta tb), x6, x7, x8, x9, x10]
def InE (c : Ad) (qs : List Qr) (ta tb : Tr) (x3 x6 x8 : Sl) (env : List Sl) : Prop := ∃ (x7 x9 x10 : Sl), env = [.no, .dr, .d (kindsD c), x3, .d (queriesD c qs), .d (treeD ta tb), x6, x7, x8, x9, x10]
def InE2 (c : Ad) (qs : List Qr) (ta tb : Tr) (x3 x6 x7 x8 : Sl) (env : List Sl) : Prop := ∃ (x9 x10 : Sl), env = [.no, .dr, .d (kindsD c), x3, .d (queriesD c qs), .d (treeD ta tb), x6, x7, x8, x9, x10]
def InE3 (c : Ad) (qs : List Qr) (ta tb : Tr) (x3 x6 x7 x8 x9 : Sl) (env : List Sl) : Prop := ∃ (x10 : Sl), env = [.no, .dr, .d (kindsD c), x3, .d (queriesD c qs), .d (treeD ta tb), x6, x7, x8, x9, x10]
section
variable {P : Program} {w : World} {K : PySem.W.Frag} {mg : Str → Option Value} {base : Heap} {c : Ad}
theorem law_all (T : Txt K mg) (L : Cl K c) (F_tree_for : Df P w K mg base 46 "tree_for" ["kinds", "queries"] (wTree c)) (F_wrong_tree : Df P w K mg base 8 "wrong_tree" ["kinds", "queries", "tree"] (wWrongTree c)) (F_law_is_brought : Df P w K mg base 5 "_law_is_brought" ["_law_queries", "_law_tree", "_law_event"] (wBrought c)) (F_law_take : Dr P w K mg base 2 "_law_take" ["_law_draw", "_law_many"] wTake) (F_law_pick : Dr P w K mg base 3 "_law_pick" ["_law_draw", "_law_items"] wPick) (F_law_query : Dr P w K mg base 7 "_law_query" ["_law_draw", "_law_kind_here"] (wLQuery c)) (F_law_kind : Dr P w K mg base 4 "_law_kind" ["_law_draw"] wLKind) (F_law_spoilt : Dr P w K mg base (4 + 30) "_law_spoilt" ["_law_draw", "_law_node", "_law_many"] (wSpoilt 30)) (M_is_event : Dm P w K mg base 2 c.k "is_event" ["self", "thing"] (wIsEv c)) (I_Kinds : Di P w K mg base 2 "Kinds" c.k ["self", "fields"] wKinds) {f : Addr} {cdv : Value} {A : Around} {outer : List Env} {s : Shared} {H : Hp} {E : XK} (hr : Room 47 (A.deeper (PyProof.Rows.envOfC "law" (defScope slaw) s.heap.objs.size f cdv))) :
  ∃ t wS, DSs (cxOf CX0 P w K mg base NL "law" (defScope slaw) f cdv A outer s H E).nox ((defBody slaw).drop 1) t wS ∧ ∀ E' : DEnds, E'.rt (.bl true) → wS (.no :: .dr :: List.replicate 9 .no) E' := by
  obtain ⟨a0, a1, a2, a3, a4, a5, a6, a7, a8, a9, a10, a11, a12, a13, a14, a15, a16, a17, a18, a19, a20, a21, a22, a23, a24, a25, a26, a27, a28, a29, a30, a31, a32⟩ := L
  refine ⟨_, _,
  (dss_cons (ds_set (i := 2) sc_law.nd rfl (by first | exact Or.inl rfl | exact Or.inr rfl) (de_make I_Kinds (hr.mono (by omega)) rfl (da_cons (DM.toE (dm_disp (dp_cons de_str (de_tupc (da_cons de_str (da_cons de_str da_nil))) (dp_cons de_str (de_tupc (da_cons de_str (da_cons de_str da_nil))) dp_nil)))) da_nil)))
  (dss_cons (ds_for PassesOwn.never rfl (di_range1 rfl T.range (da_cons de_int da_nil)) (dg_name (i := 3) sc_law.nd rfl (by first | exact Or.inl rfl | exact Or.inr rfl)) (dss_cons (ds_lc (i := 4) (own := [("_law_one", 9)]) rfl sc_law.nd rfl rfl (by rfl) (DI.toB (di_range1 rfl T.range (da_cons (de_op (op_addUK (K := K)) so_add (DE.toB de_int) (DE.toB (de_clRK (K := K) 1 F_law_take (hr.mono (by omega)) rfl (pe_var rfl (by first | exact Or.inl rfl | exact Or.inr (Or.inl rfl) | exact Or.inr (Or.inr rfl)) (by decide) (by decide)) (da_cons de_int da_nil)))) da_nil))) (blkOk_by (N := ["_law_script", "_law_draw", "_law_kinds", "_law_turn", "_law_queries", "_law_tree", "_law_again", "_law_kind_here", "_law_found", "_law_one", "_law_other"]) (sc := defScope slaw) (by decide +kernel)) (fun _ _ _ _ _ => (dg_name (i := 9) sc_law.nd rfl (by first | exact Or.inl rfl | exact Or.inr rfl))) (fun _ _ _ _ _ => dts_nil) (fun _ _ _ _ _ => (de_clRK (K := K) 1 F_law_query (hr.mono (by omega)) rfl (pe_var rfl (by first | exact Or.inl rfl | exact Or.inr (Or.inl rfl) | exact Or.inr (Or.inr rfl)) (by decide) (by decide)) (da_cons (de_clRK (K := K) 1 F_law_kind (hr.mono (by omega)) rfl (pe_var rfl (by first | exact Or.inl rfl | exact Or.inr (Or.inl rfl) | exact Or.inr (Or.inr rfl)) (by decide) (by decide)) da_nil) da_nil))))
  (dss_cons (ds_setM (i := 5) sc_law.nd rfl (by first | exact Or.inl rfl | exact Or.inr rfl) (dm_dictD rfl T.dict (de_clK (K := K) F_tree_for (hr.mono (by omega)) rfl (da_cons (de_var 2) (da_cons (de_var 4) da_nil)))))
  (dss_cons (ds_for PassesOwn.never rfl (di_range1 rfl T.range (da_cons (de_op (op_addUK (K := K)) so_add (DE.toB de_int) (DE.toB (de_clRK (K := K) 1 F_law_take (hr.mono (by omega)) rfl (pe_var rfl (by first | exact Or.inl rfl | exact Or.inr (Or.inl rfl) | exact Or.inr (Or.inr rfl)) (by decide) (by decide)) (da_cons de_int da_nil)))) da_nil)) (dg_name (i := 6) sc_law.nd rfl (by first | exact Or.inl rfl | exact Or.inr rfl)) (dss_cons (ds_set (i := 7) sc_law.nd rfl (by first | exact Or.inl rfl | exact Or.inr rfl) (de_clRK (K := K) 1 F_law_pick (hr.mono (by omega)) rfl (pe_var rfl (by first | exact Or.inl rfl | exact Or.inr (Or.inl rfl) | exact Or.inr (Or.inr rfl)) (by decide) (by decide)) (da_cons (DN.toE (dn_lst (da_cons de_str (da_cons de_str da_nil)))) da_nil)))
  (dss_one (ds_dput 5 hr.units (pe_var rfl (by first | exact Or.inl rfl | exact Or.inr (Or.inl rfl) | exact Or.inr (Or.inr rfl)) (by decide) (by decide)) (de_var 7) (de_clRK (K := K) 1 F_law_spoilt (hr.mono (by omega)) rfl (pe_var rfl (by first | exact Or.inl rfl | exact Or.inr (Or.inl rfl) | exact Or.inr (Or.inr rfl)) (by decide) (by decide)) (da_cons (de_dget hr.units (db_var 5) (de_var 7)) (da_cons (de_cb (call_lenK (K := K)) sc_len rfl T.len (by with_unfolding_all rfl) (dab_cons (db_var 4) dab_nil)) da_nil)))))))
  (dss_cons (ds_frzD 5 (ds_set (i := 8) sc_law.nd rfl (by first | exact Or.inl rfl | exact Or.inr rfl) (de_clK (K := K) F_wrong_tree (hr.mono (by omega)) rfl (da_cons (de_var 2) (da_cons (de_var 4) (da_cons (de_var 5) da_nil))))))
  (dss_cons (ds_if (DW.dt (dw_and (dt_cmp op_notN so_notN (db_var 8) (DE.toB de_non) (nomark _)) (dw_and1 (DW.dt (dw_or (dt_not (dt_val (de_meth (P := P) (w0 := w) (K := K) (mg := mg) (base := base) 2 (de_var 2) (hr.mono (by omega)) (da_cons (de_var 8) da_nil)))) (dw_or1 (dt_val (de_clK (K := K) F_law_is_brought (hr.mono (by omega)) rfl (da_cons (de_var 4) (da_cons (de_var 5) (da_cons (de_var 8) da_nil))))))))))) (dss_one (ds_ret de_bl)) dss_nil)
  (dss_one (ds_if (dt_cmp op_isN so_isN (db_var 8) (DE.toB de_non) (nomark _)) (dss_one (ds_for PassesOwn.never rfl (di_seq (de_tup (da_cons de_str (da_cons de_str da_nil)))) (dg_name (i := 7) sc_law.nd rfl (by first | exact Or.inl rfl | exact Or.inr rfl)) (dss_one (ds_for PassesOwn.never rfl (di_range2 rfl T.range (da_cons (de_neg de_int) (da_cons de_int da_nil))) (dg_name (i := 9) sc_law.nd rfl (by first | exact Or.inl rfl | exact Or.inr rfl)) (dss_one (ds_for PassesOwn.never rfl (di_range2 rfl T.range (da_cons (de_neg de_int) (da_cons de_int da_nil))) (dg_name (i := 10) sc_law.nd rfl (by first | exact Or.inl rfl | exact Or.inr rfl)) (dss_one (ds_if (dt_not (dt_val (de_clK (K := K) F_law_is_brought (hr.mono (by omega)) rfl (da_cons (de_var 4) (da_cons (de_var 5) (da_cons (de_tup (da_cons (de_var 7) (da_cons de_int (da_cons de_int (da_cons (de_var 9) (da_cons (de_var 10) da_nil)))))) da_nil)))))) (dss_one (ds_ret de_bl)) dss_nil)))))))) dss_nil))))))))
  (dss_one (ds_ret de_bl)))), ?_⟩
  intro E' hE
  walk_at "x"
  refine ⟨show (2 : Nat) ≤ 15 by decide, ?_⟩
  walk_at "x"
  refine ⟨rfl, ?_⟩
  walk_at "x"
  refine ⟨by decide, ?_⟩
  refine g_for (fun _ env => ∃ x3 x4 x5 x6 x7 x8 x9 x10 : Sl, env = [.no, .dr, .d (kindsD c), x3, x4, x5, x6, x7, x8, x9, x10]) ⟨_, _, _, _, _, _, _, _, rfl⟩ ?_ ?_
  · rintro i d env' hd ⟨x3, x4, x5, x6, x7, x8, x9, x10, rfl⟩
    obtain ⟨_, rfl⟩ := ints_get hd
    walk_at "x"
    refine ⟨5, rfl, by decide, fun v v0 v1 => ?_⟩
    walk_at "x"
    refine ⟨⟨by omega, by omega⟩, ?_⟩
    unfold Y.intsFrom
    refine g_lcT (fun i y => ∃ Q, OkQ Q ∧ y = queryD c Q) (szl (by rw [List.length_range]; omega)) (fun i hr L R hL hR => ?_) fun l hl => ?_
    · walk_at "x"
      intro k hk
      walk_at "x"
      exact ⟨k, rfl, hk, fun Q hQ => ⟨hL, hR _ ⟨Q, hQ, rfl⟩⟩⟩
    · obtain ⟨qs, rfl, hlen, hok⟩ := qs_of hl
      rw [List.length_range] at hlen
      have ok : OkQs qs := ⟨by omega, hok⟩
      walk_at "x"
      refine ⟨qs, rfl, ok, fun ta tb ga gb => ?_⟩
      have tok : TreeOk qs ta tb := fun κ => by
        cases κ
        · exact good_ok ok ga
        · exact good_ok ok gb
      walk_at "x"
      refine ⟨2, rfl, by decide, fun u u0 u1 => ?_⟩
      walk_at "x"
      refine ⟨⟨by omega, by omega⟩, ?_⟩
      refine g_for (fun _ env => InAg c qs env) ⟨ta, tb, _, _, _, _, _, _, tok, rfl⟩ ?_ ?_
      · rintro j d env' hd ⟨ta, tb, x3, x6, x7, x8, x9, x10, tok, rfl⟩
        obtain ⟨_, rfl⟩ := ints_get hd
        have hqp : 0 < qs.length := by omega
        walk_at "x"
        refine ⟨_, rfl, show 0 < 2 by decide, fun x hx => ?_⟩
        simp only [List.mem_cons, List.not_mem_nil, or_false] at hx
        rcases hx with rfl | rfl
        · have tk := tok false
          walk_at "x"
          refine ⟨ta, qs.length, by rw [List.length_map], Nat.lt_of_le_of_lt tk.2.2 (by decide), hqp, by omega, tk.1, tk.2.1, fun t' a1 a2 a3 => ?_⟩
          walk_at "x"
          exact ⟨t', tb, _, _, _, _, _, _, ok_set1 tok ⟨a1, a2, Nat.le_trans a3 tk.2.2⟩, rfl⟩
        · have tk := tok true
          walk_at "x"
          refine ⟨tb, qs.length, by rw [List.length_map], Nat.lt_of_le_of_lt tk.2.2 (by decide), hqp, by omega, tk.1, tk.2.1, fun t' a1 a2 a3 => ?_⟩
          walk_at "x"
          exact ⟨ta, t', _, _, _, _, _, _, ok_set2 tok ⟨a1, a2, Nat.le_trans a3 tk.2.2⟩, rfl⟩
      · rintro env' ⟨ta, tb, x3, x6, x7, x8, x9, x10, tok, rfl⟩
        walk_at "x"
        refine ⟨qs, ta, tb, rfl, ok, tok, fun κ e he hno => ?_, fun hall => ?_⟩
        · walk_at "x"
          refine ⟨_, _, M_is_event, rfl, κ, e, rfl, he, ?_⟩
          walk_at "x"
          refine ⟨qs, ta, tb, κ, e, rfl, ok, tok, he, fun h => absurd h hno, fun _ => ?_⟩
          walk_at "x"
          exact ⟨_, _, _, _, _, _, _, _, rfl⟩
        · walk_at "x"
          refine g_for (fun _ env => InE c qs ta tb x3 x6 (.d .non) env) ⟨_, _, _, rfl⟩ ?_ ?_
          · rintro m d env' hd ⟨x7, x9, x10, rfl⟩
            obtain ⟨κ, rfl⟩ : ∃ κ, d = .str (knd κ) := by
              rcases (show m = 0 ∨ m = 1 from by have := (List.getElem?_eq_some_iff.mp hd).1; simp at this; omega) with rfl | rfl <;> cases hd
              · exact ⟨false, rfl⟩
              · exact ⟨true, rfl⟩
            walk_at "x"
            refine ⟨by decide, ?_⟩
            refine g_for (fun _ env => InE2 c qs ta tb x3 x6 (.d (.str (knd κ))) (.d .non) env) ⟨_, _, rfl⟩ ?_ ?_
            · rintro a d env' hd ⟨x9, x10, rfl⟩
              obtain ⟨_, rfl⟩ := ints_get hd
              generalize (-4 : Int) + (a : Nat) = y1
              walk_at "x"
              refine ⟨by decide, ?_⟩
              refine g_for (fun _ env => InE3 c qs ta tb x3 x6 (.d (.str (knd κ))) (.d .non) (.d (.int y1)) env) ⟨_, rfl⟩ ?_ ?_
              · rintro b d env' hd ⟨x10, rfl⟩
                obtain ⟨_, rfl⟩ := ints_get hd
                generalize (-4 : Int) + (b : Nat) = y2
                walk_at "x"
                refine ⟨qs, ta, tb, κ, [y1, y2], rfl, ok, tok, rfl, fun _ => ?_, fun h => absurd (hall κ [y1, y2] rfl) h⟩
                walk_at "x"
                exact ⟨_, rfl⟩
              · rintro env' ⟨x10, rfl⟩
                exact ⟨_, _, rfl⟩
            · rintro env' ⟨x9, x10, rfl⟩
              exact ⟨_, _, _, rfl⟩
          · rintro env' ⟨x7, x9, x10, rfl⟩
            exact ⟨_, _, _, _, _, _, _, _, rfl⟩
  · rintro env' ⟨x3, x4, x5, x6, x7, x8, x9, x10, rfl⟩
    walk_at "x"
    exact hE

end
end S07

namespace S07
open PySem L2 Y
def spLaw (K : PySem.W.Frag) : Sp := fun vs H Q _ => ∃ (a : Addr) (ns : List Int), vs = [.ref a] ∧ SqL K H a (ns.map V.int) ∧ ns.length ≤ 63 ∧ ∀ H', Q (.bl true) H'
theorem dr_none {P : Program} {w : World} {K : PySem.W.Frag} {mg : Str → Option Value} {base : Heap} {x : Str} {ps N : List Str} {st : Stmt} {k : Nat} {W : WD} (h0 : Here K mg x ps st) (S : FnScope N ps (defScope st)) (hW : ∀ ds q, ¬ W ds q) : Dr P w K mg base (k + 1) x ps W := by
  obtain ⟨f, fd, F, hm, hb⟩ := h0.ex
  refine ⟨f, fd, F.ok S (fun vs H Q E h => ?_) (fun cdv A outer s H vs Q E hr h => ?_), hm, F.kp, hb⟩
  · obtain ⟨_, _, _, _, _, _, _, _, _, h, _⟩ := h; exact (hW _ _ h).elim
  · obtain ⟨_, _, _, _, _, _, _, _, _, h, _⟩ := h; exact (hW _ _ h).elim
theorem spoilt_all {P : Program} {w : World} {K : PySem.W.Frag} {mg : Str → Option Value} {base : Heap} (T : Txt K mg) (h0 : Here K mg "_law_spoilt" ["_law_draw", "_law_node", "_law_many"] sL_spoilt) (F_law_take : Dr P w K mg base 2 "_law_take" ["_law_draw", "_law_many"] wTake) (F_law_pick : Dr P w K mg base 3 "_law_pick" ["_law_draw", "_law_items"] wPick) : ∀ n, Dr P w K mg base (4 + n) "_law_spoilt" ["_law_draw", "_law_node", "_law_many"] (wSpoilt n)
  | 0 => dr_none h0 sc__law_spoilt fun ds q h => by obtain ⟨_, _, _, h, _⟩ := h; omega
  | n + 1 => ok__law_spoilt T h0 F_law_take F_law_pick (spoilt_all T h0 F_law_take F_law_pick n)
theorem pv' {X : Cx} (i : Nat) {x : Str} {p : Pos} (hN : X.N[i]? = some x := by rfl) (hv : Vis X.env.scope x := by first | exact Or.inl rfl | exact Or.inr (Or.inl rfl) | exact Or.inr (Or.inr rfl)) (hd : (x == ("__debug__" : Str)) = false := by decide) (hcd : (x == ("__classdict__" : Str)) = false := by decide) : PE X (.Name x p) (tVar i) := pe_var hN hv hd hcd
section
variable {P : Program} {w : World} {K : PySem.W.Frag} {mg : Str → Option Value} {base : Heap} {c : Ad}
theorem ok_law {f : Addr} {fd : FuncData} (F : Fun K "law" "law" slaw f fd) (T : Txt K mg) (Lo : Low K mg) (L : Cl K c) (h_law_number : Here K mg "_law_number" ["_law_script", "_law_index"] sL_number) (h_law_take : Here K mg "_law_take" ["_law_draw", "_law_many"] sL_take) (h_normal : Here K mg "normal" ["pairs"] snormal) (h_union : Here K mg "union" ["one", "other"] sunion) (h_others : Here K mg "others" ["one"] sothers) (h_meet : Here K mg "meet" ["one", "other"] smeet) (h_has : Here K mg "has" ["one", "number"] shas) (h_some_member : Here K mg "some_member" ["one"] ssome_member) (h_is_whole : Here K mg "is_whole" ["thing"] sis_whole) (h_is_interval : Here K mg "is_interval" ["pair"] sis_interval) (h_is_name : Here K mg "is_name" ["thing"] sis_name) (h_cuts_of : Here K mg "cuts_of" ["one"] scuts_of) (h_with_pair : Here K mg "with_pair" ["box", "at", "pair"] swith_pair) (h_check_number : Here K mg "check_number" ["number", "low", "word"] scheck_number) (h_inner_cuts : Here K mg "inner_cuts" ["rows", "box", "at"] sinner_cuts) (h_rows_within : Here K mg "rows_within" ["rows", "box"] srows_within) (h_sides_of : Here K mg "sides_of" ["query"] ssides_of) (h_whole_box : Here K mg "whole_box" ["kinds", "kind"] swhole_box) (h_is_seen : Here K mg "is_seen" ["query", "event"] sis_seen) (h_check_keys : Here K mg "check_keys" ["side", "keys"] scheck_keys) (h_check_two : Here K mg "check_two" ["first", "second", "keys"] scheck_two) (h_check_worths : Here K mg "check_worths" ["side", "keys", "worths", "barred"] scheck_worths) (h_rows_of : Here K mg "rows_of" ["queries", "kind"] srows_of) (h_node_for : Here K mg "node_for" ["rows", "box"] snode_for) (h_walked : Here K mg "walked" ["tree", "event"] swalked) (h_lot_of : Here K mg "lot_of" ["tree", "event"] slot_of) (h_tree_for : Here K mg "tree_for" ["kinds", "queries"] stree_for) (h_members_of : Here K mg "members_of" ["sets", "box"] smembers_of) (h_wrong_at : Here K mg "wrong_at" ["kind", "sets", "box", "is_told"] swrong_at) (h_wrong_lot : Here K mg "wrong_lot" ["kind", "lots", "box", "told"] swrong_lot) (h_sets_by : Here K mg "sets_by" ["queries", "kind", "fields"] ssets_by) (h_wrong_node : Here K mg "wrong_node" ["kind", "lots", "box", "node"] swrong_node) (h_wrong_tree : Here K mg "wrong_tree" ["kinds", "queries", "tree"] swrong_tree) (h_law_is_brought : Here K mg "_law_is_brought" ["_law_queries", "_law_tree", "_law_event"] sL_is_brought) (h_law_pick : Here K mg "_law_pick" ["_law_draw", "_law_items"] sL_pick) (h_law_set : Here K mg "_law_set" ["_law_draw"] sL_set) (h_law_side : Here K mg "_law_side" ["_law_draw", "_law_kind_here"] sL_side) (h_law_worths : Here K mg "_law_worths" ["_law_draw", "_law_kinds"] sL_worths) (h_law_query : Here K mg "_law_query" ["_law_draw", "_law_kind_here"] sL_query) (h_law_kind : Here K mg "_law_kind" ["_law_draw"] sL_kind) (h_law_spoilt : Here K mg "_law_spoilt" ["_law_draw", "_law_node", "_law_many"] sL_spoilt) (i_Kinds : HereI K mg "Kinds" c.k "Kinds.__init__" ["self", "fields"] sKinds_init) (i_Side : HereI K mg "Side" c.s "Side.__init__" ["self", "kinds", "kind", "where"] sSide_init) (i_Each : HereI K mg "Each" c.e "Each.__init__" ["self", "side", "told"] sEach_init) (i_Windows : HereI K mg "Windows" c.w "Windows.__init__" ["self", "side", "keys", "length", "step", "worths"] sWindows_init) (i_Blocks : HereI K mg "Blocks" c.b "Blocks.__init__" ["self", "side", "keys", "size", "worths"] sBlocks_init) (i_Sessions : HereI K mg "Sessions" c.n "Sessions.__init__" ["self", "side", "keys", "gap", "worths"] sSessions_init) (i_Pairs : HereI K mg "Pairs" c.p "Pairs.__init__" ["self", "first", "second", "keys", "mode", "reach", "told"] sPairs_init) (i_Lonely : HereI K mg "Lonely" c.l "Lonely.__init__" ["self", "first", "second", "keys", "reach", "told"] sLonely_init) (m_Side_told : HereM K c.s "told" "Side.told" ["self"] sSide_told) (m_Side_is_empty : HereM K c.s "is_empty" "Side.is_empty" ["self"] sSide_is_empty) (m_Side_lets : HereM K c.s "lets" "Side.lets" ["self", "event"] sSide_lets) (m_Each_form : HereM K c.e "form" "Each.form" ["self"] sEach_form) (m_Windows_form : HereM K c.w "form" "Windows.form" ["self"] sWindows_form) (m_Blocks_form : HereM K c.b "form" "Blocks.form" ["self"] sBlocks_form) (m_Sessions_form : HereM K c.n "form" "Sessions.form" ["self"] sSessions_form) (m_Pairs_form : HereM K c.p "form" "Pairs.form" ["self"] sPairs_form) (m_Lonely_form : HereM K c.l "form" "Lonely.form" ["self"] sLonely_form) (m_Kinds_place : HereM K c.k "place" "Kinds.place" ["self", "kind", "name"] sKinds_place) (m_Kinds_is_event : HereM K c.k "is_event" "Kinds.is_event" ["self", "thing"] sKinds_is_event) (m_Side_places : HereM K c.s "places" "Side.places" ["self", "names", "is_own"] sSide_places) : FnOk P w K mg base CX0 48 f fd ["_law_script"] (spLaw K) := by
  have M_told := ok_Side_told (P := P) (w := w) (base := base) L T m_Side_told 
  have M_form_Each := ok_Each_form (P := P) (w := w) (base := base) L T m_Each_form M_told
  have M_form_Windows := ok_Windows_form (P := P) (w := w) (base := base) L T m_Windows_form M_told
  have M_form_Blocks := ok_Blocks_form (P := P) (w := w) (base := base) L T m_Blocks_form M_told
  have M_form_Sessions := ok_Sessions_form (P := P) (w := w) (base := base) L T m_Sessions_form M_told
  have M_form_Pairs := ok_Pairs_form (P := P) (w := w) (base := base) L T m_Pairs_form M_told
  have M_form_Lonely := ok_Lonely_form (P := P) (w := w) (base := base) L T m_Lonely_form M_told
  have F_sides_of := ok_sides_of (P := P) (w := w) (base := base) L T h_sides_of M_form_Each M_form_Windows M_form_Blocks M_form_Sessions M_form_Pairs M_form_Lonely
  have M_is_empty := ok_Side_is_empty (P := P) (w := w) (base := base) L T m_Side_is_empty 
  have F_rows_of := ok_rows_of (P := P) (w := w) (base := base) L T h_rows_of F_sides_of M_told M_is_empty
  have F_whole_box := ok_whole_box (P := P) (w := w) (base := base) L T h_whole_box 
  have F_normal := ok_normal (P := P) (w := w) (base := base) T h_normal Lo
  have F_others := ok_others (P := P) (w := w) (base := base) T h_others F_normal
  have F_union := ok_union (P := P) (w := w) (base := base) T h_union F_normal
  have F_meet := ok_meet (P := P) (w := w) (base := base) T h_meet F_others F_union
  have F_rows_within := ok_rows_within (P := P) (w := w) (base := base) T h_rows_within F_meet
  have F_cuts_of := ok_cuts_of (P := P) (w := w) (base := base) T h_cuts_of 
  have F_inner_cuts := ok_inner_cuts (P := P) (w := w) (base := base) T h_inner_cuts F_cuts_of
  have F_with_pair := ok_with_pair (P := P) (w := w) (base := base) T h_with_pair 
  have F_node_for := ok_node (P := P) (w := w) (base := base) T h_node_for F_rows_within F_inner_cuts F_with_pair 40
  have F_tree_for := ok_tree_for (P := P) (w := w) (base := base) L T h_tree_for F_rows_of F_whole_box F_node_for
  have F_sets_by := ok_sets_by (P := P) (w := w) (base := base) L T h_sets_by F_rows_of
  have F_some_member := ok_some_member (P := P) (w := w) (base := base) T h_some_member
  have F_members_of := ok_members_of (P := P) (w := w) (base := base) T h_members_of F_meet F_some_member
  have F_wrong_at := ok_wrong_at (P := P) (w := w) (base := base) T h_wrong_at F_members_of F_some_member F_others F_meet
  have F_wrong_lot := ok_wrong_lot (P := P) (w := w) (base := base) T h_wrong_lot F_some_member F_wrong_at
  have F_wrong_node := ok_wrong_node (P := P) (w := w) (base := base) T h_wrong_node F_wrong_lot F_with_pair
  have F_wrong_tree := ok_wrong_tree (P := P) (w := w) (base := base) L T h_wrong_tree F_whole_box F_sets_by F_wrong_node
  have F_walked := ok_walked (P := P) (w := w) (base := base) T h_walked 
  have F_lot_of := ok_lot_of (P := P) (w := w) (base := base) T h_lot_of F_walked
  have F_has := ok_has (P := P) (w := w) (base := base) T h_has
  have M_lets := ok_Side_lets (P := P) (w := w) (base := base) L T m_Side_lets F_has
  have F_is_seen := ok_is_seen (P := P) (w := w) (base := base) L T h_is_seen M_lets M_form_Each M_form_Windows M_form_Blocks M_form_Sessions M_form_Pairs M_form_Lonely
  have F_law_is_brought := ok__law_is_brought (P := P) (w := w) (base := base) L T h_law_is_brought F_lot_of F_is_seen
  have F_law_take := dr_take (P := P) (w := w) (base := base) h_law_take h_law_number T.d
  have F_law_pick := ok__law_pick (P := P) (w := w) (base := base) T h_law_pick F_law_take
  have F_law_set := ok__law_set (P := P) (w := w) (base := base) T h_law_set F_law_pick
  have F_is_name := ok_is_name (P := P) (w := w) (base := base) T h_is_name 
  have I_Kinds := ok_Kinds_init (P := P) (w := w) (base := base) L T i_Kinds F_is_name
  have F_is_whole := ok_is_whole (P := P) (w := w) (base := base) T h_is_whole 
  have F_is_interval := ok_is_interval (P := P) (w := w) (base := base) T h_is_interval F_is_whole
  have I_Side := ok_Side_init (P := P) (w := w) (base := base) L T i_Side F_is_interval F_normal
  have F_law_side := ok__law_side (P := P) (w := w) (base := base) T h_law_side F_law_take F_law_set I_Kinds I_Side
  have F_law_worths := ok__law_worths (P := P) (w := w) (base := base) T h_law_worths F_law_take F_law_pick
  have M_place := ok_Kinds_place (P := P) (w := w) (base := base) L T m_Kinds_place 
  have M_places := ok_Side_places (P := P) (w := w) (base := base) L T m_Side_places M_place
  have I_Each := ok_Each_init (P := P) (w := w) (base := base) L T i_Each M_places
  have F_check_keys := ok_check_keys (P := P) (w := w) (base := base) L T h_check_keys M_places
  have F_check_number := ok_check_number (P := P) (w := w) (base := base) T h_check_number F_is_whole
  have F_check_worths := ok_check_worths (P := P) (w := w) (base := base) L T h_check_worths F_check_number M_places
  have I_Windows := ok_Windows_init (P := P) (w := w) (base := base) L T i_Windows F_check_keys F_check_number F_check_worths
  have I_Blocks := ok_Blocks_init (P := P) (w := w) (base := base) L T i_Blocks F_check_keys F_check_number F_check_worths
  have I_Sessions := ok_Sessions_init (P := P) (w := w) (base := base) L T i_Sessions F_check_keys F_check_number F_check_worths
  have F_check_two := ok_check_two (P := P) (w := w) (base := base) L T h_check_two M_places
  have I_Pairs := ok_Pairs_init (P := P) (w := w) (base := base) L T i_Pairs F_check_two F_check_number M_places
  have I_Lonely := ok_Lonely_init (P := P) (w := w) (base := base) L T i_Lonely F_check_two F_check_number M_places
  have F_law_query := ok__law_query (P := P) (w := w) (base := base) T h_law_query F_law_side F_law_pick F_law_take F_law_worths I_Each I_Windows I_Blocks I_Sessions I_Pairs I_Lonely
  have F_law_kind := ok__law_kind (P := P) (w := w) (base := base) T h_law_kind F_law_pick
  have F_law_spoilt := spoilt_all (P := P) (w := w) (base := base) T h_law_spoilt F_law_take F_law_pick 30
  have M_is_event := ok_Kinds_is_event (P := P) (w := w) (base := base) L T m_Kinds_is_event F_is_whole
  refine F.ok sc_law (fun vs H Q E h => ?_) (fun cdv A outer s H vs Q E hr h => ?_)
  · obtain ⟨a, ns, rfl, _⟩ := h
    rfl
  · obtain ⟨a, ns, rfl, hS, hlen, k⟩ := h
    obtain ⟨t, wS, DD, hw⟩ := law_all (E := E) (H := H) (outer := outer) T L F_tree_for F_wrong_tree F_law_is_brought F_law_take F_law_pick F_law_query F_law_kind F_law_spoilt M_is_event I_Kinds hr
    have h1 : wS (.no :: .dr :: List.replicate 9 .no) { nx := fun _ => False, rt := fun d => d = .bl true } := hw _ rfl
    refine ⟨_, pss_cons (ps_set (i := 1) sc_law.nd rfl (by first | exact Or.inl rfl | exact Or.inr rfl) (pe_lst (pa_cons (pv' 0) (pa_cons pe_int pa_nil)))) DD.ps, ?_⟩
    refine ⟨_, rfl, by show 2 ≤ sizeLine; decide, fun dr hdr => ?_⟩
    refine DD.snd _ H _ _ _ _ _ (fr_law (n := 9) hS hdr) h1 ⟨fun _ _ _ _ _ z => z.elim, fun v d G H' env σ f' r e => ?_, fun _ _ _ _ _ z => z.elim, fun _ _ _ _ _ z => z.elim⟩
    have e' : d = .bl true := e
    subst e'
    have e2 : v = .bl true := r
    subst e2
    exact k H'
end
theorem low_mk {K : PySem.W.Frag} {mg : Str → Option Value} {f : Addr} {oc : Value} {od an : Option Addr} {osl : Array (Option Value)} {kV doc pm cdv ct : Value} (hm : mg "low_of" = some (.ref f)) (l : K.lookup f = some ⟨oc, od, .func (PySem.W.fnOf "low_of" "low_of" (defArgs slow_of) (defBody slow_of) (defScope slow_of) .none kV doc pm an cdv ct), osl⟩)
    (c : PySem.W.codeIn K cdv "low_of" = true) : Low K mg := ⟨f, hm, fun {X k} e hr => by
  subst e
  exact cr_sortLow l c rfl rfl rfl rfl (fun _ => rfl) hr⟩
theorem every_mk {K : PySem.W.Frag} {a b : Addr} {od od1 : Option Addr} {n n1 : Nat} {sl sl1 : Array (Option Value)} (h : K.lookup a = some ⟨.type "tuple", od, .seq #[.ref b] n, sl⟩) (h1 : K.lookup b = some ⟨.type "tuple", od1, .seq #[.none, .none] n1, sl1⟩) : ∀ G, R K G (.tup [.tup [.non, .non]]) (.ref a) := fun G =>
  .tup (.inr ⟨_, _, _, h, rfl, rfl, by show 1 ≤ sizeLine; decide, (.cons rfl .nil : Vals [V.ref b] [Value.ref b])⟩)
    (.cons (.tup (.inr ⟨_, _, _, h1, rfl, rfl, by show 2 ≤ sizeLine; decide, (.cons rfl (.cons rfl .nil) : Vals [V.non, V.non] [Value.none, Value.none])⟩) (.cons R.non_ (.cons R.non_ .nil))) .nil)
theorem nothing_mk {K : PySem.W.Frag} {a : Addr} {od : Option Addr} {n : Nat} {sl : Array (Option Value)} (h : K.lookup a = some ⟨.type "tuple", od, .seq #[] n, sl⟩) : ∀ G, R K G (.tup []) (.ref a) := fun G => .tup (.inr ⟨_, _, _, h, rfl, rfl, by show 0 ≤ sizeLine; decide, (.nil : Vals [] [])⟩) .nil
theorem own_mk {K : PySem.W.Frag} {a : Addr} {n : Nat} {sl : Array (Option Value)} {t1 t2 : Tok} (h : K.lookup a = some ⟨.type "tuple", none, .seq #[.str "time" t1, .str "id" t2] n, sl⟩) : ∀ G, R K G (.tupc [.str "time", .str "id"]) (.ref a) := fun G =>
  .tupc (.inr ⟨_, _, _, h, rfl, rfl, rfl, by show 2 ≤ sizeLine; decide, (.cons ⟨_, rfl⟩ (.cons ⟨_, rfl⟩ .nil) : Vals [V.str "time", V.str "id"] [Value.str "time" t1, Value.str "id" t2])⟩) (.cons R.str_ (.cons R.str_ .nil))
theorem fw_mk {K : PySem.W.Frag} {a : Addr} {od : Option Addr} {n : Nat} {sl : Array (Option Value)} {t1 t2 t3 t4 : Tok} (h : K.lookup a = some ⟨.type "tuple", od, .seq #[.str "sum" t1, .str "least" t2, .str "greatest" t3, .str "unlike" t4] n, sl⟩) : ∀ G, R K G (.tup [.str "sum", .str "least", .str "greatest", .str "unlike"]) (.ref a) := fun G =>
  .tup (.inr ⟨_, _, _, h, rfl, rfl, by show 4 ≤ sizeLine; decide, (.cons ⟨_, rfl⟩ (.cons ⟨_, rfl⟩ (.cons ⟨_, rfl⟩ (.cons ⟨_, rfl⟩ .nil))) : Vals [V.str "sum", V.str "least", V.str "greatest", V.str "unlike"] [Value.str "sum" t1, Value.str "least" t2, Value.str "greatest" t3, Value.str "unlike" t4])⟩) (.cons R.str_ (.cons R.str_ (.cons R.str_ (.cons R.str_ .nil))))
theorem pw_mk {K : PySem.W.Frag} {a : Addr} {od : Option Addr} {n : Nat} {sl : Array (Option Value)} {t1 t2 t3 : Tok} (h : K.lookup a = some ⟨.type "tuple", od, .seq #[.str "count" t1, .str "first" t2, .str "last" t3] n, sl⟩) : ∀ G, R K G (.tup [.str "count", .str "first", .str "last"]) (.ref a) := fun G =>
  .tup (.inr ⟨_, _, _, h, rfl, rfl, by show 3 ≤ sizeLine; decide, (.cons ⟨_, rfl⟩ (.cons ⟨_, rfl⟩ (.cons ⟨_, rfl⟩ .nil)) : Vals [V.str "count", V.str "first", V.str "last"] [Value.str "count" t1, Value.str "first" t2, Value.str "last" t3])⟩) (.cons R.str_ (.cons R.str_ (.cons R.str_ .nil)))
end S07

namespace S07
open PySem L2 Y
theorem all_mk {l : PySem.W.OpenLaw} {w : World} {K : PySem.W.Frag} {h : Heap} {mg : Str → Option Value} {fa CK CS CE CW CB CN CP CL fCK_init fCK_place fCK_is_event fCS_init fCS_told fCS_is_empty fCS_lets fCS_places fCE_init fCE_form fCW_init fCW_form fCB_init fCB_form fCN_init fCN_form fCP_init fCP_form fCL_init fCL_form f_law_number f_law_take f_normal f_union f_others f_meet f_has f_some_member f_is_whole f_is_interval f_is_name f_cuts_of f_with_pair f_check_number f_inner_cuts f_rows_within f_sides_of f_whole_box f_is_seen f_check_keys f_check_two f_check_worths f_rows_of f_node_for f_walked f_lot_of f_tree_for f_members_of f_wrong_at f_wrong_lot f_sets_by f_wrong_node f_wrong_tree f_law_is_brought f_law_pick f_law_set f_law_side f_law_worths f_law_query f_law_kind f_law_spoilt f_low_of f_law : Addr} (X : K.In h) (G : h.Ns mainGlobals mg) (hfa : mg "law" = some (.ref fa))
    {odCK_init anCK_init odCK_place anCK_place odCK_is_event anCK_is_event odCS_init anCS_init odCS_told anCS_told odCS_is_empty anCS_is_empty odCS_lets anCS_lets odCS_places anCS_places odCE_init anCE_init odCE_form anCE_form odCW_init anCW_init odCW_form anCW_form odCB_init anCB_init odCB_form anCB_form odCN_init anCN_init odCN_form anCN_form odCP_init anCP_init odCP_form anCP_form odCL_init anCL_init odCL_form anCL_form od_law_number an_law_number od_law_take an_law_take od_normal an_normal od_union an_union od_others an_others od_meet an_meet od_has an_has od_some_member an_some_member od_is_whole an_is_whole od_is_interval an_is_interval od_is_name an_is_name od_cuts_of an_cuts_of od_with_pair an_with_pair od_check_number an_check_number od_inner_cuts an_inner_cuts od_rows_within an_rows_within od_sides_of an_sides_of od_whole_box an_whole_box od_is_seen an_is_seen od_check_keys an_check_keys od_check_two an_check_two od_check_worths an_check_worths od_rows_of an_rows_of od_node_for an_node_for od_walked an_walked od_lot_of an_lot_of od_tree_for an_tree_for od_members_of an_members_of od_wrong_at an_wrong_at od_wrong_lot an_wrong_lot od_sets_by an_sets_by od_wrong_node an_wrong_node od_wrong_tree an_wrong_tree od_law_is_brought an_law_is_brought od_law_pick an_law_pick od_law_set an_law_set od_law_side an_law_side od_law_worths an_law_worths od_law_query an_law_query od_law_kind an_law_kind od_law_spoilt an_law_spoilt od_low_of an_low_of od_law an_law : Option Addr} {slCK_init slCK_place slCK_is_event slCS_init slCS_told slCS_is_empty slCS_lets slCS_places slCE_init slCE_form slCW_init slCW_form slCB_init slCB_form slCN_init slCN_form slCP_init slCP_form slCL_init slCL_form sl_law_number sl_law_take sl_normal sl_union sl_others sl_meet sl_has sl_some_member sl_is_whole sl_is_interval sl_is_name sl_cuts_of sl_with_pair sl_check_number sl_inner_cuts sl_rows_within sl_sides_of sl_whole_box sl_is_seen sl_check_keys sl_check_two sl_check_worths sl_rows_of sl_node_for sl_walked sl_lot_of sl_tree_for sl_members_of sl_wrong_at sl_wrong_lot sl_sets_by sl_wrong_node sl_wrong_tree sl_law_is_brought sl_law_pick sl_law_set sl_law_side sl_law_worths sl_law_query sl_law_kind sl_law_spoilt sl_low_of sl_law : Array (Option Value)} {ocCK_init kVCK_init dcCK_init pmCK_init cdCK_init ctCK_init ocCK_place kVCK_place dcCK_place pmCK_place cdCK_place ctCK_place ocCK_is_event kVCK_is_event dcCK_is_event pmCK_is_event cdCK_is_event ctCK_is_event ocCS_init kVCS_init dcCS_init pmCS_init cdCS_init ctCS_init ocCS_told kVCS_told dcCS_told pmCS_told cdCS_told ctCS_told ocCS_is_empty kVCS_is_empty dcCS_is_empty pmCS_is_empty cdCS_is_empty ctCS_is_empty ocCS_lets kVCS_lets dcCS_lets pmCS_lets cdCS_lets ctCS_lets ocCS_places kVCS_places dcCS_places pmCS_places cdCS_places ctCS_places ocCE_init kVCE_init dcCE_init pmCE_init cdCE_init ctCE_init ocCE_form kVCE_form dcCE_form pmCE_form cdCE_form ctCE_form ocCW_init kVCW_init dcCW_init pmCW_init cdCW_init ctCW_init ocCW_form kVCW_form dcCW_form pmCW_form cdCW_form ctCW_form ocCB_init kVCB_init dcCB_init pmCB_init cdCB_init ctCB_init ocCB_form kVCB_form dcCB_form pmCB_form cdCB_form ctCB_form ocCN_init kVCN_init dcCN_init pmCN_init cdCN_init ctCN_init ocCN_form kVCN_form dcCN_form pmCN_form cdCN_form ctCN_form ocCP_init kVCP_init dcCP_init pmCP_init cdCP_init ctCP_init ocCP_form kVCP_form dcCP_form pmCP_form cdCP_form ctCP_form ocCL_init kVCL_init dcCL_init pmCL_init cdCL_init ctCL_init ocCL_form kVCL_form dcCL_form pmCL_form cdCL_form ctCL_form oc_law_number kV_law_number dc_law_number pm_law_number cd_law_number ct_law_number oc_law_take kV_law_take dc_law_take pm_law_take cd_law_take ct_law_take oc_normal kV_normal dc_normal pm_normal cd_normal ct_normal oc_union kV_union dc_union pm_union cd_union ct_union oc_others kV_others dc_others pm_others cd_others ct_others oc_meet kV_meet dc_meet pm_meet cd_meet ct_meet oc_has kV_has dc_has pm_has cd_has ct_has oc_some_member kV_some_member dc_some_member pm_some_member cd_some_member ct_some_member oc_is_whole kV_is_whole dc_is_whole pm_is_whole cd_is_whole ct_is_whole oc_is_interval kV_is_interval dc_is_interval pm_is_interval cd_is_interval ct_is_interval oc_is_name kV_is_name dc_is_name pm_is_name cd_is_name ct_is_name oc_cuts_of kV_cuts_of dc_cuts_of pm_cuts_of cd_cuts_of ct_cuts_of oc_with_pair kV_with_pair dc_with_pair pm_with_pair cd_with_pair ct_with_pair oc_check_number kV_check_number dc_check_number pm_check_number cd_check_number ct_check_number oc_inner_cuts kV_inner_cuts dc_inner_cuts pm_inner_cuts cd_inner_cuts ct_inner_cuts oc_rows_within kV_rows_within dc_rows_within pm_rows_within cd_rows_within ct_rows_within oc_sides_of kV_sides_of dc_sides_of pm_sides_of cd_sides_of ct_sides_of oc_whole_box kV_whole_box dc_whole_box pm_whole_box cd_whole_box ct_whole_box oc_is_seen kV_is_seen dc_is_seen pm_is_seen cd_is_seen ct_is_seen oc_check_keys kV_check_keys dc_check_keys pm_check_keys cd_check_keys ct_check_keys oc_check_two kV_check_two dc_check_two pm_check_two cd_check_two ct_check_two oc_check_worths kV_check_worths dc_check_worths pm_check_worths cd_check_worths ct_check_worths oc_rows_of kV_rows_of dc_rows_of pm_rows_of cd_rows_of ct_rows_of oc_node_for kV_node_for dc_node_for pm_node_for cd_node_for ct_node_for oc_walked kV_walked dc_walked pm_walked cd_walked ct_walked oc_lot_of kV_lot_of dc_lot_of pm_lot_of cd_lot_of ct_lot_of oc_tree_for kV_tree_for dc_tree_for pm_tree_for cd_tree_for ct_tree_for oc_members_of kV_members_of dc_members_of pm_members_of cd_members_of ct_members_of oc_wrong_at kV_wrong_at dc_wrong_at pm_wrong_at cd_wrong_at ct_wrong_at oc_wrong_lot kV_wrong_lot dc_wrong_lot pm_wrong_lot cd_wrong_lot ct_wrong_lot oc_sets_by kV_sets_by dc_sets_by pm_sets_by cd_sets_by ct_sets_by oc_wrong_node kV_wrong_node dc_wrong_node pm_wrong_node cd_wrong_node ct_wrong_node oc_wrong_tree kV_wrong_tree dc_wrong_tree pm_wrong_tree cd_wrong_tree ct_wrong_tree oc_law_is_brought kV_law_is_brought dc_law_is_brought pm_law_is_brought cd_law_is_brought ct_law_is_brought oc_law_pick kV_law_pick dc_law_pick pm_law_pick cd_law_pick ct_law_pick oc_law_set kV_law_set dc_law_set pm_law_set cd_law_set ct_law_set oc_law_side kV_law_side dc_law_side pm_law_side cd_law_side ct_law_side oc_law_worths kV_law_worths dc_law_worths pm_law_worths cd_law_worths ct_law_worths oc_law_query kV_law_query dc_law_query pm_law_query cd_law_query ct_law_query oc_law_kind kV_law_kind dc_law_kind pm_law_kind cd_law_kind ct_law_kind oc_law_spoilt kV_law_spoilt dc_law_spoilt pm_law_spoilt cd_law_spoilt ct_law_spoilt oc_low_of kV_low_of dc_low_of pm_low_of cd_low_of ct_low_of oc_law kV_law dc_law pm_law cd_law ct_law : Value} {E0 E1 : Addr} {od0E od1E : Option Addr} {n0E n1E : Nat} {sl0E sl1E : Array (Option Value)} {N0 : Addr} {odN0 : Option Addr} {nN0 : Nat} {slN0 : Array (Option Value)} {F0 : Addr} {nF0 : Nat} {slF0 : Array (Option Value)} {tk0F tk1F : Tok} {G0 : Addr} {odG0 : Option Addr} {nG0 : Nat} {slG0 : Array (Option Value)} {tk0G tk1G tk2G tk3G : Tok} {H0 : Addr} {odH0 : Option Addr} {nH0 : Nat} {slH0 : Array (Option Value)} {tk0H tk1H tk2H : Tok} {tkL : Tok}
    (aCK : PySem.W.nsIn K mainGlobals "Kinds" = some (some (.ref CK)))
    (pgCK : PySem.W.plainGet K CK Str.empty = true) (hdCK : PySem.W.hasDictIn K CK = true) (poCK : PySem.W.plainOver K CK = true) (saCK : PySem.W.findIn K (.ref CK) "__setattr__" = some (some (.builtin "object.__setattr__"))) (mkCK : PySem.W.makesIn K CK = true) (kcCK : PySem.W.keepIn K (.ref CK) = true)
    (nCK_fields : PySem.W.findIn K (.ref CK) "fields" = some none)
    (aCK_init : PySem.W.findIn K (.ref CK) "__init__" = some (some (.ref fCK_init))) (iCK_init : PySem.W.isFn K (.ref fCK_init) = true)
    (lCK_init : K.lookup fCK_init = some ⟨ocCK_init, odCK_init, .func (PySem.W.fnOf "__init__" "Kinds.__init__" (defArgs sKinds_init) (defBody sKinds_init) (defScope sKinds_init) .none kVCK_init dcCK_init pmCK_init anCK_init cdCK_init ctCK_init), slCK_init⟩) (cCK_init : PySem.W.codeIn K cdCK_init "Kinds.__init__" = true) (kCK_init : PySem.W.keepIn K (.ref fCK_init) = true)
    (aCK_place : PySem.W.findIn K (.ref CK) "place" = some (some (.ref fCK_place))) (iCK_place : PySem.W.isFn K (.ref fCK_place) = true)
    (lCK_place : K.lookup fCK_place = some ⟨ocCK_place, odCK_place, .func (PySem.W.fnOf "place" "Kinds.place" (defArgs sKinds_place) (defBody sKinds_place) (defScope sKinds_place) .none kVCK_place dcCK_place pmCK_place anCK_place cdCK_place ctCK_place), slCK_place⟩) (cCK_place : PySem.W.codeIn K cdCK_place "Kinds.place" = true) (kCK_place : PySem.W.keepIn K (.ref fCK_place) = true)
    (aCK_is_event : PySem.W.findIn K (.ref CK) "is_event" = some (some (.ref fCK_is_event))) (iCK_is_event : PySem.W.isFn K (.ref fCK_is_event) = true)
    (lCK_is_event : K.lookup fCK_is_event = some ⟨ocCK_is_event, odCK_is_event, .func (PySem.W.fnOf "is_event" "Kinds.is_event" (defArgs sKinds_is_event) (defBody sKinds_is_event) (defScope sKinds_is_event) .none kVCK_is_event dcCK_is_event pmCK_is_event anCK_is_event cdCK_is_event ctCK_is_event), slCK_is_event⟩) (cCK_is_event : PySem.W.codeIn K cdCK_is_event "Kinds.is_event" = true) (kCK_is_event : PySem.W.keepIn K (.ref fCK_is_event) = true)
    (aCS : PySem.W.nsIn K mainGlobals "Side" = some (some (.ref CS)))
    (pgCS : PySem.W.plainGet K CS Str.empty = true) (hdCS : PySem.W.hasDictIn K CS = true) (poCS : PySem.W.plainOver K CS = true) (saCS : PySem.W.findIn K (.ref CS) "__setattr__" = some (some (.builtin "object.__setattr__"))) (mkCS : PySem.W.makesIn K CS = true) (kcCS : PySem.W.keepIn K (.ref CS) = true)
    (nCS_kinds : PySem.W.findIn K (.ref CS) "kinds" = some none)
    (nCS_kind : PySem.W.findIn K (.ref CS) "kind" = some none)
    (nCS_sets : PySem.W.findIn K (.ref CS) "sets" = some none)
    (aCS_init : PySem.W.findIn K (.ref CS) "__init__" = some (some (.ref fCS_init))) (iCS_init : PySem.W.isFn K (.ref fCS_init) = true)
    (lCS_init : K.lookup fCS_init = some ⟨ocCS_init, odCS_init, .func (PySem.W.fnOf "__init__" "Side.__init__" (defArgs sSide_init) (defBody sSide_init) (defScope sSide_init) .none kVCS_init dcCS_init pmCS_init anCS_init cdCS_init ctCS_init), slCS_init⟩) (cCS_init : PySem.W.codeIn K cdCS_init "Side.__init__" = true) (kCS_init : PySem.W.keepIn K (.ref fCS_init) = true)
    (aCS_told : PySem.W.findIn K (.ref CS) "told" = some (some (.ref fCS_told))) (iCS_told : PySem.W.isFn K (.ref fCS_told) = true)
    (lCS_told : K.lookup fCS_told = some ⟨ocCS_told, odCS_told, .func (PySem.W.fnOf "told" "Side.told" (defArgs sSide_told) (defBody sSide_told) (defScope sSide_told) .none kVCS_told dcCS_told pmCS_told anCS_told cdCS_told ctCS_told), slCS_told⟩) (cCS_told : PySem.W.codeIn K cdCS_told "Side.told" = true) (kCS_told : PySem.W.keepIn K (.ref fCS_told) = true)
    (aCS_is_empty : PySem.W.findIn K (.ref CS) "is_empty" = some (some (.ref fCS_is_empty))) (iCS_is_empty : PySem.W.isFn K (.ref fCS_is_empty) = true)
    (lCS_is_empty : K.lookup fCS_is_empty = some ⟨ocCS_is_empty, odCS_is_empty, .func (PySem.W.fnOf "is_empty" "Side.is_empty" (defArgs sSide_is_empty) (defBody sSide_is_empty) (defScope sSide_is_empty) .none kVCS_is_empty dcCS_is_empty pmCS_is_empty anCS_is_empty cdCS_is_empty ctCS_is_empty), slCS_is_empty⟩) (cCS_is_empty : PySem.W.codeIn K cdCS_is_empty "Side.is_empty" = true) (kCS_is_empty : PySem.W.keepIn K (.ref fCS_is_empty) = true)
    (aCS_lets : PySem.W.findIn K (.ref CS) "lets" = some (some (.ref fCS_lets))) (iCS_lets : PySem.W.isFn K (.ref fCS_lets) = true)
    (lCS_lets : K.lookup fCS_lets = some ⟨ocCS_lets, odCS_lets, .func (PySem.W.fnOf "lets" "Side.lets" (defArgs sSide_lets) (defBody sSide_lets) (defScope sSide_lets) .none kVCS_lets dcCS_lets pmCS_lets anCS_lets cdCS_lets ctCS_lets), slCS_lets⟩) (cCS_lets : PySem.W.codeIn K cdCS_lets "Side.lets" = true) (kCS_lets : PySem.W.keepIn K (.ref fCS_lets) = true)
    (aCS_places : PySem.W.findIn K (.ref CS) "places" = some (some (.ref fCS_places))) (iCS_places : PySem.W.isFn K (.ref fCS_places) = true)
    (lCS_places : K.lookup fCS_places = some ⟨ocCS_places, odCS_places, .func (PySem.W.fnOf "places" "Side.places" (defArgs sSide_places) (defBody sSide_places) (defScope sSide_places) .none kVCS_places dcCS_places pmCS_places anCS_places cdCS_places ctCS_places), slCS_places⟩) (cCS_places : PySem.W.codeIn K cdCS_places "Side.places" = true) (kCS_places : PySem.W.keepIn K (.ref fCS_places) = true)
    (aCE : PySem.W.nsIn K mainGlobals "Each" = some (some (.ref CE)))
    (pgCE : PySem.W.plainGet K CE Str.empty = true) (hdCE : PySem.W.hasDictIn K CE = true) (poCE : PySem.W.plainOver K CE = true) (saCE : PySem.W.findIn K (.ref CE) "__setattr__" = some (some (.builtin "object.__setattr__"))) (mkCE : PySem.W.makesIn K CE = true) (kcCE : PySem.W.keepIn K (.ref CE) = true)
    (nCE_side : PySem.W.findIn K (.ref CE) "side" = some none)
    (nCE_told : PySem.W.findIn K (.ref CE) "told" = some none)
    (aCE_init : PySem.W.findIn K (.ref CE) "__init__" = some (some (.ref fCE_init))) (iCE_init : PySem.W.isFn K (.ref fCE_init) = true)
    (lCE_init : K.lookup fCE_init = some ⟨ocCE_init, odCE_init, .func (PySem.W.fnOf "__init__" "Each.__init__" (defArgs sEach_init) (defBody sEach_init) (defScope sEach_init) .none kVCE_init dcCE_init pmCE_init anCE_init cdCE_init ctCE_init), slCE_init⟩) (cCE_init : PySem.W.codeIn K cdCE_init "Each.__init__" = true) (kCE_init : PySem.W.keepIn K (.ref fCE_init) = true)
    (aCE_form : PySem.W.findIn K (.ref CE) "form" = some (some (.ref fCE_form))) (iCE_form : PySem.W.isFn K (.ref fCE_form) = true)
    (lCE_form : K.lookup fCE_form = some ⟨ocCE_form, odCE_form, .func (PySem.W.fnOf "form" "Each.form" (defArgs sEach_form) (defBody sEach_form) (defScope sEach_form) .none kVCE_form dcCE_form pmCE_form anCE_form cdCE_form ctCE_form), slCE_form⟩) (cCE_form : PySem.W.codeIn K cdCE_form "Each.form" = true) (kCE_form : PySem.W.keepIn K (.ref fCE_form) = true)
    (aCW : PySem.W.nsIn K mainGlobals "Windows" = some (some (.ref CW)))
    (pgCW : PySem.W.plainGet K CW Str.empty = true) (hdCW : PySem.W.hasDictIn K CW = true) (poCW : PySem.W.plainOver K CW = true) (saCW : PySem.W.findIn K (.ref CW) "__setattr__" = some (some (.builtin "object.__setattr__"))) (mkCW : PySem.W.makesIn K CW = true) (kcCW : PySem.W.keepIn K (.ref CW) = true)
    (nCW_side : PySem.W.findIn K (.ref CW) "side" = some none)
    (nCW_by : PySem.W.findIn K (.ref CW) "by" = some none)
    (nCW_length : PySem.W.findIn K (.ref CW) "length" = some none)
    (nCW_step : PySem.W.findIn K (.ref CW) "step" = some none)
    (nCW_worths : PySem.W.findIn K (.ref CW) "worths" = some none)
    (aCW_init : PySem.W.findIn K (.ref CW) "__init__" = some (some (.ref fCW_init))) (iCW_init : PySem.W.isFn K (.ref fCW_init) = true)
    (lCW_init : K.lookup fCW_init = some ⟨ocCW_init, odCW_init, .func (PySem.W.fnOf "__init__" "Windows.__init__" (defArgs sWindows_init) (defBody sWindows_init) (defScope sWindows_init) .none kVCW_init dcCW_init pmCW_init anCW_init cdCW_init ctCW_init), slCW_init⟩) (cCW_init : PySem.W.codeIn K cdCW_init "Windows.__init__" = true) (kCW_init : PySem.W.keepIn K (.ref fCW_init) = true)
    (aCW_form : PySem.W.findIn K (.ref CW) "form" = some (some (.ref fCW_form))) (iCW_form : PySem.W.isFn K (.ref fCW_form) = true)
    (lCW_form : K.lookup fCW_form = some ⟨ocCW_form, odCW_form, .func (PySem.W.fnOf "form" "Windows.form" (defArgs sWindows_form) (defBody sWindows_form) (defScope sWindows_form) .none kVCW_form dcCW_form pmCW_form anCW_form cdCW_form ctCW_form), slCW_form⟩) (cCW_form : PySem.W.codeIn K cdCW_form "Windows.form" = true) (kCW_form : PySem.W.keepIn K (.ref fCW_form) = true)
    (aCB : PySem.W.nsIn K mainGlobals "Blocks" = some (some (.ref CB)))
    (pgCB : PySem.W.plainGet K CB Str.empty = true) (hdCB : PySem.W.hasDictIn K CB = true) (poCB : PySem.W.plainOver K CB = true) (saCB : PySem.W.findIn K (.ref CB) "__setattr__" = some (some (.builtin "object.__setattr__"))) (mkCB : PySem.W.makesIn K CB = true) (kcCB : PySem.W.keepIn K (.ref CB) = true)
    (nCB_side : PySem.W.findIn K (.ref CB) "side" = some none)
    (nCB_by : PySem.W.findIn K (.ref CB) "by" = some none)
    (nCB_size : PySem.W.findIn K (.ref CB) "size" = some none)
    (nCB_worths : PySem.W.findIn K (.ref CB) "worths" = some none)
    (aCB_init : PySem.W.findIn K (.ref CB) "__init__" = some (some (.ref fCB_init))) (iCB_init : PySem.W.isFn K (.ref fCB_init) = true)
    (lCB_init : K.lookup fCB_init = some ⟨ocCB_init, odCB_init, .func (PySem.W.fnOf "__init__" "Blocks.__init__" (defArgs sBlocks_init) (defBody sBlocks_init) (defScope sBlocks_init) .none kVCB_init dcCB_init pmCB_init anCB_init cdCB_init ctCB_init), slCB_init⟩) (cCB_init : PySem.W.codeIn K cdCB_init "Blocks.__init__" = true) (kCB_init : PySem.W.keepIn K (.ref fCB_init) = true)
    (aCB_form : PySem.W.findIn K (.ref CB) "form" = some (some (.ref fCB_form))) (iCB_form : PySem.W.isFn K (.ref fCB_form) = true)
    (lCB_form : K.lookup fCB_form = some ⟨ocCB_form, odCB_form, .func (PySem.W.fnOf "form" "Blocks.form" (defArgs sBlocks_form) (defBody sBlocks_form) (defScope sBlocks_form) .none kVCB_form dcCB_form pmCB_form anCB_form cdCB_form ctCB_form), slCB_form⟩) (cCB_form : PySem.W.codeIn K cdCB_form "Blocks.form" = true) (kCB_form : PySem.W.keepIn K (.ref fCB_form) = true)
    (aCN : PySem.W.nsIn K mainGlobals "Sessions" = some (some (.ref CN)))
    (pgCN : PySem.W.plainGet K CN Str.empty = true) (hdCN : PySem.W.hasDictIn K CN = true) (poCN : PySem.W.plainOver K CN = true) (saCN : PySem.W.findIn K (.ref CN) "__setattr__" = some (some (.builtin "object.__setattr__"))) (mkCN : PySem.W.makesIn K CN = true) (kcCN : PySem.W.keepIn K (.ref CN) = true)
    (nCN_side : PySem.W.findIn K (.ref CN) "side" = some none)
    (nCN_by : PySem.W.findIn K (.ref CN) "by" = some none)
    (nCN_gap : PySem.W.findIn K (.ref CN) "gap" = some none)
    (nCN_worths : PySem.W.findIn K (.ref CN) "worths" = some none)
    (aCN_init : PySem.W.findIn K (.ref CN) "__init__" = some (some (.ref fCN_init))) (iCN_init : PySem.W.isFn K (.ref fCN_init) = true)
    (lCN_init : K.lookup fCN_init = some ⟨ocCN_init, odCN_init, .func (PySem.W.fnOf "__init__" "Sessions.__init__" (defArgs sSessions_init) (defBody sSessions_init) (defScope sSessions_init) .none kVCN_init dcCN_init pmCN_init anCN_init cdCN_init ctCN_init), slCN_init⟩) (cCN_init : PySem.W.codeIn K cdCN_init "Sessions.__init__" = true) (kCN_init : PySem.W.keepIn K (.ref fCN_init) = true)
    (aCN_form : PySem.W.findIn K (.ref CN) "form" = some (some (.ref fCN_form))) (iCN_form : PySem.W.isFn K (.ref fCN_form) = true)
    (lCN_form : K.lookup fCN_form = some ⟨ocCN_form, odCN_form, .func (PySem.W.fnOf "form" "Sessions.form" (defArgs sSessions_form) (defBody sSessions_form) (defScope sSessions_form) .none kVCN_form dcCN_form pmCN_form anCN_form cdCN_form ctCN_form), slCN_form⟩) (cCN_form : PySem.W.codeIn K cdCN_form "Sessions.form" = true) (kCN_form : PySem.W.keepIn K (.ref fCN_form) = true)
    (aCP : PySem.W.nsIn K mainGlobals "Pairs" = some (some (.ref CP)))
    (pgCP : PySem.W.plainGet K CP Str.empty = true) (hdCP : PySem.W.hasDictIn K CP = true) (poCP : PySem.W.plainOver K CP = true) (saCP : PySem.W.findIn K (.ref CP) "__setattr__" = some (some (.builtin "object.__setattr__"))) (mkCP : PySem.W.makesIn K CP = true) (kcCP : PySem.W.keepIn K (.ref CP) = true)
    (nCP_first : PySem.W.findIn K (.ref CP) "first" = some none)
    (nCP_second : PySem.W.findIn K (.ref CP) "second" = some none)
    (nCP_first_keys : PySem.W.findIn K (.ref CP) "first_keys" = some none)
    (nCP_second_keys : PySem.W.findIn K (.ref CP) "second_keys" = some none)
    (nCP_mode : PySem.W.findIn K (.ref CP) "mode" = some none)
    (nCP_reach : PySem.W.findIn K (.ref CP) "reach" = some none)
    (nCP_first_told : PySem.W.findIn K (.ref CP) "first_told" = some none)
    (nCP_second_told : PySem.W.findIn K (.ref CP) "second_told" = some none)
    (aCP_init : PySem.W.findIn K (.ref CP) "__init__" = some (some (.ref fCP_init))) (iCP_init : PySem.W.isFn K (.ref fCP_init) = true)
    (lCP_init : K.lookup fCP_init = some ⟨ocCP_init, odCP_init, .func (PySem.W.fnOf "__init__" "Pairs.__init__" (defArgs sPairs_init) (defBody sPairs_init) (defScope sPairs_init) .none kVCP_init dcCP_init pmCP_init anCP_init cdCP_init ctCP_init), slCP_init⟩) (cCP_init : PySem.W.codeIn K cdCP_init "Pairs.__init__" = true) (kCP_init : PySem.W.keepIn K (.ref fCP_init) = true)
    (aCP_form : PySem.W.findIn K (.ref CP) "form" = some (some (.ref fCP_form))) (iCP_form : PySem.W.isFn K (.ref fCP_form) = true)
    (lCP_form : K.lookup fCP_form = some ⟨ocCP_form, odCP_form, .func (PySem.W.fnOf "form" "Pairs.form" (defArgs sPairs_form) (defBody sPairs_form) (defScope sPairs_form) .none kVCP_form dcCP_form pmCP_form anCP_form cdCP_form ctCP_form), slCP_form⟩) (cCP_form : PySem.W.codeIn K cdCP_form "Pairs.form" = true) (kCP_form : PySem.W.keepIn K (.ref fCP_form) = true)
    (aCL : PySem.W.nsIn K mainGlobals "Lonely" = some (some (.ref CL)))
    (pgCL : PySem.W.plainGet K CL Str.empty = true) (hdCL : PySem.W.hasDictIn K CL = true) (poCL : PySem.W.plainOver K CL = true) (saCL : PySem.W.findIn K (.ref CL) "__setattr__" = some (some (.builtin "object.__setattr__"))) (mkCL : PySem.W.makesIn K CL = true) (kcCL : PySem.W.keepIn K (.ref CL) = true)
    (nCL_first : PySem.W.findIn K (.ref CL) "first" = some none)
    (nCL_second : PySem.W.findIn K (.ref CL) "second" = some none)
    (nCL_first_keys : PySem.W.findIn K (.ref CL) "first_keys" = some none)
    (nCL_second_keys : PySem.W.findIn K (.ref CL) "second_keys" = some none)
    (nCL_reach : PySem.W.findIn K (.ref CL) "reach" = some none)
    (nCL_told : PySem.W.findIn K (.ref CL) "told" = some none)
    (aCL_init : PySem.W.findIn K (.ref CL) "__init__" = some (some (.ref fCL_init))) (iCL_init : PySem.W.isFn K (.ref fCL_init) = true)
    (lCL_init : K.lookup fCL_init = some ⟨ocCL_init, odCL_init, .func (PySem.W.fnOf "__init__" "Lonely.__init__" (defArgs sLonely_init) (defBody sLonely_init) (defScope sLonely_init) .none kVCL_init dcCL_init pmCL_init anCL_init cdCL_init ctCL_init), slCL_init⟩) (cCL_init : PySem.W.codeIn K cdCL_init "Lonely.__init__" = true) (kCL_init : PySem.W.keepIn K (.ref fCL_init) = true)
    (aCL_form : PySem.W.findIn K (.ref CL) "form" = some (some (.ref fCL_form))) (iCL_form : PySem.W.isFn K (.ref fCL_form) = true)
    (lCL_form : K.lookup fCL_form = some ⟨ocCL_form, odCL_form, .func (PySem.W.fnOf "form" "Lonely.form" (defArgs sLonely_form) (defBody sLonely_form) (defScope sLonely_form) .none kVCL_form dcCL_form pmCL_form anCL_form cdCL_form ctCL_form), slCL_form⟩) (cCL_form : PySem.W.codeIn K cdCL_form "Lonely.form" = true) (kCL_form : PySem.W.keepIn K (.ref fCL_form) = true)
    (a_law_number : PySem.W.nsIn K mainGlobals "_law_number" = some (some (.ref f_law_number)))
    (l_law_number : K.lookup f_law_number = some ⟨oc_law_number, od_law_number, .func (PySem.W.fnOf "_law_number" "_law_number" (defArgs sL_number) (defBody sL_number) (defScope sL_number) .none kV_law_number dc_law_number pm_law_number an_law_number cd_law_number ct_law_number), sl_law_number⟩) (c_law_number : PySem.W.codeIn K cd_law_number "_law_number" = true) (k_law_number : PySem.W.keepIn K (.ref f_law_number) = true)
    (a_law_take : PySem.W.nsIn K mainGlobals "_law_take" = some (some (.ref f_law_take)))
    (l_law_take : K.lookup f_law_take = some ⟨oc_law_take, od_law_take, .func (PySem.W.fnOf "_law_take" "_law_take" (defArgs sL_take) (defBody sL_take) (defScope sL_take) .none kV_law_take dc_law_take pm_law_take an_law_take cd_law_take ct_law_take), sl_law_take⟩) (c_law_take : PySem.W.codeIn K cd_law_take "_law_take" = true) (k_law_take : PySem.W.keepIn K (.ref f_law_take) = true)
    (a_normal : PySem.W.nsIn K mainGlobals "normal" = some (some (.ref f_normal)))
    (l_normal : K.lookup f_normal = some ⟨oc_normal, od_normal, .func (PySem.W.fnOf "normal" "normal" (defArgs snormal) (defBody snormal) (defScope snormal) .none kV_normal dc_normal pm_normal an_normal cd_normal ct_normal), sl_normal⟩) (c_normal : PySem.W.codeIn K cd_normal "normal" = true) (k_normal : PySem.W.keepIn K (.ref f_normal) = true)
    (a_union : PySem.W.nsIn K mainGlobals "union" = some (some (.ref f_union)))
    (l_union : K.lookup f_union = some ⟨oc_union, od_union, .func (PySem.W.fnOf "union" "union" (defArgs sunion) (defBody sunion) (defScope sunion) .none kV_union dc_union pm_union an_union cd_union ct_union), sl_union⟩) (c_union : PySem.W.codeIn K cd_union "union" = true) (k_union : PySem.W.keepIn K (.ref f_union) = true)
    (a_others : PySem.W.nsIn K mainGlobals "others" = some (some (.ref f_others)))
    (l_others : K.lookup f_others = some ⟨oc_others, od_others, .func (PySem.W.fnOf "others" "others" (defArgs sothers) (defBody sothers) (defScope sothers) .none kV_others dc_others pm_others an_others cd_others ct_others), sl_others⟩) (c_others : PySem.W.codeIn K cd_others "others" = true) (k_others : PySem.W.keepIn K (.ref f_others) = true)
    (a_meet : PySem.W.nsIn K mainGlobals "meet" = some (some (.ref f_meet)))
    (l_meet : K.lookup f_meet = some ⟨oc_meet, od_meet, .func (PySem.W.fnOf "meet" "meet" (defArgs smeet) (defBody smeet) (defScope smeet) .none kV_meet dc_meet pm_meet an_meet cd_meet ct_meet), sl_meet⟩) (c_meet : PySem.W.codeIn K cd_meet "meet" = true) (k_meet : PySem.W.keepIn K (.ref f_meet) = true)
    (a_has : PySem.W.nsIn K mainGlobals "has" = some (some (.ref f_has)))
    (l_has : K.lookup f_has = some ⟨oc_has, od_has, .func (PySem.W.fnOf "has" "has" (defArgs shas) (defBody shas) (defScope shas) .none kV_has dc_has pm_has an_has cd_has ct_has), sl_has⟩) (c_has : PySem.W.codeIn K cd_has "has" = true) (k_has : PySem.W.keepIn K (.ref f_has) = true)
    (a_some_member : PySem.W.nsIn K mainGlobals "some_member" = some (some (.ref f_some_member)))
    (l_some_member : K.lookup f_some_member = some ⟨oc_some_member, od_some_member, .func (PySem.W.fnOf "some_member" "some_member" (defArgs ssome_member) (defBody ssome_member) (defScope ssome_member) .none kV_some_member dc_some_member pm_some_member an_some_member cd_some_member ct_some_member), sl_some_member⟩) (c_some_member : PySem.W.codeIn K cd_some_member "some_member" = true) (k_some_member : PySem.W.keepIn K (.ref f_some_member) = true)
    (a_is_whole : PySem.W.nsIn K mainGlobals "is_whole" = some (some (.ref f_is_whole)))
    (l_is_whole : K.lookup f_is_whole = some ⟨oc_is_whole, od_is_whole, .func (PySem.W.fnOf "is_whole" "is_whole" (defArgs sis_whole) (defBody sis_whole) (defScope sis_whole) .none kV_is_whole dc_is_whole pm_is_whole an_is_whole cd_is_whole ct_is_whole), sl_is_whole⟩) (c_is_whole : PySem.W.codeIn K cd_is_whole "is_whole" = true) (k_is_whole : PySem.W.keepIn K (.ref f_is_whole) = true)
    (a_is_interval : PySem.W.nsIn K mainGlobals "is_interval" = some (some (.ref f_is_interval)))
    (l_is_interval : K.lookup f_is_interval = some ⟨oc_is_interval, od_is_interval, .func (PySem.W.fnOf "is_interval" "is_interval" (defArgs sis_interval) (defBody sis_interval) (defScope sis_interval) .none kV_is_interval dc_is_interval pm_is_interval an_is_interval cd_is_interval ct_is_interval), sl_is_interval⟩) (c_is_interval : PySem.W.codeIn K cd_is_interval "is_interval" = true) (k_is_interval : PySem.W.keepIn K (.ref f_is_interval) = true)
    (a_is_name : PySem.W.nsIn K mainGlobals "is_name" = some (some (.ref f_is_name)))
    (l_is_name : K.lookup f_is_name = some ⟨oc_is_name, od_is_name, .func (PySem.W.fnOf "is_name" "is_name" (defArgs sis_name) (defBody sis_name) (defScope sis_name) .none kV_is_name dc_is_name pm_is_name an_is_name cd_is_name ct_is_name), sl_is_name⟩) (c_is_name : PySem.W.codeIn K cd_is_name "is_name" = true) (k_is_name : PySem.W.keepIn K (.ref f_is_name) = true)
    (a_cuts_of : PySem.W.nsIn K mainGlobals "cuts_of" = some (some (.ref f_cuts_of)))
    (l_cuts_of : K.lookup f_cuts_of = some ⟨oc_cuts_of, od_cuts_of, .func (PySem.W.fnOf "cuts_of" "cuts_of" (defArgs scuts_of) (defBody scuts_of) (defScope scuts_of) .none kV_cuts_of dc_cuts_of pm_cuts_of an_cuts_of cd_cuts_of ct_cuts_of), sl_cuts_of⟩) (c_cuts_of : PySem.W.codeIn K cd_cuts_of "cuts_of" = true) (k_cuts_of : PySem.W.keepIn K (.ref f_cuts_of) = true)
    (a_with_pair : PySem.W.nsIn K mainGlobals "with_pair" = some (some (.ref f_with_pair)))
    (l_with_pair : K.lookup f_with_pair = some ⟨oc_with_pair, od_with_pair, .func (PySem.W.fnOf "with_pair" "with_pair" (defArgs swith_pair) (defBody swith_pair) (defScope swith_pair) .none kV_with_pair dc_with_pair pm_with_pair an_with_pair cd_with_pair ct_with_pair), sl_with_pair⟩) (c_with_pair : PySem.W.codeIn K cd_with_pair "with_pair" = true) (k_with_pair : PySem.W.keepIn K (.ref f_with_pair) = true)
    (a_check_number : PySem.W.nsIn K mainGlobals "check_number" = some (some (.ref f_check_number)))
    (l_check_number : K.lookup f_check_number = some ⟨oc_check_number, od_check_number, .func (PySem.W.fnOf "check_number" "check_number" (defArgs scheck_number) (defBody scheck_number) (defScope scheck_number) .none kV_check_number dc_check_number pm_check_number an_check_number cd_check_number ct_check_number), sl_check_number⟩) (c_check_number : PySem.W.codeIn K cd_check_number "check_number" = true) (k_check_number : PySem.W.keepIn K (.ref f_check_number) = true)
    (a_inner_cuts : PySem.W.nsIn K mainGlobals "inner_cuts" = some (some (.ref f_inner_cuts)))
    (l_inner_cuts : K.lookup f_inner_cuts = some ⟨oc_inner_cuts, od_inner_cuts, .func (PySem.W.fnOf "inner_cuts" "inner_cuts" (defArgs sinner_cuts) (defBody sinner_cuts) (defScope sinner_cuts) .none kV_inner_cuts dc_inner_cuts pm_inner_cuts an_inner_cuts cd_inner_cuts ct_inner_cuts), sl_inner_cuts⟩) (c_inner_cuts : PySem.W.codeIn K cd_inner_cuts "inner_cuts" = true) (k_inner_cuts : PySem.W.keepIn K (.ref f_inner_cuts) = true)
    (a_rows_within : PySem.W.nsIn K mainGlobals "rows_within" = some (some (.ref f_rows_within)))
    (l_rows_within : K.lookup f_rows_within = some ⟨oc_rows_within, od_rows_within, .func (PySem.W.fnOf "rows_within" "rows_within" (defArgs srows_within) (defBody srows_within) (defScope srows_within) .none kV_rows_within dc_rows_within pm_rows_within an_rows_within cd_rows_within ct_rows_within), sl_rows_within⟩) (c_rows_within : PySem.W.codeIn K cd_rows_within "rows_within" = true) (k_rows_within : PySem.W.keepIn K (.ref f_rows_within) = true)
    (a_sides_of : PySem.W.nsIn K mainGlobals "sides_of" = some (some (.ref f_sides_of)))
    (l_sides_of : K.lookup f_sides_of = some ⟨oc_sides_of, od_sides_of, .func (PySem.W.fnOf "sides_of" "sides_of" (defArgs ssides_of) (defBody ssides_of) (defScope ssides_of) .none kV_sides_of dc_sides_of pm_sides_of an_sides_of cd_sides_of ct_sides_of), sl_sides_of⟩) (c_sides_of : PySem.W.codeIn K cd_sides_of "sides_of" = true) (k_sides_of : PySem.W.keepIn K (.ref f_sides_of) = true)
    (a_whole_box : PySem.W.nsIn K mainGlobals "whole_box" = some (some (.ref f_whole_box)))
    (l_whole_box : K.lookup f_whole_box = some ⟨oc_whole_box, od_whole_box, .func (PySem.W.fnOf "whole_box" "whole_box" (defArgs swhole_box) (defBody swhole_box) (defScope swhole_box) .none kV_whole_box dc_whole_box pm_whole_box an_whole_box cd_whole_box ct_whole_box), sl_whole_box⟩) (c_whole_box : PySem.W.codeIn K cd_whole_box "whole_box" = true) (k_whole_box : PySem.W.keepIn K (.ref f_whole_box) = true)
    (a_is_seen : PySem.W.nsIn K mainGlobals "is_seen" = some (some (.ref f_is_seen)))
    (l_is_seen : K.lookup f_is_seen = some ⟨oc_is_seen, od_is_seen, .func (PySem.W.fnOf "is_seen" "is_seen" (defArgs sis_seen) (defBody sis_seen) (defScope sis_seen) .none kV_is_seen dc_is_seen pm_is_seen an_is_seen cd_is_seen ct_is_seen), sl_is_seen⟩) (c_is_seen : PySem.W.codeIn K cd_is_seen "is_seen" = true) (k_is_seen : PySem.W.keepIn K (.ref f_is_seen) = true)
    (a_check_keys : PySem.W.nsIn K mainGlobals "check_keys" = some (some (.ref f_check_keys)))
    (l_check_keys : K.lookup f_check_keys = some ⟨oc_check_keys, od_check_keys, .func (PySem.W.fnOf "check_keys" "check_keys" (defArgs scheck_keys) (defBody scheck_keys) (defScope scheck_keys) .none kV_check_keys dc_check_keys pm_check_keys an_check_keys cd_check_keys ct_check_keys), sl_check_keys⟩) (c_check_keys : PySem.W.codeIn K cd_check_keys "check_keys" = true) (k_check_keys : PySem.W.keepIn K (.ref f_check_keys) = true)
    (a_check_two : PySem.W.nsIn K mainGlobals "check_two" = some (some (.ref f_check_two)))
    (l_check_two : K.lookup f_check_two = some ⟨oc_check_two, od_check_two, .func (PySem.W.fnOf "check_two" "check_two" (defArgs scheck_two) (defBody scheck_two) (defScope scheck_two) .none kV_check_two dc_check_two pm_check_two an_check_two cd_check_two ct_check_two), sl_check_two⟩) (c_check_two : PySem.W.codeIn K cd_check_two "check_two" = true) (k_check_two : PySem.W.keepIn K (.ref f_check_two) = true)
    (a_check_worths : PySem.W.nsIn K mainGlobals "check_worths" = some (some (.ref f_check_worths)))
    (l_check_worths : K.lookup f_check_worths = some ⟨oc_check_worths, od_check_worths, .func (PySem.W.fnOf "check_worths" "check_worths" (defArgs scheck_worths) (defBody scheck_worths) (defScope scheck_worths) .none kV_check_worths dc_check_worths pm_check_worths an_check_worths cd_check_worths ct_check_worths), sl_check_worths⟩) (c_check_worths : PySem.W.codeIn K cd_check_worths "check_worths" = true) (k_check_worths : PySem.W.keepIn K (.ref f_check_worths) = true)
    (a_rows_of : PySem.W.nsIn K mainGlobals "rows_of" = some (some (.ref f_rows_of)))
    (l_rows_of : K.lookup f_rows_of = some ⟨oc_rows_of, od_rows_of, .func (PySem.W.fnOf "rows_of" "rows_of" (defArgs srows_of) (defBody srows_of) (defScope srows_of) .none kV_rows_of dc_rows_of pm_rows_of an_rows_of cd_rows_of ct_rows_of), sl_rows_of⟩) (c_rows_of : PySem.W.codeIn K cd_rows_of "rows_of" = true) (k_rows_of : PySem.W.keepIn K (.ref f_rows_of) = true)
    (a_node_for : PySem.W.nsIn K mainGlobals "node_for" = some (some (.ref f_node_for)))
    (l_node_for : K.lookup f_node_for = some ⟨oc_node_for, od_node_for, .func (PySem.W.fnOf "node_for" "node_for" (defArgs snode_for) (defBody snode_for) (defScope snode_for) .none kV_node_for dc_node_for pm_node_for an_node_for cd_node_for ct_node_for), sl_node_for⟩) (c_node_for : PySem.W.codeIn K cd_node_for "node_for" = true) (k_node_for : PySem.W.keepIn K (.ref f_node_for) = true)
    (a_walked : PySem.W.nsIn K mainGlobals "walked" = some (some (.ref f_walked)))
    (l_walked : K.lookup f_walked = some ⟨oc_walked, od_walked, .func (PySem.W.fnOf "walked" "walked" (defArgs swalked) (defBody swalked) (defScope swalked) .none kV_walked dc_walked pm_walked an_walked cd_walked ct_walked), sl_walked⟩) (c_walked : PySem.W.codeIn K cd_walked "walked" = true) (k_walked : PySem.W.keepIn K (.ref f_walked) = true)
    (a_lot_of : PySem.W.nsIn K mainGlobals "lot_of" = some (some (.ref f_lot_of)))
    (l_lot_of : K.lookup f_lot_of = some ⟨oc_lot_of, od_lot_of, .func (PySem.W.fnOf "lot_of" "lot_of" (defArgs slot_of) (defBody slot_of) (defScope slot_of) .none kV_lot_of dc_lot_of pm_lot_of an_lot_of cd_lot_of ct_lot_of), sl_lot_of⟩) (c_lot_of : PySem.W.codeIn K cd_lot_of "lot_of" = true) (k_lot_of : PySem.W.keepIn K (.ref f_lot_of) = true)
    (a_tree_for : PySem.W.nsIn K mainGlobals "tree_for" = some (some (.ref f_tree_for)))
    (l_tree_for : K.lookup f_tree_for = some ⟨oc_tree_for, od_tree_for, .func (PySem.W.fnOf "tree_for" "tree_for" (defArgs stree_for) (defBody stree_for) (defScope stree_for) .none kV_tree_for dc_tree_for pm_tree_for an_tree_for cd_tree_for ct_tree_for), sl_tree_for⟩) (c_tree_for : PySem.W.codeIn K cd_tree_for "tree_for" = true) (k_tree_for : PySem.W.keepIn K (.ref f_tree_for) = true)
    (a_members_of : PySem.W.nsIn K mainGlobals "members_of" = some (some (.ref f_members_of)))
    (l_members_of : K.lookup f_members_of = some ⟨oc_members_of, od_members_of, .func (PySem.W.fnOf "members_of" "members_of" (defArgs smembers_of) (defBody smembers_of) (defScope smembers_of) .none kV_members_of dc_members_of pm_members_of an_members_of cd_members_of ct_members_of), sl_members_of⟩) (c_members_of : PySem.W.codeIn K cd_members_of "members_of" = true) (k_members_of : PySem.W.keepIn K (.ref f_members_of) = true)
    (a_wrong_at : PySem.W.nsIn K mainGlobals "wrong_at" = some (some (.ref f_wrong_at)))
    (l_wrong_at : K.lookup f_wrong_at = some ⟨oc_wrong_at, od_wrong_at, .func (PySem.W.fnOf "wrong_at" "wrong_at" (defArgs swrong_at) (defBody swrong_at) (defScope swrong_at) .none kV_wrong_at dc_wrong_at pm_wrong_at an_wrong_at cd_wrong_at ct_wrong_at), sl_wrong_at⟩) (c_wrong_at : PySem.W.codeIn K cd_wrong_at "wrong_at" = true) (k_wrong_at : PySem.W.keepIn K (.ref f_wrong_at) = true)
    (a_wrong_lot : PySem.W.nsIn K mainGlobals "wrong_lot" = some (some (.ref f_wrong_lot)))
    (l_wrong_lot : K.lookup f_wrong_lot = some ⟨oc_wrong_lot, od_wrong_lot, .func (PySem.W.fnOf "wrong_lot" "wrong_lot" (defArgs swrong_lot) (defBody swrong_lot) (defScope swrong_lot) .none kV_wrong_lot dc_wrong_lot pm_wrong_lot an_wrong_lot cd_wrong_lot ct_wrong_lot), sl_wrong_lot⟩) (c_wrong_lot : PySem.W.codeIn K cd_wrong_lot "wrong_lot" = true) (k_wrong_lot : PySem.W.keepIn K (.ref f_wrong_lot) = true)
    (a_sets_by : PySem.W.nsIn K mainGlobals "sets_by" = some (some (.ref f_sets_by)))
    (l_sets_by : K.lookup f_sets_by = some ⟨oc_sets_by, od_sets_by, .func (PySem.W.fnOf "sets_by" "sets_by" (defArgs ssets_by) (defBody ssets_by) (defScope ssets_by) .none kV_sets_by dc_sets_by pm_sets_by an_sets_by cd_sets_by ct_sets_by), sl_sets_by⟩) (c_sets_by : PySem.W.codeIn K cd_sets_by "sets_by" = true) (k_sets_by : PySem.W.keepIn K (.ref f_sets_by) = true)
    (a_wrong_node : PySem.W.nsIn K mainGlobals "wrong_node" = some (some (.ref f_wrong_node)))
    (l_wrong_node : K.lookup f_wrong_node = some ⟨oc_wrong_node, od_wrong_node, .func (PySem.W.fnOf "wrong_node" "wrong_node" (defArgs swrong_node) (defBody swrong_node) (defScope swrong_node) .none kV_wrong_node dc_wrong_node pm_wrong_node an_wrong_node cd_wrong_node ct_wrong_node), sl_wrong_node⟩) (c_wrong_node : PySem.W.codeIn K cd_wrong_node "wrong_node" = true) (k_wrong_node : PySem.W.keepIn K (.ref f_wrong_node) = true)
    (a_wrong_tree : PySem.W.nsIn K mainGlobals "wrong_tree" = some (some (.ref f_wrong_tree)))
    (l_wrong_tree : K.lookup f_wrong_tree = some ⟨oc_wrong_tree, od_wrong_tree, .func (PySem.W.fnOf "wrong_tree" "wrong_tree" (defArgs swrong_tree) (defBody swrong_tree) (defScope swrong_tree) .none kV_wrong_tree dc_wrong_tree pm_wrong_tree an_wrong_tree cd_wrong_tree ct_wrong_tree), sl_wrong_tree⟩) (c_wrong_tree : PySem.W.codeIn K cd_wrong_tree "wrong_tree" = true) (k_wrong_tree : PySem.W.keepIn K (.ref f_wrong_tree) = true)
    (a_law_is_brought : PySem.W.nsIn K mainGlobals "_law_is_brought" = some (some (.ref f_law_is_brought)))
    (l_law_is_brought : K.lookup f_law_is_brought = some ⟨oc_law_is_brought, od_law_is_brought, .func (PySem.W.fnOf "_law_is_brought" "_law_is_brought" (defArgs sL_is_brought) (defBody sL_is_brought) (defScope sL_is_brought) .none kV_law_is_brought dc_law_is_brought pm_law_is_brought an_law_is_brought cd_law_is_brought ct_law_is_brought), sl_law_is_brought⟩) (c_law_is_brought : PySem.W.codeIn K cd_law_is_brought "_law_is_brought" = true) (k_law_is_brought : PySem.W.keepIn K (.ref f_law_is_brought) = true)
    (a_law_pick : PySem.W.nsIn K mainGlobals "_law_pick" = some (some (.ref f_law_pick)))
    (l_law_pick : K.lookup f_law_pick = some ⟨oc_law_pick, od_law_pick, .func (PySem.W.fnOf "_law_pick" "_law_pick" (defArgs sL_pick) (defBody sL_pick) (defScope sL_pick) .none kV_law_pick dc_law_pick pm_law_pick an_law_pick cd_law_pick ct_law_pick), sl_law_pick⟩) (c_law_pick : PySem.W.codeIn K cd_law_pick "_law_pick" = true) (k_law_pick : PySem.W.keepIn K (.ref f_law_pick) = true)
    (a_law_set : PySem.W.nsIn K mainGlobals "_law_set" = some (some (.ref f_law_set)))
    (l_law_set : K.lookup f_law_set = some ⟨oc_law_set, od_law_set, .func (PySem.W.fnOf "_law_set" "_law_set" (defArgs sL_set) (defBody sL_set) (defScope sL_set) .none kV_law_set dc_law_set pm_law_set an_law_set cd_law_set ct_law_set), sl_law_set⟩) (c_law_set : PySem.W.codeIn K cd_law_set "_law_set" = true) (k_law_set : PySem.W.keepIn K (.ref f_law_set) = true)
    (a_law_side : PySem.W.nsIn K mainGlobals "_law_side" = some (some (.ref f_law_side)))
    (l_law_side : K.lookup f_law_side = some ⟨oc_law_side, od_law_side, .func (PySem.W.fnOf "_law_side" "_law_side" (defArgs sL_side) (defBody sL_side) (defScope sL_side) .none kV_law_side dc_law_side pm_law_side an_law_side cd_law_side ct_law_side), sl_law_side⟩) (c_law_side : PySem.W.codeIn K cd_law_side "_law_side" = true) (k_law_side : PySem.W.keepIn K (.ref f_law_side) = true)
    (a_law_worths : PySem.W.nsIn K mainGlobals "_law_worths" = some (some (.ref f_law_worths)))
    (l_law_worths : K.lookup f_law_worths = some ⟨oc_law_worths, od_law_worths, .func (PySem.W.fnOf "_law_worths" "_law_worths" (defArgs sL_worths) (defBody sL_worths) (defScope sL_worths) .none kV_law_worths dc_law_worths pm_law_worths an_law_worths cd_law_worths ct_law_worths), sl_law_worths⟩) (c_law_worths : PySem.W.codeIn K cd_law_worths "_law_worths" = true) (k_law_worths : PySem.W.keepIn K (.ref f_law_worths) = true)
    (a_law_query : PySem.W.nsIn K mainGlobals "_law_query" = some (some (.ref f_law_query)))
    (l_law_query : K.lookup f_law_query = some ⟨oc_law_query, od_law_query, .func (PySem.W.fnOf "_law_query" "_law_query" (defArgs sL_query) (defBody sL_query) (defScope sL_query) .none kV_law_query dc_law_query pm_law_query an_law_query cd_law_query ct_law_query), sl_law_query⟩) (c_law_query : PySem.W.codeIn K cd_law_query "_law_query" = true) (k_law_query : PySem.W.keepIn K (.ref f_law_query) = true)
    (a_law_kind : PySem.W.nsIn K mainGlobals "_law_kind" = some (some (.ref f_law_kind)))
    (l_law_kind : K.lookup f_law_kind = some ⟨oc_law_kind, od_law_kind, .func (PySem.W.fnOf "_law_kind" "_law_kind" (defArgs sL_kind) (defBody sL_kind) (defScope sL_kind) .none kV_law_kind dc_law_kind pm_law_kind an_law_kind cd_law_kind ct_law_kind), sl_law_kind⟩) (c_law_kind : PySem.W.codeIn K cd_law_kind "_law_kind" = true) (k_law_kind : PySem.W.keepIn K (.ref f_law_kind) = true)
    (a_law_spoilt : PySem.W.nsIn K mainGlobals "_law_spoilt" = some (some (.ref f_law_spoilt)))
    (l_law_spoilt : K.lookup f_law_spoilt = some ⟨oc_law_spoilt, od_law_spoilt, .func (PySem.W.fnOf "_law_spoilt" "_law_spoilt" (defArgs sL_spoilt) (defBody sL_spoilt) (defScope sL_spoilt) .none kV_law_spoilt dc_law_spoilt pm_law_spoilt an_law_spoilt cd_law_spoilt ct_law_spoilt), sl_law_spoilt⟩) (c_law_spoilt : PySem.W.codeIn K cd_law_spoilt "_law_spoilt" = true) (k_law_spoilt : PySem.W.keepIn K (.ref f_law_spoilt) = true)
    (a_low_of : PySem.W.nsIn K mainGlobals "low_of" = some (some (.ref f_low_of)))
    (l_low_of : K.lookup f_low_of = some ⟨oc_low_of, od_low_of, .func (PySem.W.fnOf "low_of" "low_of" (defArgs slow_of) (defBody slow_of) (defScope slow_of) .none kV_low_of dc_low_of pm_low_of an_low_of cd_low_of ct_low_of), sl_low_of⟩) (c_low_of : PySem.W.codeIn K cd_low_of "low_of" = true) (k_low_of : PySem.W.keepIn K (.ref f_low_of) = true)
    (a_law : PySem.W.nsIn K mainGlobals "law" = some (some (.ref f_law)))
    (l_law : K.lookup f_law = some ⟨oc_law, od_law, .func (PySem.W.fnOf "law" "law" (defArgs slaw) (defBody slaw) (defScope slaw) .none kV_law dc_law pm_law an_law cd_law ct_law), sl_law⟩) (c_law : PySem.W.codeIn K cd_law "law" = true) (k_law : PySem.W.keepIn K (.ref f_law) = true)
    (z_int : PySem.W.nsIn K mainGlobals "int" = some none)
    (z_len : PySem.W.nsIn K mainGlobals "len" = some none)
    (z_abs : PySem.W.nsIn K mainGlobals "abs" = some none)
    (z_range : PySem.W.nsIn K mainGlobals "range" = some none)
    (z_tuple : PySem.W.nsIn K mainGlobals "tuple" = some none)
    (z_list : PySem.W.nsIn K mainGlobals "list" = some none)
    (z_dict : PySem.W.nsIn K mainGlobals "dict" = some none)
    (z_set : PySem.W.nsIn K mainGlobals "set" = some none)
    (z_any : PySem.W.nsIn K mainGlobals "any" = some none)
    (z_all : PySem.W.nsIn K mainGlobals "all" = some none)
    (z_max : PySem.W.nsIn K mainGlobals "max" = some none)
    (z_min : PySem.W.nsIn K mainGlobals "min" = some none)
    (z_zip : PySem.W.nsIn K mainGlobals "zip" = some none)
    (z_sorted : PySem.W.nsIn K mainGlobals "sorted" = some none)
    (z_enumerate : PySem.W.nsIn K mainGlobals "enumerate" = some none)
    (z_isinstance : PySem.W.nsIn K mainGlobals "isinstance" = some none)
    (z_bool : PySem.W.nsIn K mainGlobals "bool" = some none)
    (z_str : PySem.W.nsIn K mainGlobals "str" = some none)
    (a_EV : PySem.W.nsIn K mainGlobals "EVERYTHING" = some (some (.ref E0))) (t_EV : K.lookup E0 = some ⟨.type "tuple", od0E, .seq #[.ref E1] n0E, sl0E⟩) (t_EW : K.lookup E1 = some ⟨.type "tuple", od1E, .seq #[.none, .none] n1E, sl1E⟩)
    (a_NOTHING : PySem.W.nsIn K mainGlobals "NOTHING" = some (some (.ref N0))) (t_NOTHING : K.lookup N0 = some ⟨.type "tuple", odN0, .seq #[] nN0, slN0⟩)
    (a_OWN_FIELDS : PySem.W.nsIn K mainGlobals "OWN_FIELDS" = some (some (.ref F0))) (t_OWN_FIELDS : K.lookup F0 = some ⟨.type "tuple", none, .seq #[.str "time" tk0F, .str "id" tk1F] nF0, slF0⟩)
    (a_FIELD_WORTHS : PySem.W.nsIn K mainGlobals "FIELD_WORTHS" = some (some (.ref G0))) (t_FIELD_WORTHS : K.lookup G0 = some ⟨.type "tuple", odG0, .seq #[.str "sum" tk0G, .str "least" tk1G, .str "greatest" tk2G, .str "unlike" tk3G] nG0, slG0⟩)
    (a_PLAIN_WORTHS : PySem.W.nsIn K mainGlobals "PLAIN_WORTHS" = some (some (.ref H0))) (t_PLAIN_WORTHS : K.lookup H0 = some ⟨.type "tuple", odH0, .seq #[.str "count" tk0H, .str "first" tk1H, .str "last" tk2H] nH0, slH0⟩)
    (a_LETTERS : PySem.W.nsIn K mainGlobals "LETTERS" = some (some (.str "abcdefghijklmnopqrstuvwxyz" tkL))) :
    ∃ fd : FuncData, (∀ (s : Shared) (v : Value), BindsTo s fd ⟨[v], []⟩ [("_law_script", v)]) ∧ ∀ base : Heap, K.In base → base.Ns mainGlobals mg → FnOk l.prog w K mg base CX0 48 fa fd ["_law_script"] (spLaw K) := by
  have e := hfa.symm.trans (PySem.W.mg_of X G a_law)
  cases e
  have FCK_init := fun_mk (st := sKinds_init) lCK_init cCK_init kCK_init
  have BCK_init := FCK_init.binds (ps := ["self", "fields"]) fun _ _ _ _ _ _ us hl => match us, hl with | [_, _], _ => rfl
  have FCK_place := fun_mk (st := sKinds_place) lCK_place cCK_place kCK_place
  have BCK_place := FCK_place.binds (ps := ["self", "kind", "name"]) fun _ _ _ _ _ _ us hl => match us, hl with | [_, _, _], _ => rfl
  have FCK_is_event := fun_mk (st := sKinds_is_event) lCK_is_event cCK_is_event kCK_is_event
  have BCK_is_event := FCK_is_event.binds (ps := ["self", "thing"]) fun _ _ _ _ _ _ us hl => match us, hl with | [_, _], _ => rfl
  have FCS_init := fun_mk (st := sSide_init) lCS_init cCS_init kCS_init
  have BCS_init := FCS_init.binds (ps := ["self", "kinds", "kind", "where"]) fun _ _ _ _ _ _ us hl => match us, hl with | [_, _, _, _], _ => rfl
  have FCS_told := fun_mk (st := sSide_told) lCS_told cCS_told kCS_told
  have BCS_told := FCS_told.binds (ps := ["self"]) fun _ _ _ _ _ _ us hl => match us, hl with | [_], _ => rfl
  have FCS_is_empty := fun_mk (st := sSide_is_empty) lCS_is_empty cCS_is_empty kCS_is_empty
  have BCS_is_empty := FCS_is_empty.binds (ps := ["self"]) fun _ _ _ _ _ _ us hl => match us, hl with | [_], _ => rfl
  have FCS_lets := fun_mk (st := sSide_lets) lCS_lets cCS_lets kCS_lets
  have BCS_lets := FCS_lets.binds (ps := ["self", "event"]) fun _ _ _ _ _ _ us hl => match us, hl with | [_, _], _ => rfl
  have FCS_places := fun_mk (st := sSide_places) lCS_places cCS_places kCS_places
  have BCS_places := FCS_places.binds (ps := ["self", "names", "is_own"]) fun _ _ _ _ _ _ us hl => match us, hl with | [_, _, _], _ => rfl
  have FCE_init := fun_mk (st := sEach_init) lCE_init cCE_init kCE_init
  have BCE_init := FCE_init.binds (ps := ["self", "side", "told"]) fun _ _ _ _ _ _ us hl => match us, hl with | [_, _, _], _ => rfl
  have FCE_form := fun_mk (st := sEach_form) lCE_form cCE_form kCE_form
  have BCE_form := FCE_form.binds (ps := ["self"]) fun _ _ _ _ _ _ us hl => match us, hl with | [_], _ => rfl
  have FCW_init := fun_mk (st := sWindows_init) lCW_init cCW_init kCW_init
  have BCW_init := FCW_init.binds (ps := ["self", "side", "keys", "length", "step", "worths"]) fun _ _ _ _ _ _ us hl => match us, hl with | [_, _, _, _, _, _], _ => rfl
  have FCW_form := fun_mk (st := sWindows_form) lCW_form cCW_form kCW_form
  have BCW_form := FCW_form.binds (ps := ["self"]) fun _ _ _ _ _ _ us hl => match us, hl with | [_], _ => rfl
  have FCB_init := fun_mk (st := sBlocks_init) lCB_init cCB_init kCB_init
  have BCB_init := FCB_init.binds (ps := ["self", "side", "keys", "size", "worths"]) fun _ _ _ _ _ _ us hl => match us, hl with | [_, _, _, _, _], _ => rfl
  have FCB_form := fun_mk (st := sBlocks_form) lCB_form cCB_form kCB_form
  have BCB_form := FCB_form.binds (ps := ["self"]) fun _ _ _ _ _ _ us hl => match us, hl with | [_], _ => rfl
  have FCN_init := fun_mk (st := sSessions_init) lCN_init cCN_init kCN_init
  have BCN_init := FCN_init.binds (ps := ["self", "side", "keys", "gap", "worths"]) fun _ _ _ _ _ _ us hl => match us, hl with | [_, _, _, _, _], _ => rfl
  have FCN_form := fun_mk (st := sSessions_form) lCN_form cCN_form kCN_form
  have BCN_form := FCN_form.binds (ps := ["self"]) fun _ _ _ _ _ _ us hl => match us, hl with | [_], _ => rfl
  have FCP_init := fun_mk (st := sPairs_init) lCP_init cCP_init kCP_init
  have BCP_init := FCP_init.binds (ps := ["self", "first", "second", "keys", "mode", "reach", "told"]) fun _ _ _ _ _ _ us hl => match us, hl with | [_, _, _, _, _, _, _], _ => rfl
  have FCP_form := fun_mk (st := sPairs_form) lCP_form cCP_form kCP_form
  have BCP_form := FCP_form.binds (ps := ["self"]) fun _ _ _ _ _ _ us hl => match us, hl with | [_], _ => rfl
  have FCL_init := fun_mk (st := sLonely_init) lCL_init cCL_init kCL_init
  have BCL_init := FCL_init.binds (ps := ["self", "first", "second", "keys", "reach", "told"]) fun _ _ _ _ _ _ us hl => match us, hl with | [_, _, _, _, _, _], _ => rfl
  have FCL_form := fun_mk (st := sLonely_form) lCL_form cCL_form kCL_form
  have BCL_form := FCL_form.binds (ps := ["self"]) fun _ _ _ _ _ _ us hl => match us, hl with | [_], _ => rfl
  have F_law_number := fun_mk (st := sL_number) l_law_number c_law_number k_law_number
  have B_law_number := F_law_number.binds (ps := ["_law_script", "_law_index"]) fun _ _ _ _ _ _ us hl => match us, hl with | [_, _], _ => rfl
  have M_law_number := PySem.W.mg_of X G a_law_number
  have h_law_number : Here K mg "_law_number" ["_law_script", "_law_index"] sL_number := ⟨_, _, F_law_number, M_law_number, B_law_number⟩
  have F_law_take := fun_mk (st := sL_take) l_law_take c_law_take k_law_take
  have B_law_take := F_law_take.binds (ps := ["_law_draw", "_law_many"]) fun _ _ _ _ _ _ us hl => match us, hl with | [_, _], _ => rfl
  have M_law_take := PySem.W.mg_of X G a_law_take
  have h_law_take : Here K mg "_law_take" ["_law_draw", "_law_many"] sL_take := ⟨_, _, F_law_take, M_law_take, B_law_take⟩
  have F_normal := fun_mk (st := snormal) l_normal c_normal k_normal
  have B_normal := F_normal.binds (ps := ["pairs"]) fun _ _ _ _ _ _ us hl => match us, hl with | [_], _ => rfl
  have M_normal := PySem.W.mg_of X G a_normal
  have h_normal : Here K mg "normal" ["pairs"] snormal := ⟨_, _, F_normal, M_normal, B_normal⟩
  have F_union := fun_mk (st := sunion) l_union c_union k_union
  have B_union := F_union.binds (ps := ["one", "other"]) fun _ _ _ _ _ _ us hl => match us, hl with | [_, _], _ => rfl
  have M_union := PySem.W.mg_of X G a_union
  have h_union : Here K mg "union" ["one", "other"] sunion := ⟨_, _, F_union, M_union, B_union⟩
  have F_others := fun_mk (st := sothers) l_others c_others k_others
  have B_others := F_others.binds (ps := ["one"]) fun _ _ _ _ _ _ us hl => match us, hl with | [_], _ => rfl
  have M_others := PySem.W.mg_of X G a_others
  have h_others : Here K mg "others" ["one"] sothers := ⟨_, _, F_others, M_others, B_others⟩
  have F_meet := fun_mk (st := smeet) l_meet c_meet k_meet
  have B_meet := F_meet.binds (ps := ["one", "other"]) fun _ _ _ _ _ _ us hl => match us, hl with | [_, _], _ => rfl
  have M_meet := PySem.W.mg_of X G a_meet
  have h_meet : Here K mg "meet" ["one", "other"] smeet := ⟨_, _, F_meet, M_meet, B_meet⟩
  have F_has := fun_mk (st := shas) l_has c_has k_has
  have B_has := F_has.binds (ps := ["one", "number"]) fun _ _ _ _ _ _ us hl => match us, hl with | [_, _], _ => rfl
  have M_has := PySem.W.mg_of X G a_has
  have h_has : Here K mg "has" ["one", "number"] shas := ⟨_, _, F_has, M_has, B_has⟩
  have F_some_member := fun_mk (st := ssome_member) l_some_member c_some_member k_some_member
  have B_some_member := F_some_member.binds (ps := ["one"]) fun _ _ _ _ _ _ us hl => match us, hl with | [_], _ => rfl
  have M_some_member := PySem.W.mg_of X G a_some_member
  have h_some_member : Here K mg "some_member" ["one"] ssome_member := ⟨_, _, F_some_member, M_some_member, B_some_member⟩
  have F_is_whole := fun_mk (st := sis_whole) l_is_whole c_is_whole k_is_whole
  have B_is_whole := F_is_whole.binds (ps := ["thing"]) fun _ _ _ _ _ _ us hl => match us, hl with | [_], _ => rfl
  have M_is_whole := PySem.W.mg_of X G a_is_whole
  have h_is_whole : Here K mg "is_whole" ["thing"] sis_whole := ⟨_, _, F_is_whole, M_is_whole, B_is_whole⟩
  have F_is_interval := fun_mk (st := sis_interval) l_is_interval c_is_interval k_is_interval
  have B_is_interval := F_is_interval.binds (ps := ["pair"]) fun _ _ _ _ _ _ us hl => match us, hl with | [_], _ => rfl
  have M_is_interval := PySem.W.mg_of X G a_is_interval
  have h_is_interval : Here K mg "is_interval" ["pair"] sis_interval := ⟨_, _, F_is_interval, M_is_interval, B_is_interval⟩
  have F_is_name := fun_mk (st := sis_name) l_is_name c_is_name k_is_name
  have B_is_name := F_is_name.binds (ps := ["thing"]) fun _ _ _ _ _ _ us hl => match us, hl with | [_], _ => rfl
  have M_is_name := PySem.W.mg_of X G a_is_name
  have h_is_name : Here K mg "is_name" ["thing"] sis_name := ⟨_, _, F_is_name, M_is_name, B_is_name⟩
  have F_cuts_of := fun_mk (st := scuts_of) l_cuts_of c_cuts_of k_cuts_of
  have B_cuts_of := F_cuts_of.binds (ps := ["one"]) fun _ _ _ _ _ _ us hl => match us, hl with | [_], _ => rfl
  have M_cuts_of := PySem.W.mg_of X G a_cuts_of
  have h_cuts_of : Here K mg "cuts_of" ["one"] scuts_of := ⟨_, _, F_cuts_of, M_cuts_of, B_cuts_of⟩
  have F_with_pair := fun_mk (st := swith_pair) l_with_pair c_with_pair k_with_pair
  have B_with_pair := F_with_pair.binds (ps := ["box", "at", "pair"]) fun _ _ _ _ _ _ us hl => match us, hl with | [_, _, _], _ => rfl
  have M_with_pair := PySem.W.mg_of X G a_with_pair
  have h_with_pair : Here K mg "with_pair" ["box", "at", "pair"] swith_pair := ⟨_, _, F_with_pair, M_with_pair, B_with_pair⟩
  have F_check_number := fun_mk (st := scheck_number) l_check_number c_check_number k_check_number
  have B_check_number := F_check_number.binds (ps := ["number", "low", "word"]) fun _ _ _ _ _ _ us hl => match us, hl with | [_, _, _], _ => rfl
  have M_check_number := PySem.W.mg_of X G a_check_number
  have h_check_number : Here K mg "check_number" ["number", "low", "word"] scheck_number := ⟨_, _, F_check_number, M_check_number, B_check_number⟩
  have F_inner_cuts := fun_mk (st := sinner_cuts) l_inner_cuts c_inner_cuts k_inner_cuts
  have B_inner_cuts := F_inner_cuts.binds (ps := ["rows", "box", "at"]) fun _ _ _ _ _ _ us hl => match us, hl with | [_, _, _], _ => rfl
  have M_inner_cuts := PySem.W.mg_of X G a_inner_cuts
  have h_inner_cuts : Here K mg "inner_cuts" ["rows", "box", "at"] sinner_cuts := ⟨_, _, F_inner_cuts, M_inner_cuts, B_inner_cuts⟩
  have F_rows_within := fun_mk (st := srows_within) l_rows_within c_rows_within k_rows_within
  have B_rows_within := F_rows_within.binds (ps := ["rows", "box"]) fun _ _ _ _ _ _ us hl => match us, hl with | [_, _], _ => rfl
  have M_rows_within := PySem.W.mg_of X G a_rows_within
  have h_rows_within : Here K mg "rows_within" ["rows", "box"] srows_within := ⟨_, _, F_rows_within, M_rows_within, B_rows_within⟩
  have F_sides_of := fun_mk (st := ssides_of) l_sides_of c_sides_of k_sides_of
  have B_sides_of := F_sides_of.binds (ps := ["query"]) fun _ _ _ _ _ _ us hl => match us, hl with | [_], _ => rfl
  have M_sides_of := PySem.W.mg_of X G a_sides_of
  have h_sides_of : Here K mg "sides_of" ["query"] ssides_of := ⟨_, _, F_sides_of, M_sides_of, B_sides_of⟩
  have F_whole_box := fun_mk (st := swhole_box) l_whole_box c_whole_box k_whole_box
  have B_whole_box := F_whole_box.binds (ps := ["kinds", "kind"]) fun _ _ _ _ _ _ us hl => match us, hl with | [_, _], _ => rfl
  have M_whole_box := PySem.W.mg_of X G a_whole_box
  have h_whole_box : Here K mg "whole_box" ["kinds", "kind"] swhole_box := ⟨_, _, F_whole_box, M_whole_box, B_whole_box⟩
  have F_is_seen := fun_mk (st := sis_seen) l_is_seen c_is_seen k_is_seen
  have B_is_seen := F_is_seen.binds (ps := ["query", "event"]) fun _ _ _ _ _ _ us hl => match us, hl with | [_, _], _ => rfl
  have M_is_seen := PySem.W.mg_of X G a_is_seen
  have h_is_seen : Here K mg "is_seen" ["query", "event"] sis_seen := ⟨_, _, F_is_seen, M_is_seen, B_is_seen⟩
  have F_check_keys := fun_mk (st := scheck_keys) l_check_keys c_check_keys k_check_keys
  have B_check_keys := F_check_keys.binds (ps := ["side", "keys"]) fun _ _ _ _ _ _ us hl => match us, hl with | [_, _], _ => rfl
  have M_check_keys := PySem.W.mg_of X G a_check_keys
  have h_check_keys : Here K mg "check_keys" ["side", "keys"] scheck_keys := ⟨_, _, F_check_keys, M_check_keys, B_check_keys⟩
  have F_check_two := fun_mk (st := scheck_two) l_check_two c_check_two k_check_two
  have B_check_two := F_check_two.binds (ps := ["first", "second", "keys"]) fun _ _ _ _ _ _ us hl => match us, hl with | [_, _, _], _ => rfl
  have M_check_two := PySem.W.mg_of X G a_check_two
  have h_check_two : Here K mg "check_two" ["first", "second", "keys"] scheck_two := ⟨_, _, F_check_two, M_check_two, B_check_two⟩
  have F_check_worths := fun_mk (st := scheck_worths) l_check_worths c_check_worths k_check_worths
  have B_check_worths := F_check_worths.binds (ps := ["side", "keys", "worths", "barred"]) fun _ _ _ _ _ _ us hl => match us, hl with | [_, _, _, _], _ => rfl
  have M_check_worths := PySem.W.mg_of X G a_check_worths
  have h_check_worths : Here K mg "check_worths" ["side", "keys", "worths", "barred"] scheck_worths := ⟨_, _, F_check_worths, M_check_worths, B_check_worths⟩
  have F_rows_of := fun_mk (st := srows_of) l_rows_of c_rows_of k_rows_of
  have B_rows_of := F_rows_of.binds (ps := ["queries", "kind"]) fun _ _ _ _ _ _ us hl => match us, hl with | [_, _], _ => rfl
  have M_rows_of := PySem.W.mg_of X G a_rows_of
  have h_rows_of : Here K mg "rows_of" ["queries", "kind"] srows_of := ⟨_, _, F_rows_of, M_rows_of, B_rows_of⟩
  have F_node_for := fun_mk (st := snode_for) l_node_for c_node_for k_node_for
  have B_node_for := F_node_for.binds (ps := ["rows", "box"]) fun _ _ _ _ _ _ us hl => match us, hl with | [_, _], _ => rfl
  have M_node_for := PySem.W.mg_of X G a_node_for
  have h_node_for : Here K mg "node_for" ["rows", "box"] snode_for := ⟨_, _, F_node_for, M_node_for, B_node_for⟩
  have F_walked := fun_mk (st := swalked) l_walked c_walked k_walked
  have B_walked := F_walked.binds (ps := ["tree", "event"]) fun _ _ _ _ _ _ us hl => match us, hl with | [_, _], _ => rfl
  have M_walked := PySem.W.mg_of X G a_walked
  have h_walked : Here K mg "walked" ["tree", "event"] swalked := ⟨_, _, F_walked, M_walked, B_walked⟩
  have F_lot_of := fun_mk (st := slot_of) l_lot_of c_lot_of k_lot_of
  have B_lot_of := F_lot_of.binds (ps := ["tree", "event"]) fun _ _ _ _ _ _ us hl => match us, hl with | [_, _], _ => rfl
  have M_lot_of := PySem.W.mg_of X G a_lot_of
  have h_lot_of : Here K mg "lot_of" ["tree", "event"] slot_of := ⟨_, _, F_lot_of, M_lot_of, B_lot_of⟩
  have F_tree_for := fun_mk (st := stree_for) l_tree_for c_tree_for k_tree_for
  have B_tree_for := F_tree_for.binds (ps := ["kinds", "queries"]) fun _ _ _ _ _ _ us hl => match us, hl with | [_, _], _ => rfl
  have M_tree_for := PySem.W.mg_of X G a_tree_for
  have h_tree_for : Here K mg "tree_for" ["kinds", "queries"] stree_for := ⟨_, _, F_tree_for, M_tree_for, B_tree_for⟩
  have F_members_of := fun_mk (st := smembers_of) l_members_of c_members_of k_members_of
  have B_members_of := F_members_of.binds (ps := ["sets", "box"]) fun _ _ _ _ _ _ us hl => match us, hl with | [_, _], _ => rfl
  have M_members_of := PySem.W.mg_of X G a_members_of
  have h_members_of : Here K mg "members_of" ["sets", "box"] smembers_of := ⟨_, _, F_members_of, M_members_of, B_members_of⟩
  have F_wrong_at := fun_mk (st := swrong_at) l_wrong_at c_wrong_at k_wrong_at
  have B_wrong_at := F_wrong_at.binds (ps := ["kind", "sets", "box", "is_told"]) fun _ _ _ _ _ _ us hl => match us, hl with | [_, _, _, _], _ => rfl
  have M_wrong_at := PySem.W.mg_of X G a_wrong_at
  have h_wrong_at : Here K mg "wrong_at" ["kind", "sets", "box", "is_told"] swrong_at := ⟨_, _, F_wrong_at, M_wrong_at, B_wrong_at⟩
  have F_wrong_lot := fun_mk (st := swrong_lot) l_wrong_lot c_wrong_lot k_wrong_lot
  have B_wrong_lot := F_wrong_lot.binds (ps := ["kind", "lots", "box", "told"]) fun _ _ _ _ _ _ us hl => match us, hl with | [_, _, _, _], _ => rfl
  have M_wrong_lot := PySem.W.mg_of X G a_wrong_lot
  have h_wrong_lot : Here K mg "wrong_lot" ["kind", "lots", "box", "told"] swrong_lot := ⟨_, _, F_wrong_lot, M_wrong_lot, B_wrong_lot⟩
  have F_sets_by := fun_mk (st := ssets_by) l_sets_by c_sets_by k_sets_by
  have B_sets_by := F_sets_by.binds (ps := ["queries", "kind", "fields"]) fun _ _ _ _ _ _ us hl => match us, hl with | [_, _, _], _ => rfl
  have M_sets_by := PySem.W.mg_of X G a_sets_by
  have h_sets_by : Here K mg "sets_by" ["queries", "kind", "fields"] ssets_by := ⟨_, _, F_sets_by, M_sets_by, B_sets_by⟩
  have F_wrong_node := fun_mk (st := swrong_node) l_wrong_node c_wrong_node k_wrong_node
  have B_wrong_node := F_wrong_node.binds (ps := ["kind", "lots", "box", "node"]) fun _ _ _ _ _ _ us hl => match us, hl with | [_, _, _, _], _ => rfl
  have M_wrong_node := PySem.W.mg_of X G a_wrong_node
  have h_wrong_node : Here K mg "wrong_node" ["kind", "lots", "box", "node"] swrong_node := ⟨_, _, F_wrong_node, M_wrong_node, B_wrong_node⟩
  have F_wrong_tree := fun_mk (st := swrong_tree) l_wrong_tree c_wrong_tree k_wrong_tree
  have B_wrong_tree := F_wrong_tree.binds (ps := ["kinds", "queries", "tree"]) fun _ _ _ _ _ _ us hl => match us, hl with | [_, _, _], _ => rfl
  have M_wrong_tree := PySem.W.mg_of X G a_wrong_tree
  have h_wrong_tree : Here K mg "wrong_tree" ["kinds", "queries", "tree"] swrong_tree := ⟨_, _, F_wrong_tree, M_wrong_tree, B_wrong_tree⟩
  have F_law_is_brought := fun_mk (st := sL_is_brought) l_law_is_brought c_law_is_brought k_law_is_brought
  have B_law_is_brought := F_law_is_brought.binds (ps := ["_law_queries", "_law_tree", "_law_event"]) fun _ _ _ _ _ _ us hl => match us, hl with | [_, _, _], _ => rfl
  have M_law_is_brought := PySem.W.mg_of X G a_law_is_brought
  have h_law_is_brought : Here K mg "_law_is_brought" ["_law_queries", "_law_tree", "_law_event"] sL_is_brought := ⟨_, _, F_law_is_brought, M_law_is_brought, B_law_is_brought⟩
  have F_law_pick := fun_mk (st := sL_pick) l_law_pick c_law_pick k_law_pick
  have B_law_pick := F_law_pick.binds (ps := ["_law_draw", "_law_items"]) fun _ _ _ _ _ _ us hl => match us, hl with | [_, _], _ => rfl
  have M_law_pick := PySem.W.mg_of X G a_law_pick
  have h_law_pick : Here K mg "_law_pick" ["_law_draw", "_law_items"] sL_pick := ⟨_, _, F_law_pick, M_law_pick, B_law_pick⟩
  have F_law_set := fun_mk (st := sL_set) l_law_set c_law_set k_law_set
  have B_law_set := F_law_set.binds (ps := ["_law_draw"]) fun _ _ _ _ _ _ us hl => match us, hl with | [_], _ => rfl
  have M_law_set := PySem.W.mg_of X G a_law_set
  have h_law_set : Here K mg "_law_set" ["_law_draw"] sL_set := ⟨_, _, F_law_set, M_law_set, B_law_set⟩
  have F_law_side := fun_mk (st := sL_side) l_law_side c_law_side k_law_side
  have B_law_side := F_law_side.binds (ps := ["_law_draw", "_law_kind_here"]) fun _ _ _ _ _ _ us hl => match us, hl with | [_, _], _ => rfl
  have M_law_side := PySem.W.mg_of X G a_law_side
  have h_law_side : Here K mg "_law_side" ["_law_draw", "_law_kind_here"] sL_side := ⟨_, _, F_law_side, M_law_side, B_law_side⟩
  have F_law_worths := fun_mk (st := sL_worths) l_law_worths c_law_worths k_law_worths
  have B_law_worths := F_law_worths.binds (ps := ["_law_draw", "_law_kinds"]) fun _ _ _ _ _ _ us hl => match us, hl with | [_, _], _ => rfl
  have M_law_worths := PySem.W.mg_of X G a_law_worths
  have h_law_worths : Here K mg "_law_worths" ["_law_draw", "_law_kinds"] sL_worths := ⟨_, _, F_law_worths, M_law_worths, B_law_worths⟩
  have F_law_query := fun_mk (st := sL_query) l_law_query c_law_query k_law_query
  have B_law_query := F_law_query.binds (ps := ["_law_draw", "_law_kind_here"]) fun _ _ _ _ _ _ us hl => match us, hl with | [_, _], _ => rfl
  have M_law_query := PySem.W.mg_of X G a_law_query
  have h_law_query : Here K mg "_law_query" ["_law_draw", "_law_kind_here"] sL_query := ⟨_, _, F_law_query, M_law_query, B_law_query⟩
  have F_law_kind := fun_mk (st := sL_kind) l_law_kind c_law_kind k_law_kind
  have B_law_kind := F_law_kind.binds (ps := ["_law_draw"]) fun _ _ _ _ _ _ us hl => match us, hl with | [_], _ => rfl
  have M_law_kind := PySem.W.mg_of X G a_law_kind
  have h_law_kind : Here K mg "_law_kind" ["_law_draw"] sL_kind := ⟨_, _, F_law_kind, M_law_kind, B_law_kind⟩
  have F_law_spoilt := fun_mk (st := sL_spoilt) l_law_spoilt c_law_spoilt k_law_spoilt
  have B_law_spoilt := F_law_spoilt.binds (ps := ["_law_draw", "_law_node", "_law_many"]) fun _ _ _ _ _ _ us hl => match us, hl with | [_, _, _], _ => rfl
  have M_law_spoilt := PySem.W.mg_of X G a_law_spoilt
  have h_law_spoilt : Here K mg "_law_spoilt" ["_law_draw", "_law_node", "_law_many"] sL_spoilt := ⟨_, _, F_law_spoilt, M_law_spoilt, B_law_spoilt⟩
  have F_low_of := fun_mk (st := slow_of) l_low_of c_low_of k_low_of
  have B_low_of := F_low_of.binds (ps := ["pair"]) fun _ _ _ _ _ _ us hl => match us, hl with | [_], _ => rfl
  have M_low_of := PySem.W.mg_of X G a_low_of
  have h_low_of : Here K mg "low_of" ["pair"] slow_of := ⟨_, _, F_low_of, M_low_of, B_low_of⟩
  have F_law := fun_mk (st := slaw) l_law c_law k_law
  have Z_int := PySem.W.mg_none_of X G z_int
  have Z_len := PySem.W.mg_none_of X G z_len
  have Z_abs := PySem.W.mg_none_of X G z_abs
  have Z_range := PySem.W.mg_none_of X G z_range
  have Z_tuple := PySem.W.mg_none_of X G z_tuple
  have Z_list := PySem.W.mg_none_of X G z_list
  have Z_dict := PySem.W.mg_none_of X G z_dict
  have Z_set := PySem.W.mg_none_of X G z_set
  have Z_any := PySem.W.mg_none_of X G z_any
  have Z_all := PySem.W.mg_none_of X G z_all
  have Z_max := PySem.W.mg_none_of X G z_max
  have Z_min := PySem.W.mg_none_of X G z_min
  have Z_zip := PySem.W.mg_none_of X G z_zip
  have Z_sorted := PySem.W.mg_none_of X G z_sorted
  have Z_enumerate := PySem.W.mg_none_of X G z_enumerate
  have Z_isinstance := PySem.W.mg_none_of X G z_isinstance
  have Z_bool := PySem.W.mg_none_of X G z_bool
  have Z_str := PySem.W.mg_none_of X G z_str
  exact ⟨PySem.W.fnOf "law" "law" (defArgs slaw) (defBody slaw) (defScope slaw) .none kV_law dc_law pm_law an_law cd_law ct_law, fun s v => .of_eq rfl, fun base _ _ => ok_law (c := ⟨CK, CS, CE, CW, CB, CN, CP, CL⟩) F_law ⟨⟨Z_int, Z_len, Z_abs⟩, Z_len, Z_range, Z_tuple, Z_list, Z_dict, Z_set, Z_any, Z_all, Z_max, Z_min, Z_zip, Z_sorted, Z_enumerate, Z_isinstance, Z_bool, Z_int, Z_str, ⟨_, V.ref N0, PySem.W.mg_of X G a_NOTHING, rfl, nothing_mk t_NOTHING⟩, ⟨_, V.ref E0, PySem.W.mg_of X G a_EV, rfl, every_mk t_EV t_EW⟩, ⟨_, V.ref F0, PySem.W.mg_of X G a_OWN_FIELDS, rfl, own_mk t_OWN_FIELDS⟩, ⟨_, .str "abcdefghijklmnopqrstuvwxyz", PySem.W.mg_of X G a_LETTERS, ⟨_, rfl⟩, fun _ => R.str_⟩, ⟨_, V.ref G0, PySem.W.mg_of X G a_FIELD_WORTHS, rfl, fw_mk t_FIELD_WORTHS⟩, ⟨_, V.ref H0, PySem.W.mg_of X G a_PLAIN_WORTHS, rfl, pw_mk t_PLAIN_WORTHS⟩⟩ (low_mk M_low_of l_low_of c_low_of) ⟨⟨⟨pgCK, hdCK, poCK, saCK⟩, nCK_fields⟩, ⟨⟨pgCS, hdCS, poCS, saCS⟩, nCS_kinds⟩, ⟨⟨pgCS, hdCS, poCS, saCS⟩, nCS_kind⟩, ⟨⟨pgCS, hdCS, poCS, saCS⟩, nCS_sets⟩, ⟨⟨pgCE, hdCE, poCE, saCE⟩, nCE_side⟩, ⟨⟨pgCE, hdCE, poCE, saCE⟩, nCE_told⟩, ⟨⟨pgCW, hdCW, poCW, saCW⟩, nCW_side⟩, ⟨⟨pgCW, hdCW, poCW, saCW⟩, nCW_by⟩, ⟨⟨pgCW, hdCW, poCW, saCW⟩, nCW_length⟩, ⟨⟨pgCW, hdCW, poCW, saCW⟩, nCW_step⟩, ⟨⟨pgCW, hdCW, poCW, saCW⟩, nCW_worths⟩, ⟨⟨pgCB, hdCB, poCB, saCB⟩, nCB_side⟩, ⟨⟨pgCB, hdCB, poCB, saCB⟩, nCB_by⟩, ⟨⟨pgCB, hdCB, poCB, saCB⟩, nCB_size⟩, ⟨⟨pgCB, hdCB, poCB, saCB⟩, nCB_worths⟩, ⟨⟨pgCN, hdCN, poCN, saCN⟩, nCN_side⟩, ⟨⟨pgCN, hdCN, poCN, saCN⟩, nCN_by⟩, ⟨⟨pgCN, hdCN, poCN, saCN⟩, nCN_gap⟩, ⟨⟨pgCN, hdCN, poCN, saCN⟩, nCN_worths⟩, ⟨⟨pgCP, hdCP, poCP, saCP⟩, nCP_first⟩, ⟨⟨pgCP, hdCP, poCP, saCP⟩, nCP_second⟩, ⟨⟨pgCP, hdCP, poCP, saCP⟩, nCP_first_keys⟩, ⟨⟨pgCP, hdCP, poCP, saCP⟩, nCP_second_keys⟩, ⟨⟨pgCP, hdCP, poCP, saCP⟩, nCP_mode⟩, ⟨⟨pgCP, hdCP, poCP, saCP⟩, nCP_reach⟩, ⟨⟨pgCP, hdCP, poCP, saCP⟩, nCP_first_told⟩, ⟨⟨pgCP, hdCP, poCP, saCP⟩, nCP_second_told⟩, ⟨⟨pgCL, hdCL, poCL, saCL⟩, nCL_first⟩, ⟨⟨pgCL, hdCL, poCL, saCL⟩, nCL_second⟩, ⟨⟨pgCL, hdCL, poCL, saCL⟩, nCL_first_keys⟩, ⟨⟨pgCL, hdCL, poCL, saCL⟩, nCL_second_keys⟩, ⟨⟨pgCL, hdCL, poCL, saCL⟩, nCL_reach⟩, ⟨⟨pgCL, hdCL, poCL, saCL⟩, nCL_told⟩⟩ h_law_number h_law_take h_normal h_union h_others h_meet h_has h_some_member h_is_whole h_is_interval h_is_name h_cuts_of h_with_pair h_check_number h_inner_cuts h_rows_within h_sides_of h_whole_box h_is_seen h_check_keys h_check_two h_check_worths h_rows_of h_node_for h_walked h_lot_of h_tree_for h_members_of h_wrong_at h_wrong_lot h_sets_by h_wrong_node h_wrong_tree h_law_is_brought h_law_pick h_law_set h_law_side h_law_worths h_law_query h_law_kind h_law_spoilt ⟨_, _, FCK_init, ⟨mkCK, aCK_init, iCK_init, kcCK⟩, PySem.W.mg_of X G aCK, BCK_init⟩ ⟨_, _, FCS_init, ⟨mkCS, aCS_init, iCS_init, kcCS⟩, PySem.W.mg_of X G aCS, BCS_init⟩ ⟨_, _, FCE_init, ⟨mkCE, aCE_init, iCE_init, kcCE⟩, PySem.W.mg_of X G aCE, BCE_init⟩ ⟨_, _, FCW_init, ⟨mkCW, aCW_init, iCW_init, kcCW⟩, PySem.W.mg_of X G aCW, BCW_init⟩ ⟨_, _, FCB_init, ⟨mkCB, aCB_init, iCB_init, kcCB⟩, PySem.W.mg_of X G aCB, BCB_init⟩ ⟨_, _, FCN_init, ⟨mkCN, aCN_init, iCN_init, kcCN⟩, PySem.W.mg_of X G aCN, BCN_init⟩ ⟨_, _, FCP_init, ⟨mkCP, aCP_init, iCP_init, kcCP⟩, PySem.W.mg_of X G aCP, BCP_init⟩ ⟨_, _, FCL_init, ⟨mkCL, aCL_init, iCL_init, kcCL⟩, PySem.W.mg_of X G aCL, BCL_init⟩ ⟨_, _, FCS_told, ⟨pgCS, hdCS, poCS, saCS⟩, ⟨aCS_told, iCS_told, kCS_told⟩, BCS_told⟩ ⟨_, _, FCS_is_empty, ⟨pgCS, hdCS, poCS, saCS⟩, ⟨aCS_is_empty, iCS_is_empty, kCS_is_empty⟩, BCS_is_empty⟩ ⟨_, _, FCS_lets, ⟨pgCS, hdCS, poCS, saCS⟩, ⟨aCS_lets, iCS_lets, kCS_lets⟩, BCS_lets⟩ ⟨_, _, FCE_form, ⟨pgCE, hdCE, poCE, saCE⟩, ⟨aCE_form, iCE_form, kCE_form⟩, BCE_form⟩ ⟨_, _, FCW_form, ⟨pgCW, hdCW, poCW, saCW⟩, ⟨aCW_form, iCW_form, kCW_form⟩, BCW_form⟩ ⟨_, _, FCB_form, ⟨pgCB, hdCB, poCB, saCB⟩, ⟨aCB_form, iCB_form, kCB_form⟩, BCB_form⟩ ⟨_, _, FCN_form, ⟨pgCN, hdCN, poCN, saCN⟩, ⟨aCN_form, iCN_form, kCN_form⟩, BCN_form⟩ ⟨_, _, FCP_form, ⟨pgCP, hdCP, poCP, saCP⟩, ⟨aCP_form, iCP_form, kCP_form⟩, BCP_form⟩ ⟨_, _, FCL_form, ⟨pgCL, hdCL, poCL, saCL⟩, ⟨aCL_form, iCL_form, kCL_form⟩, BCL_form⟩ ⟨_, _, FCK_place, ⟨pgCK, hdCK, poCK, saCK⟩, ⟨aCK_place, iCK_place, kCK_place⟩, BCK_place⟩ ⟨_, _, FCK_is_event, ⟨pgCK, hdCK, poCK, saCK⟩, ⟨aCK_is_event, iCK_is_event, kCK_is_event⟩, BCK_is_event⟩ ⟨_, _, FCS_places, ⟨pgCS, hdCS, poCS, saCS⟩, ⟨aCS_places, iCS_places, kCS_places⟩, BCS_places⟩⟩
theorem walk {l : PySem.W.OpenLaw} {q : Program} {loose : List Str} {XP : (Str → Option Value) → Heap → Prop} {YP : World → Heap → Prop} {d : DefRec} {K : Params → PySem.W.Frag} (hn : l.most = some 63) (hdf : d.params.defaults = [])
    (hY : ∀ (w : World) (h : Heap), YP w h → (K w.params).In h)
    (F : ∀ (w : World) (mg : Str → Option Value) (fa : Addr) (h : Heap), (K w.params).In h → h.Ns mainGlobals mg → mg d.name = some (.ref fa) →
      ∃ fd : FuncData, (∀ (s : Shared) (u : Value), BindsTo s fd ⟨[u], []⟩ [("_law_script", u)]) ∧ ∀ base : Heap, (K w.params).In base → base.Ns mainGlobals mg → FnOk l.prog w (K w.params) mg base CX0 48 fa fd ["_law_script"] (spLaw (K w.params))) :
    PySem.W.WalkO q loose XP YP l.row.toRowW d [] (fun f vs => PySem.call f vs) :=
  L2.walk_of (n := 63) (k := 48) (x := "_law_script") (CX := fun _ => CX0) (sp := fun w => spLaw (K w.params)) hn (by decide) hdf ⟨rfl, by decide, by decide⟩ hY F (fun _ _ a ns hl _ hS => ⟨a, ns, rfl, hS, hl, fun _ => rfl⟩) fun _ _ _ _ _ z => z
end S07
open PySem PySem.W PyProof.Rows
set_option maxRecDepth 100000 in
set_option maxHeartbeats 0 in
theorem PySem.Challenge.cw_streamsure_k07_whole_wrong_trees_holds : PySem.Challenge.rw_streamsure_k07_whole_wrong_trees.Holds := by
  w_on; o_law; k_head; (case hw => w_witness2)
  k_fill
  refine S07.walk (l := PySem.Challenge.rw_streamsure_k07_whole_wrong_trees) rfl rfl (fun w h Y => PySem.W.kIn_of Y) ?F
  case F =>
    intro w mg fa h KX G hmg
    refine' S07.all_mk KX G hmg ?aCK ?pgCK ?hdCK ?poCK ?saCK ?mkCK ?kcCK ?nCK_fields ?aCK_init ?iCK_init ?lCK_init ?cCK_init ?kCK_init ?aCK_place ?iCK_place ?lCK_place ?cCK_place ?kCK_place ?aCK_is_event ?iCK_is_event ?lCK_is_event ?cCK_is_event ?kCK_is_event ?aCS ?pgCS ?hdCS ?poCS ?saCS ?mkCS ?kcCS ?nCS_kinds ?nCS_kind ?nCS_sets ?aCS_init ?iCS_init ?lCS_init ?cCS_init ?kCS_init ?aCS_told ?iCS_told ?lCS_told ?cCS_told ?kCS_told ?aCS_is_empty ?iCS_is_empty ?lCS_is_empty ?cCS_is_empty ?kCS_is_empty ?aCS_lets ?iCS_lets ?lCS_lets ?cCS_lets ?kCS_lets ?aCS_places ?iCS_places ?lCS_places ?cCS_places ?kCS_places ?aCE ?pgCE ?hdCE ?poCE ?saCE ?mkCE ?kcCE ?nCE_side ?nCE_told ?aCE_init ?iCE_init ?lCE_init ?cCE_init ?kCE_init ?aCE_form ?iCE_form ?lCE_form ?cCE_form ?kCE_form ?aCW ?pgCW ?hdCW ?poCW ?saCW ?mkCW ?kcCW ?nCW_side ?nCW_by ?nCW_length ?nCW_step ?nCW_worths ?aCW_init ?iCW_init ?lCW_init ?cCW_init ?kCW_init ?aCW_form ?iCW_form ?lCW_form ?cCW_form ?kCW_form ?aCB ?pgCB ?hdCB ?poCB ?saCB ?mkCB ?kcCB ?nCB_side ?nCB_by ?nCB_size ?nCB_worths ?aCB_init ?iCB_init ?lCB_init ?cCB_init ?kCB_init ?aCB_form ?iCB_form ?lCB_form ?cCB_form ?kCB_form ?aCN ?pgCN ?hdCN ?poCN ?saCN ?mkCN ?kcCN ?nCN_side ?nCN_by ?nCN_gap ?nCN_worths ?aCN_init ?iCN_init ?lCN_init ?cCN_init ?kCN_init ?aCN_form ?iCN_form ?lCN_form ?cCN_form ?kCN_form ?aCP ?pgCP ?hdCP ?poCP ?saCP ?mkCP ?kcCP ?nCP_first ?nCP_second ?nCP_first_keys ?nCP_second_keys ?nCP_mode ?nCP_reach ?nCP_first_told ?nCP_second_told ?aCP_init ?iCP_init ?lCP_init ?cCP_init ?kCP_init ?aCP_form ?iCP_form ?lCP_form ?cCP_form ?kCP_form ?aCL ?pgCL ?hdCL ?poCL ?saCL ?mkCL ?kcCL ?nCL_first ?nCL_second ?nCL_first_keys ?nCL_second_keys ?nCL_reach ?nCL_told ?aCL_init ?iCL_init ?lCL_init ?cCL_init ?kCL_init ?aCL_form ?iCL_form ?lCL_form ?cCL_form ?kCL_form ?a_law_number ?l_law_number ?c_law_number ?k_law_number ?a_law_take ?l_law_take ?c_law_take ?k_law_take ?a_normal ?l_normal ?c_normal ?k_normal ?a_union ?l_union ?c_union ?k_union ?a_others ?l_others ?c_others ?k_others ?a_meet ?l_meet ?c_meet ?k_meet ?a_has ?l_has ?c_has ?k_has ?a_some_member ?l_some_member ?c_some_member ?k_some_member ?a_is_whole ?l_is_whole ?c_is_whole ?k_is_whole ?a_is_interval ?l_is_interval ?c_is_interval ?k_is_interval ?a_is_name ?l_is_name ?c_is_name ?k_is_name ?a_cuts_of ?l_cuts_of ?c_cuts_of ?k_cuts_of ?a_with_pair ?l_with_pair ?c_with_pair ?k_with_pair ?a_check_number ?l_check_number ?c_check_number ?k_check_number ?a_inner_cuts ?l_inner_cuts ?c_inner_cuts ?k_inner_cuts ?a_rows_within ?l_rows_within ?c_rows_within ?k_rows_within ?a_sides_of ?l_sides_of ?c_sides_of ?k_sides_of ?a_whole_box ?l_whole_box ?c_whole_box ?k_whole_box ?a_is_seen ?l_is_seen ?c_is_seen ?k_is_seen ?a_check_keys ?l_check_keys ?c_check_keys ?k_check_keys ?a_check_two ?l_check_two ?c_check_two ?k_check_two ?a_check_worths ?l_check_worths ?c_check_worths ?k_check_worths ?a_rows_of ?l_rows_of ?c_rows_of ?k_rows_of ?a_node_for ?l_node_for ?c_node_for ?k_node_for ?a_walked ?l_walked ?c_walked ?k_walked ?a_lot_of ?l_lot_of ?c_lot_of ?k_lot_of ?a_tree_for ?l_tree_for ?c_tree_for ?k_tree_for ?a_members_of ?l_members_of ?c_members_of ?k_members_of ?a_wrong_at ?l_wrong_at ?c_wrong_at ?k_wrong_at ?a_wrong_lot ?l_wrong_lot ?c_wrong_lot ?k_wrong_lot ?a_sets_by ?l_sets_by ?c_sets_by ?k_sets_by ?a_wrong_node ?l_wrong_node ?c_wrong_node ?k_wrong_node ?a_wrong_tree ?l_wrong_tree ?c_wrong_tree ?k_wrong_tree ?a_law_is_brought ?l_law_is_brought ?c_law_is_brought ?k_law_is_brought ?a_law_pick ?l_law_pick ?c_law_pick ?k_law_pick ?a_law_set ?l_law_set ?c_law_set ?k_law_set ?a_law_side ?l_law_side ?c_law_side ?k_law_side ?a_law_worths ?l_law_worths ?c_law_worths ?k_law_worths ?a_law_query ?l_law_query ?c_law_query ?k_law_query ?a_law_kind ?l_law_kind ?c_law_kind ?k_law_kind ?a_law_spoilt ?l_law_spoilt ?c_law_spoilt ?k_law_spoilt ?a_low_of ?l_low_of ?c_low_of ?k_low_of ?a_law ?l_law ?c_law ?k_law ?z_int ?z_len ?z_abs ?z_range ?z_tuple ?z_list ?z_dict ?z_set ?z_any ?z_all ?z_max ?z_min ?z_zip ?z_sorted ?z_enumerate ?z_isinstance ?z_bool ?z_str ?a_EV ?t_EV ?t_EW ?a_NOTHING ?t_NOTHING ?a_OWN_FIELDS ?t_OWN_FIELDS ?a_FIELD_WORTHS ?t_FIELD_WORTHS ?a_PLAIN_WORTHS ?t_PLAIN_WORTHS ?a_LETTERS
    (case aCK => k_is)
    (case pgCK => k_is)
    (case hdCK => k_is)
    (case poCK => k_is)
    (case saCK => k_is)
    (case mkCK => k_is)
    (case kcCK => k_is)
    (case nCK_fields => k_is)
    (case aCK_init => k_is)
    (case iCK_init => k_is)
    (case lCK_init => k_is)
    (case cCK_init => k_is)
    (case kCK_init => k_is)
    (case aCK_place => k_is)
    (case iCK_place => k_is)
    (case lCK_place => k_is)
    (case cCK_place => k_is)
    (case kCK_place => k_is)
    (case aCK_is_event => k_is)
    (case iCK_is_event => k_is)
    (case lCK_is_event => k_is)
    (case cCK_is_event => k_is)
    (case kCK_is_event => k_is)
    (case aCS => k_is)
    (case pgCS => k_is)
    (case hdCS => k_is)
    (case poCS => k_is)
    (case saCS => k_is)
    (case mkCS => k_is)
    (case kcCS => k_is)
    (case nCS_kinds => k_is)
    (case nCS_kind => k_is)
    (case nCS_sets => k_is)
    (case aCS_init => k_is)
    (case iCS_init => k_is)
    (case lCS_init => k_is)
    (case cCS_init => k_is)
    (case kCS_init => k_is)
    (case aCS_told => k_is)
    (case iCS_told => k_is)
    (case lCS_told => k_is)
    (case cCS_told => k_is)
    (case kCS_told => k_is)
    (case aCS_is_empty => k_is)
    (case iCS_is_empty => k_is)
    (case lCS_is_empty => k_is)
    (case cCS_is_empty => k_is)
    (case kCS_is_empty => k_is)
    (case aCS_lets => k_is)
    (case iCS_lets => k_is)
    (case lCS_lets => k_is)
    (case cCS_lets => k_is)
    (case kCS_lets => k_is)
    (case aCS_places => k_is)
    (case iCS_places => k_is)
    (case lCS_places => k_is)
    (case cCS_places => k_is)
    (case kCS_places => k_is)
    (case aCE => k_is)
    (case pgCE => k_is)
    (case hdCE => k_is)
    (case poCE => k_is)
    (case saCE => k_is)
    (case mkCE => k_is)
    (case kcCE => k_is)
    (case nCE_side => k_is)
    (case nCE_told => k_is)
    (case aCE_init => k_is)
    (case iCE_init => k_is)
    (case lCE_init => k_is)
    (case cCE_init => k_is)
    (case kCE_init => k_is)
    (case aCE_form => k_is)
    (case iCE_form => k_is)
    (case lCE_form => k_is)
    (case cCE_form => k_is)
    (case kCE_form => k_is)
    (case aCW => k_is)
    (case pgCW => k_is)
    (case hdCW => k_is)
    (case poCW => k_is)
    (case saCW => k_is)
    (case mkCW => k_is)
    (case kcCW => k_is)
    (case nCW_side => k_is)
    (case nCW_by => k_is)
    (case nCW_length => k_is)
    (case nCW_step => k_is)
    (case nCW_worths => k_is)
    (case aCW_init => k_is)
    (case iCW_init => k_is)
    (case lCW_init => k_is)
    (case cCW_init => k_is)
    (case kCW_init => k_is)
    (case aCW_form => k_is)
    (case iCW_form => k_is)
    (case lCW_form => k_is)
    (case cCW_form => k_is)
    (case kCW_form => k_is)
    (case aCB => k_is)
    (case pgCB => k_is)
    (case hdCB => k_is)
    (case poCB => k_is)
    (case saCB => k_is)
    (case mkCB => k_is)
    (case kcCB => k_is)
    (case nCB_side => k_is)
    (case nCB_by => k_is)
    (case nCB_size => k_is)
    (case nCB_worths => k_is)
    (case aCB_init => k_is)
    (case iCB_init => k_is)
    (case lCB_init => k_is)
    (case cCB_init => k_is)
    (case kCB_init => k_is)
    (case aCB_form => k_is)
    (case iCB_form => k_is)
    (case lCB_form => k_is)
    (case cCB_form => k_is)
    (case kCB_form => k_is)
    (case aCN => k_is)
    (case pgCN => k_is)
    (case hdCN => k_is)
    (case poCN => k_is)
    (case saCN => k_is)
    (case mkCN => k_is)
    (case kcCN => k_is)
    (case nCN_side => k_is)
    (case nCN_by => k_is)
    (case nCN_gap => k_is)
    (case nCN_worths => k_is)
    (case aCN_init => k_is)
    (case iCN_init => k_is)
    (case lCN_init => k_is)
    (case cCN_init => k_is)
    (case kCN_init => k_is)
    (case aCN_form => k_is)
    (case iCN_form => k_is)
    (case lCN_form => k_is)
    (case cCN_form => k_is)
    (case kCN_form => k_is)
    (case aCP => k_is)
    (case pgCP => k_is)
    (case hdCP => k_is)
    (case poCP => k_is)
    (case saCP => k_is)
    (case mkCP => k_is)
    (case kcCP => k_is)
    (case nCP_first => k_is)
    (case nCP_second => k_is)
    (case nCP_first_keys => k_is)
    (case nCP_second_keys => k_is)
    (case nCP_mode => k_is)
    (case nCP_reach => k_is)
    (case nCP_first_told => k_is)
    (case nCP_second_told => k_is)
    (case aCP_init => k_is)
    (case iCP_init => k_is)
    (case lCP_init => k_is)
    (case cCP_init => k_is)
    (case kCP_init => k_is)
    (case aCP_form => k_is)
    (case iCP_form => k_is)
    (case lCP_form => k_is)
    (case cCP_form => k_is)
    (case kCP_form => k_is)
    (case aCL => k_is)
    (case pgCL => k_is)
    (case hdCL => k_is)
    (case poCL => k_is)
    (case saCL => k_is)
    (case mkCL => k_is)
    (case kcCL => k_is)
    (case nCL_first => k_is)
    (case nCL_second => k_is)
    (case nCL_first_keys => k_is)
    (case nCL_second_keys => k_is)
    (case nCL_reach => k_is)
    (case nCL_told => k_is)
    (case aCL_init => k_is)
    (case iCL_init => k_is)
    (case lCL_init => k_is)
    (case cCL_init => k_is)
    (case kCL_init => k_is)
    (case aCL_form => k_is)
    (case iCL_form => k_is)
    (case lCL_form => k_is)
    (case cCL_form => k_is)
    (case kCL_form => k_is)
    (case a_law_number => k_is)
    (case l_law_number => k_is)
    (case c_law_number => k_is)
    (case k_law_number => k_is)
    (case a_law_take => k_is)
    (case l_law_take => k_is)
    (case c_law_take => k_is)
    (case k_law_take => k_is)
    (case a_normal => k_is)
    (case l_normal => k_is)
    (case c_normal => k_is)
    (case k_normal => k_is)
    (case a_union => k_is)
    (case l_union => k_is)
    (case c_union => k_is)
    (case k_union => k_is)
    (case a_others => k_is)
    (case l_others => k_is)
    (case c_others => k_is)
    (case k_others => k_is)
    (case a_meet => k_is)
    (case l_meet => k_is)
    (case c_meet => k_is)
    (case k_meet => k_is)
    (case a_has => k_is)
    (case l_has => k_is)
    (case c_has => k_is)
    (case k_has => k_is)
    (case a_some_member => k_is)
    (case l_some_member => k_is)
    (case c_some_member => k_is)
    (case k_some_member => k_is)
    (case a_is_whole => k_is)
    (case l_is_whole => k_is)
    (case c_is_whole => k_is)
    (case k_is_whole => k_is)
    (case a_is_interval => k_is)
    (case l_is_interval => k_is)
    (case c_is_interval => k_is)
    (case k_is_interval => k_is)
    (case a_is_name => k_is)
    (case l_is_name => k_is)
    (case c_is_name => k_is)
    (case k_is_name => k_is)
    (case a_cuts_of => k_is)
    (case l_cuts_of => k_is)
    (case c_cuts_of => k_is)
    (case k_cuts_of => k_is)
    (case a_with_pair => k_is)
    (case l_with_pair => k_is)
    (case c_with_pair => k_is)
    (case k_with_pair => k_is)
    (case a_check_number => k_is)
    (case l_check_number => k_is)
    (case c_check_number => k_is)
    (case k_check_number => k_is)
    (case a_inner_cuts => k_is)
    (case l_inner_cuts => k_is)
    (case c_inner_cuts => k_is)
    (case k_inner_cuts => k_is)
    (case a_rows_within => k_is)
    (case l_rows_within => k_is)
    (case c_rows_within => k_is)
    (case k_rows_within => k_is)
    (case a_sides_of => k_is)
    (case l_sides_of => k_is)
    (case c_sides_of => k_is)
    (case k_sides_of => k_is)
    (case a_whole_box => k_is)
    (case l_whole_box => k_is)
    (case c_whole_box => k_is)
    (case k_whole_box => k_is)
    (case a_is_seen => k_is)
    (case l_is_seen => k_is)
    (case c_is_seen => k_is)
    (case k_is_seen => k_is)
    (case a_check_keys => k_is)
    (case l_check_keys => k_is)
    (case c_check_keys => k_is)
    (case k_check_keys => k_is)
    (case a_check_two => k_is)
    (case l_check_two => k_is)
    (case c_check_two => k_is)
    (case k_check_two => k_is)
    (case a_check_worths => k_is)
    (case l_check_worths => k_is)
    (case c_check_worths => k_is)
    (case k_check_worths => k_is)
    (case a_rows_of => k_is)
    (case l_rows_of => k_is)
    (case c_rows_of => k_is)
    (case k_rows_of => k_is)
    (case a_node_for => k_is)
    (case l_node_for => k_is)
    (case c_node_for => k_is)
    (case k_node_for => k_is)
    (case a_walked => k_is)
    (case l_walked => k_is)
    (case c_walked => k_is)
    (case k_walked => k_is)
    (case a_lot_of => k_is)
    (case l_lot_of => k_is)
    (case c_lot_of => k_is)
    (case k_lot_of => k_is)
    (case a_tree_for => k_is)
    (case l_tree_for => k_is)
    (case c_tree_for => k_is)
    (case k_tree_for => k_is)
    (case a_members_of => k_is)
    (case l_members_of => k_is)
    (case c_members_of => k_is)
    (case k_members_of => k_is)
    (case a_wrong_at => k_is)
    (case l_wrong_at => k_is)
    (case c_wrong_at => k_is)
    (case k_wrong_at => k_is)
    (case a_wrong_lot => k_is)
    (case l_wrong_lot => k_is)
    (case c_wrong_lot => k_is)
    (case k_wrong_lot => k_is)
    (case a_sets_by => k_is)
    (case l_sets_by => k_is)
    (case c_sets_by => k_is)
    (case k_sets_by => k_is)
    (case a_wrong_node => k_is)
    (case l_wrong_node => k_is)
    (case c_wrong_node => k_is)
    (case k_wrong_node => k_is)
    (case a_wrong_tree => k_is)
    (case l_wrong_tree => k_is)
    (case c_wrong_tree => k_is)
    (case k_wrong_tree => k_is)
    (case a_law_is_brought => k_is)
    (case l_law_is_brought => k_is)
    (case c_law_is_brought => k_is)
    (case k_law_is_brought => k_is)
    (case a_law_pick => k_is)
    (case l_law_pick => k_is)
    (case c_law_pick => k_is)
    (case k_law_pick => k_is)
    (case a_law_set => k_is)
    (case l_law_set => k_is)
    (case c_law_set => k_is)
    (case k_law_set => k_is)
    (case a_law_side => k_is)
    (case l_law_side => k_is)
    (case c_law_side => k_is)
    (case k_law_side => k_is)
    (case a_law_worths => k_is)
    (case l_law_worths => k_is)
    (case c_law_worths => k_is)
    (case k_law_worths => k_is)
    (case a_law_query => k_is)
    (case l_law_query => k_is)
    (case c_law_query => k_is)
    (case k_law_query => k_is)
    (case a_law_kind => k_is)
    (case l_law_kind => k_is)
    (case c_law_kind => k_is)
    (case k_law_kind => k_is)
    (case a_law_spoilt => k_is)
    (case l_law_spoilt => k_is)
    (case c_law_spoilt => k_is)
    (case k_law_spoilt => k_is)
    (case a_low_of => k_is)
    (case l_low_of => k_is)
    (case c_low_of => k_is)
    (case k_low_of => k_is)
    (case a_law => k_is)
    (case l_law => k_is)
    (case c_law => k_is)
    (case k_law => k_is)
    (case z_int => k_is)
    (case z_len => k_is)
    (case z_abs => k_is)
    (case z_range => k_is)
    (case z_tuple => k_is)
    (case z_list => k_is)
    (case z_dict => k_is)
    (case z_set => k_is)
    (case z_any => k_is)
    (case z_all => k_is)
    (case z_max => k_is)
    (case z_min => k_is)
    (case z_zip => k_is)
    (case z_sorted => k_is)
    (case z_enumerate => k_is)
    (case z_isinstance => k_is)
    (case z_bool => k_is)
    (case z_str => k_is)
    (case a_EV => k_is)
    (case t_EV => k_is)
    (case t_EW => k_is)
    (case a_NOTHING => k_is)
    (case t_NOTHING => k_is)
    (case a_OWN_FIELDS => k_is)
    (case t_OWN_FIELDS => k_is)
    (case a_FIELD_WORTHS => k_is)
    (case t_FIELD_WORTHS => k_is)
    (case a_PLAIN_WORTHS => k_is)
    (case t_PLAIN_WORTHS => k_is)
    (case a_LETTERS => k_is)
#print axioms PySem.Challenge.cw_streamsure_k07_whole_wrong_trees_holds
