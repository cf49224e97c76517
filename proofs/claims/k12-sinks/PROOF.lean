import PyProof.Rows.All
import Wide.All
import OpenK.AllK
import Wide.FinOn
import HandS.ForMost
import HandS.DictComp
import HandS.CallRecv
import PySem.Challenge.RW_streamsure_k12_whole_sinks
set_option Elab.async false
set_option maxRecDepth 100000
set_option maxHeartbeats 4000000
namespace S12
open PySem L2
def top (i : Nat) : Stmt := PySem.Challenge.pw_streamsure_k12_whole_sinks.main.body.getD i (.Pass ⟨0, 0, 0, 0⟩)
abbrev sInit : Stmt := inClass (top 1) 0
abbrev sTakeS : Stmt := inClass (top 1) 1
abbrev sAnsw : Stmt := inClass (top 1) 2
abbrev sNumber : Stmt := top 3
abbrev sTake : Stmt := top 4
abbrev sLaw : Stmt := top 5

/-- all but what stands at d is as it was -/
def But (d : Addr) (H H' : Hp) : Prop := ∀ b o, b ≠ d → H b = some o → H' b = some o
theorem But.of {d : Addr} {H H' : Hp} (h : Same H H') : But d H H' := fun b o _ e => h b o e
theorem But.trans {d : Addr} {H H1 H2 : Hp} (a : But d H H1) (b : But d H1 H2) : But d H H2 := fun c o n e => b c o n (a c o n e)
theorem But.upd {d : Addr} {H H' : Hp} {o : HO} (h : But d H H') : But d H (upd H' d o) := fun b u n e => by rw [upd_ne n]; exact h b u n e
theorem Same.new {H : Hp} {p : Addr} {o : HO} (h : H p = none) : Same H (upd H p o) := fun b u e => by rw [upd_ne (ne_of_none e h)]; exact e
/-- the draw: a list of the script and of how many were drawn -/
structure DrawAt (K : PySem.W.Frag) (H : Hp) (d : Addr) : Prop where
  at_ : ∃ (a : Addr) (ns : List Int) (n : Int), H d = some (.lst [.ref a, .int n]) ∧ SqL K H a (ns.map V.int)
theorem sql_but {K : PySem.W.Frag} {H H' : Hp} {a d : Addr} {xs : List V} (h : SqL K H a xs) (n : H a ≠ H d ∨ a ≠ d) (b : But d H H') : SqL K H' a xs := by
  rcases h with (h | ⟨o, h⟩) | h
  · refine .inl (.inl (b _ _ (fun e => ?_) h))
    rcases n with n | n
    · exact n (by rw [e])
    · exact n e
  · refine .inl (.inr ⟨o, b _ _ (fun e => ?_) h⟩)
    rcases n with n | n
    · exact n (by rw [e])
    · exact n e
  · exact .inr h
theorem sql_ne {K : PySem.W.Frag} {H : Hp} {a d : Addr} {ns : List Int} {x : Addr} {n : Int} (h : SqL K H a (ns.map V.int)) (hd : H d = some (.lst [.ref x, .int n])) : ∀ H', But d H H' → SqL K H' a (ns.map V.int) := by
  intro H' b
  rcases h with (h | ⟨o, h⟩) | h
  · refine .inl (.inl (b _ _ (fun e => ?_) h))
    rw [e, hd] at h
    injection h with h
    injection h with h
    cases ns with
    | nil => cases h
    | cons y r => injection h with h1 h2; cases h1
  · refine .inl (.inr ⟨o, b _ _ (fun e => ?_) h⟩)
    rw [e, hd] at h
    cases h
  · exact .inr h
structure DTxt (mg : Str → Option Value) : Prop where
  int : mg "int" = none
  len : mg "len" = none
  abs : mg "abs" = none
def spNumber (K : PySem.W.Frag) : Sp := fun vs H Q _ => ∃ (a : Addr) (ns : List Int) (i : Int), vs = [.ref a, .int i] ∧ SqL K H a (ns.map V.int) ∧ ∀ (v : Int) (H' : Hp), Same H H' → Q (.int v) H'
def spTake (K : PySem.W.Frag) : Sp := fun vs H Q _ => ∃ (d : Addr) (m : Int), vs = [.ref d, .int m] ∧ DrawAt K H d ∧ 0 < m ∧ ∀ (v : Int) (H' : Hp), 0 ≤ v → v < m → But d H H' → DrawAt K H' d → Q (.int v) H'
section
variable {P : Program} {w : World} {K : PySem.W.Frag} {mg : Str → Option Value} {base : Heap}
theorem dp_ints {K : PySem.W.Frag} {H : Hp} : ∀ ns : List Int, DpAll K H (ns.map V.int) (ns.map PyData.int)
  | [] => .nil
  | i :: r => .cons (.int i) (dp_ints r)
theorem scN : FnScope ["_law_script", "_law_index", "_law_cell", "_law_blend"] ["_law_script", "_law_index"] (defScope sNumber) := ⟨rfl, rfl, rfl, by decide +kernel, rfl, by decide +kernel, by decide +kernel⟩
theorem lay_ints : ∀ ns : List Int, PyData.canLayAll0 (ns.map PyData.int) = true
  | [] => rfl
  | i :: r => by
    show (PyData.canLay0 (.int i) && PyData.canLayAll0 (r.map PyData.int)) = true
    rw [lay_ints r]; rfl
theorem dep_ints : ∀ ns : List Int, PyData.depthAll (ns.map PyData.int) ≤ 1
  | [] => by decide
  | i :: r => by
    have h := dep_ints r
    show max (PyData.depth (.int i)) (PyData.depthAll (r.map PyData.int)) ≤ 1
    have e : PyData.depth (.int i) ≤ 1 := by first | (show 0 ≤ 1; decide) | (show 1 ≤ 1; decide)
    omega
theorem shp_ints (ns : List Int) : SeqAt.shaped (.list (ns.map PyData.int)) = true := by
  have h1 := lay_ints ns
  have h2 := dep_ints ns
  unfold SeqAt.shaped
  rw [Bool.and_eq_true]
  refine ⟨h1, decide_eq_true ?_⟩
  show PyData.depthAll (ns.map PyData.int) + 1 ≤ 64
  omega
theorem ok_number {f : Addr} {fd : FuncData} (F : Fun K "_law_number" "_law_number" sNumber f fd) (T : DTxt mg) : FnOk P w K mg base CX0 1 f fd ["_law_script", "_law_index"] (spNumber K) := by
  refine F.ok scN (fun vs H Q E h => ?_) (fun cdv A outer s H vs Q E hr h => ?_)
  · obtain ⟨a, ns, i, rfl, _⟩ := h
    rfl
  · obtain ⟨a, ns, i, rfl, hS, k⟩ := h
    refine ⟨_, pss_cons (ps_if (pt_cmpR (op_eqD hr.units) (pv 0) (pe_lst pa_nil) (nomark _)) (pss_one (ps_ret (pe_callTy call_int1 (by rfl) T.int (by decide +kernel) (pa_cons (pe_op op_mod (pe_op op_add (pe_op op_mul (pv 1) pe_int) pe_int) pe_int) pa_nil)))) pss_nil)
      (pss_cons (ps_set (i := 2) scN.nd rfl (Or.inl rfl) (pe_ix ix_list (pv 0) (pe_op op_mod (pv 1) (pe_callB call_len_seq (by rfl) T.len PySem.boot_len (pa_cons (pv 0) pa_nil))) (fun _ _ => rfl)))
      (pss_cons (ps_if (pt_cmpR op_ge (pe_callB call_abs (by rfl) T.abs (by decide +kernel) (pa_cons (pv 2) pa_nil)) (pe_op op_pow pe_int pe_int) (nomark _)) (pss_one (ps_set (i := 2) scN.nd rfl (Or.inl rfl) (pe_op op_mod (pv 2) (pe_op op_pow pe_int pe_int)))) pss_nil)
      (pss_cons (ps_set (i := 3) scN.nd rfl (Or.inl rfl) (pe_op op_mod (pe_op op_add (pe_op op_mul (pe_op op_add (pv 2) (pe_op op_mul pe_int (pv 1))) pe_int) (pe_op op_mul pe_int (pe_callB call_len_seq (by rfl) T.len PySem.boot_len (pa_cons (pv 0) pa_nil)))) pe_int))
      (pss_one (ps_ret (pe_callTy call_int1 (by rfl) T.int (by decide +kernel) (pa_cons (pe_op op_mod (pe_op op_add (pe_op op_mul (pe_op op_mod (pe_op op_mul (pv 3) pe_int) pe_int) pe_int) (pv 1)) pe_int) pa_nil))))))), ?_⟩
    refine ⟨_, rfl, Nat.zero_le _, fun p hp => ?_⟩
    have s1 : Same H (upd H p (.lst [])) := Same.new hp
    refine ⟨.list (ns.map .int), .list [], .lst (s1.seq hS) (dp_ints ns), .lst (SqL.of upd_same) .nil, shp_ints ns, shp_ints [], _, rfl, ?_⟩
    cases ns with
    | nil =>
      refine iteT ?_
      refine ⟨_, rfl, _, _, rfl, rfl, .inr (by decide), _, _, rfl, rfl, _, _, rfl, rfl, (by show (0 : Int) < 2147483647; decide), .inl ⟨_, rfl, k _ _ s1⟩⟩
    | cons n0 r =>
      refine iteF ?_
      have hl : 0 < (((n0 :: r).map V.int).length : Int) := by simp only [List.map_cons, List.length_cons]; omega
      refine ⟨_, rfl, _, rfl, _, rfl, a, _, rfl, .inl (s1.seq hS), _, _, rfl, rfl, hl, ?_⟩
      have hm0 := Int.emod_nonneg i (Int.ne_of_gt hl)
      have hm1 := Int.emod_lt_of_pos i hl
      obtain ⟨j, hj⟩ : ∃ j : Nat, i % (((n0 :: r).map V.int).length : Int) = (j : Int) := ⟨_, (Int.toNat_of_nonneg hm0).symm⟩
      have hjl : j < (n0 :: r).length := by
        rw [hj, List.length_map] at hm1
        omega
      refine ⟨a, _, _, V.int ((n0 :: r)[j]), rfl, rfl, s1.seq hS, ?_, ?_⟩
      · rw [hj]
        refine atI_nat ?_
        rw [List.getElem?_map, List.getElem?_eq_getElem hjl]
        rfl
      · refine ⟨_, rfl, _, rfl, _, _, rfl, rfl, ⟨by decide, by decide, by decide⟩, _, _, rfl, rfl, _, rfl, ?_⟩
        refine ite2 (fun _ => ?_) (fun _ => ?_)
        · refine ⟨_, rfl, _, _, rfl, rfl, ⟨by decide, by decide, by decide⟩, _, _, rfl, rfl, (by show (0 : Int) < 10 ^ 18; decide), ?_⟩
          refine ⟨_, rfl, _, rfl, _, _, rfl, rfl, .inl (by decide), _, _, rfl, rfl, _, _, rfl, rfl, .inr (by decide), _, rfl, a, _, rfl, .inl (s1.seq hS), _, _, rfl, rfl, .inl (by decide), _, _, rfl, rfl, _, _, rfl, rfl, (by show (0 : Int) < 2147483647; decide), ?_⟩
          exact ⟨_, rfl, _, _, rfl, rfl, .inr (by decide), _, _, rfl, rfl, (by show (0 : Int) < 2147483629; decide), _, _, rfl, rfl, .inr (by decide), _, rfl, _, _, rfl, rfl, _, _, rfl, rfl, (by show (0 : Int) < 2147483587; decide), .inl ⟨_, rfl, k _ _ s1⟩⟩
        · refine ⟨_, rfl, _, rfl, _, _, rfl, rfl, .inl (by decide), _, _, rfl, rfl, _, _, rfl, rfl, .inr (by decide), _, rfl, a, _, rfl, .inl (s1.seq hS), _, _, rfl, rfl, .inl (by decide), _, _, rfl, rfl, _, _, rfl, rfl, (by show (0 : Int) < 2147483647; decide), ?_⟩
          exact ⟨_, rfl, _, _, rfl, rfl, .inr (by decide), _, _, rfl, rfl, (by show (0 : Int) < 2147483629; decide), _, _, rfl, rfl, .inr (by decide), _, rfl, _, _, rfl, rfl, _, _, rfl, rfl, (by show (0 : Int) < 2147483587; decide), .inl ⟨_, rfl, k _ _ s1⟩⟩

theorem get_list {X : Cx} : PGet X (rIxL X.K) := by
  intro pins s σ H x y v u Q I rx ry h
  obtain ⟨p, xs, i, z, rfl, rfl, hq, he, q⟩ := h
  cases rx
  obtain ⟨t, rfl⟩ := ry
  obtain ⟨its, r, pl, hz⟩ := I.list hq
  obtain ⟨j, h1, h2, h3, h4, h5⟩ := atI_get he
  obtain ⟨w, ew, rw'⟩ := r.get h2
  have hl := r.length
  have hn := line63
  have fin : EP X pins σ Q w s := ⟨z, H, I, rw', q⟩
  by_cases h0 : 0 ≤ i
  · have hj : i.toNat = j := by
      rw [seqIndex_of h0 h5] at h1
      exact Option.some.inj h1
    exact wpAny_getItem_list pl.isList h0 (by omega) (by rw [hj]; simpa using ew) fin
  · have hj : (i + (its.toArray.size : Int)).toNat = j := by
      rw [seqIndex_neg (by omega) h4] at h1
      rw [List.size_toArray, ← hl]
      exact Option.some.inj h1
    exact wpAny_getItem_list_neg pl.isList (by omega) (by rw [List.size_toArray] <;> omega) (by omega) (by rw [hj]; simpa using ew) fin
theorem scT : FnScope ["_law_draw", "_law_many"] ["_law_draw", "_law_many"] (defScope sTake) := ⟨rfl, rfl, rfl, by decide +kernel, rfl, by decide +kernel, by decide +kernel⟩
theorem ok_take {f fN : Addr} {fd fdN : FuncData} (F : Fun K "_law_take" "_law_take" sTake f fd) (T : DTxt mg) (FN : Fun K "_law_number" "_law_number" sNumber fN fdN) (bN : Binds K fdN ["_law_script", "_law_index"] []) (mN : mg "_law_number" = some (.ref fN)) :
    FnOk P w K mg base CX0 2 f fd ["_law_draw", "_law_many"] (spTake K) := by
  have GN : FnOk P w K mg base CX0 1 fN fdN ["_law_script", "_law_index"] (spNumber K) := ok_number FN T
  refine F.ok scT (fun vs H Q E h => ?_) (fun cdv A outer s H vs Q E hr h => ?_)
  · obtain ⟨d, m, rfl, _⟩ := h
    rfl
  · obtain ⟨d, m, rfl, ⟨a, ns, n, hd, hS⟩, hm, k⟩ := h
    refine ⟨_, pss_cons (ps_augS (pv 0) pe_int get_list pe_int ip_add set_list)
      (pss_one (ps_ret (pe_op op_mod (pe_callTy call_int1 (by rfl) T.int (by decide +kernel) (pa_cons (pe_call GN hr rfl mN FN.kp bN .nil pass0 (pa_cons (pe_ix ix_list (pv 0) pe_int (fun _ _ => rfl)) (pa_cons (pe_callTy call_int1 (by rfl) T.int (by decide +kernel) (pa_cons (pe_ix ix_list (pv 0) pe_int (fun _ _ => rfl)) pa_nil)) pa_nil))) pa_nil)) (pv 1)))), ?_⟩
    have b1 : But d H (upd H d (.lst [.ref a, .int (n + 1)])) := (But.of (Same.refl H)).upd
    have hd1 : (upd H d (.lst [.ref a, .int (n + 1)])) d = some (.lst [.ref a, .int (n + 1)]) := upd_same
    have hS1 := sql_ne hS hd _ b1
    refine ⟨_, rfl, d, _, 1, .int n, rfl, rfl, SqL.of hd, rfl, n, 1, rfl, rfl, d, _, 1, 1, rfl, rfl, hd, rfl, ?_⟩
    refine ⟨_, rfl, d, _, 0, .ref a, rfl, rfl, SqL.of hd1, rfl, ?_⟩
    refine ⟨_, rfl, d, _, 1, .int (n + 1), rfl, rfl, SqL.of hd1, rfl, .inl ⟨_, rfl, a, ns, _, rfl, hS1, fun v H' s' => ?_⟩⟩
    refine .inl ⟨v, rfl, _, rfl, v, m, rfl, rfl, hm, ?_⟩
    have b2 : But d H H' := b1.trans (But.of s')
    exact k _ _ (Int.emod_nonneg v (Int.ne_of_gt hm)) (Int.emod_lt_of_pos v hm) b2 ⟨a, ns, n + 1, s' _ _ hd1, s'.seq hS1⟩
end
end S12

namespace S12
open PySem L2
/-! ### dicts with equal values, objects among them -/
theorem hits_same {A : Around} {s : Shared} {κ : Type} [DecidableEq κ] {kvs : List (κ × V)} {vb : List (κ × Value)} (rb : KV kvs vb) {ks : List (κ × V)} {va : List (κ × Value)} (ra : KV ks va) :
    (∀ p ∈ ks, valV kvs p.1 = some p.2 ∧ ∃ a, p.2 = .ref a) → PySem.W.KeqHits A s vb va true := by
  unfold KV at ra
  induction ra with
  | nil => intro _; exact .nil
  | @cons p q ps qs h t ih =>
    intro hp
    obtain ⟨h1, h2⟩ := h
    obtain ⟨e, a, f⟩ := hp p List.mem_cons_self
    have rr : RelO (some p.2) (valueAt vb p.1) := by rw [← e]; exact rb.val p.1
    obtain ⟨y, hy, ry⟩ := rr.some_of
    obtain ⟨k, v⟩ := q
    have h1' : p.1 = k := h1
    rw [h1'] at hy
    rw [f] at h2 ry
    have e1 : v = Value.ref a := h2
    have e2 : y = Value.ref a := ry
    show PySem.W.KeqHits A s vb ((k, v) :: qs) (true && true)
    refine .hit hy ?_ (ih fun p' hm => hp p' (List.mem_cons_of_mem _ hm))
    rw [e1, e2]
    exact SeqAt.EqAt.same _
def rNeDS : R2 := fun x y H Q => ∃ a b ks, x = .ref a ∧ y = .ref b ∧ H a = some (.dK ks) ∧ H b = some (.dK ks) ∧ (ks.map (·.1)).Nodup ∧ (∀ p ∈ ks, ∃ r, p.2 = .ref r) ∧ Q (.bl false) H
theorem op_ne_dictS {X : Cx} (hu : X.A.units < cLine) : OpR X (compareOp .NotEq) rNeDS := by
  intro pins s σ H x y v u Q I rx ry h
  obtain ⟨a, b, ks, rfl, rfl, ea, eb, nd, hp, q⟩ := h
  obtain rfl : v = Value.ref a := rx
  obtain rfl : u = Value.ref b := ry
  obtain ⟨_, ya, va, ra, da⟩ := (show ObjOk X.prog X.w H s.heap a (.dK ks) from I.hok a _ ea)
  obtain ⟨_, yb, vb, rb, db⟩ := (show ObjOk X.prog X.w H s.heap b (.dK ks) from I.hok b _ eb)
  have hl : va.length = vb.length := by rw [← ra.length, ← rb.length]
  exact PySem.W.keq_ne (knd := mixKind X.prog X.w) (r := true) ya yb da db hu (fun _ => hits_same rb ra fun p hm => ⟨val_nodup nd p hm, hp p hm⟩) (fin_bl I q (by simp [hl]))

/-! ### the data -/
/-- the attributes of a sink -/
def flds (d : Addr) : List (Str × V) := [("kept", .ref d)]
theorem flds_kept (d : Addr) : (flds d).lookup ("kept" : Str) = some (.ref d) := by
  show (match (("kept" : Str) == "kept") with | true => some (V.ref d) | false => none) = _
  rw [show (("kept" : Str) == "kept") = true by decide +kernel]
theorem flds_no (d : Addr) {m : Str} (h : (m == ("kept" : Str)) = false) : (flds d).lookup m = none := by
  show (match (m == ("kept" : Str)) with | true => some (V.ref d) | false => none) = _
  rw [h]
abbrev Kvs := List (Key × V)
/-- keys from 0 to 7, none twice; values tuples of one int -/
structure Good (H : Hp) (kvs : Kvs) : Prop where
  nd : (kvs.map (·.1)).Nodup
  key : ∀ p ∈ kvs, ∃ n : Int, p.1 = Sum.inl n ∧ 0 ≤ n ∧ n < 8
  val : ∀ p ∈ kvs, ∃ r x, p.2 = .ref r ∧ H r = some (.tup [.int x])
structure SinkAt (C : Addr) (H : Hp) (p d : Addr) (kvs : Kvs) : Prop where
  ob : ∃ dx, H p = some (.ins C dx (flds d))
  dc : H d = some (.dK kvs)
def vk (kvs : Kvs) (n : Nat) : Option V := valV kvs (Sum.inl (n : Int) : Key)
/-- what is kept behind one more answer -/
def taken (kvs : Kvs) (n : Int) (v : V) : Kvs := match valV kvs (Sum.inl n : Key) with | some _ => kvs | none => kvs ++ [(Sum.inl n, v)]
/-- the first m keys are there, the next one is not, their values are vs -/
def Row (kvs : Kvs) (vs : List V) : Prop := (∀ i, i < vs.length → vk kvs i = vs[i]?) ∧ vk kvs vs.length = none
theorem mem_of_valV {κ : Type} [DecidableEq κ] {kvs : List (κ × V)} {k : κ} {v : V} (h : valV kvs k = some v) : (k, v) ∈ kvs := by
  unfold valV at h
  cases e : kvs.find? fun kv => decide (kv.1 = k) with
  | none => rw [e] at h; cases h
  | some p =>
    rw [e] at h
    have h1 := List.find?_some e
    have h2 := List.mem_of_find?_eq_some e
    have h3 : p.1 = k := of_decide_eq_true h1
    have h4 : p.2 = v := Option.some.inj h
    rw [← h3, ← h4]
    exact h2
theorem Good.mono {H H' : Hp} {kvs : Kvs} (g : Good H kvs) (h : ∀ r xs, H r = some (.tup xs) → H' r = some (.tup xs)) : Good H' kvs :=
  ⟨g.nd, g.key, fun p hp => let ⟨r, x, e, hr⟩ := g.val p hp; ⟨r, x, e, h _ _ hr⟩⟩
theorem Good.taken {H : Hp} {kvs : Kvs} (g : Good H kvs) {n : Int} (h0 : 0 ≤ n) (h8 : n < 8) {r : Addr} {x : Int} (hr : H r = some (.tup [.int x])) : Good H (taken kvs n (.ref r)) := by
  unfold S12.taken
  cases e : valV kvs (Sum.inl n : Key) with
  | some v => exact g
  | none =>
    refine ⟨?_, ?_, ?_⟩
    · rw [List.map_append]
      refine List.nodup_append.mpr ⟨g.nd, by simp, ?_⟩
      intro a ha b hb
      have hb' : b = Sum.inl n := by simpa using hb
      rintro rfl
      rw [hb'] at ha
      obtain ⟨p, hp, e1⟩ := List.mem_map.mp ha
      have : (kvs.any fun kv => decide (kv.1 = (Sum.inl n : Key))) = true := List.any_eq_true.mpr ⟨p, hp, decide_eq_true e1⟩
      rw [valV_any, e] at this
      cases this
    · intro p hp
      rcases List.mem_append.mp hp with q | q
      · exact g.key p q
      · have : p = (Sum.inl n, V.ref r) := by simpa using q
        rw [this]
        exact ⟨n, rfl, h0, h8⟩
    · intro p hp
      rcases List.mem_append.mp hp with q | q
      · exact g.val p q
      · have : p = (Sum.inl n, V.ref r) := by simpa using q
        rw [this]
        exact ⟨r, x, rfl, hr⟩
theorem Good.key8 {H : Hp} {kvs : Kvs} (g : Good H kvs) {n : Nat} {v : V} (h : vk kvs n = some v) : n < 8 := by
  obtain ⟨m, e, h0, h8⟩ := g.key _ (mem_of_valV h)
  have : (n : Int) = m := Sum.inl.inj e
  omega
theorem len_taken (kvs : Kvs) (n : Int) (v : V) : (taken kvs n v).length ≤ kvs.length + 1 := by
  unfold taken
  cases valV kvs (Sum.inl n : Key) with
  | some _ => exact Nat.le_succ _
  | none => rw [List.length_append]; exact Nat.le_refl _
theorem row_one {kvs : Kvs} {vs ws : List V} (h : Row kvs vs) (h' : Row kvs ws) : vs = ws := by
  have aux : ∀ {vs ws : List V}, Row kvs vs → Row kvs ws → ¬ vs.length < ws.length := by
    intro vs ws h h' lt
    have e1 := h'.1 _ lt
    rw [h.2, List.getElem?_eq_getElem lt] at e1
    cases e1
  have e : vs.length = ws.length := by
    have := aux h h'
    have := aux h' h
    omega
  apply List.ext_getElem? 
  intro i
  by_cases hi : i < vs.length
  · rw [← h.1 i hi, ← h'.1 i (e ▸ hi)]
  · rw [List.getElem?_eq_none (by omega), List.getElem?_eq_none (by omega)]

def spInit (C : Addr) : Sp := fun vs H Q _ => ∃ (p dx : Addr), vs = [.ref p] ∧ H p = some (.ins C dx []) ∧ ∀ (d : Addr) (H' : Hp), H d = none → SinkAt C H' p d [] → (∀ b o, H b = some o → b ≠ p → H' b = some o) → Q .non H'
def spTakeS (C : Addr) : Sp := fun vs H Q _ => ∃ (p d : Addr) (kvs : Kvs) (n : Int) (v : V), vs = [.ref p, .int n, v] ∧ SinkAt C H p d kvs ∧ kvs.length ≤ 100 ∧ ∀ H', But d H H' → SinkAt C H' p d (taken kvs n v) → Q .non H'
def spAnsw (C : Addr) : Sp := fun vs H Q _ => ∃ (p d : Addr) (kvs : Kvs), vs = [.ref p] ∧ SinkAt C H p d kvs ∧ Good H kvs ∧ ∀ (a : Addr) (xs : List V) (H' : Hp), Same H H' → Row kvs xs → xs.length ≤ 8 → H' a = some (.tup xs) → Q (.ref a) H'
structure Txt (K : PySem.W.Frag) (mg : Str → Option Value) (C : Addr) : Prop where
  cl : Cls K C
  nK : NoAttr K C "kept"
  mgC : mg "Sink" = some (.ref C)
  tuple : mg "tuple" = none
  range : mg "range" = none
  d : DTxt mg
section
variable {P : Program} {w : World} {K : PySem.W.Frag} {mg : Str → Option Value} {base : Heap}
theorem scI : FnScope ["self"] ["self"] (defScope sInit) := ⟨rfl, rfl, rfl, by decide +kernel, rfl, by decide +kernel, by decide +kernel⟩
theorem ok_init {f C : Addr} {fd : FuncData} (F : Fun K "__init__" "Sink.__init__" sInit f fd) (T : Txt K mg C) : FnOk P w K mg base CX0 1 f fd ["self"] (spInit C) := by
  refine F.ok scI (fun vs H Q E h => ?_) (fun cdv A outer s H vs Q E hr h => ?_)
  · obtain ⟨p, dx, rfl, _⟩ := h
    rfl
  · obtain ⟨p, dx, rfl, hp, k⟩ := h
    refine ⟨_, pss_one (ps_fld (pv 0) pe_dnewK rfl), ?_⟩
    intro d hd
    have npd : p ≠ d := ne_of_none hp hd
    refine ⟨_, rfl, p, C, dx, [], rfl, (by rw [upd_ne npd]; exact hp), T.cl, T.nK, (by show 0 < 1000; decide), ?_⟩
    refine k d _ hd ⟨⟨dx, upd_same⟩, by rw [upd_ne npd.symm, upd_same]⟩ fun b o e hb => ?_
    rw [upd_ne hb, upd_ne (ne_of_none e hd)]
    exact e
theorem scTS : FnScope ["self", "number", "answer"] ["self", "number", "answer"] (defScope sTakeS) := ⟨rfl, rfl, rfl, by decide +kernel, rfl, by decide +kernel, by decide +kernel⟩
theorem ok_takeS {f C : Addr} {fd : FuncData} (F : Fun K "take" "Sink.take" sTakeS f fd) (T : Txt K mg C) : FnOk P w K mg base CX0 1 f fd ["self", "number", "answer"] (spTakeS C) := by
  refine F.ok scTS (fun vs H Q E h => ?_) (fun cdv A outer s H vs Q E hr h => ?_)
  · obtain ⟨p, d, kvs, n, v, rfl, _⟩ := h
    rfl
  · obtain ⟨p, d, kvs, n, v, rfl, S, hl, k⟩ := h
    have hu := hu_of hr
    obtain ⟨⟨dx, h1⟩, hd⟩ := id S
    have npd : p ≠ d := ne_of h1 hd (by intro z; cases z)
    refine ⟨_, pss_one (ps_if (pt_cmp (pc_dnotin hu (pv 1) (pe_fld (pv 0) rfl))) (pss_one (ps_dput hu (pe_fld (pv 0) rfl) (pv 1) (pv 2) rfl)) pss_nil), ?_⟩
    refine ⟨_, rfl, _, rfl, p, C, dx, _, _, rfl, h1, T.cl, T.nK, flds_kept _, d, _, rfl, DGet.k (k := Sum.inl n) hd, _, rfl, ?_⟩
    cases e : valV kvs (Sum.inl n : Key) with
    | some y =>
      refine iteF ?_
      have et : taken kvs n v = kvs := by unfold taken; rw [e]
      refine k H (But.of (Same.refl H)) ?_
      rw [et]
      exact S
    | none =>
      refine iteT ?_
      have et : taken kvs n v = putK kvs (Sum.inl n : Key) v := by rw [putK_new _ e]; unfold taken; rw [e]
      refine ⟨_, rfl, _, rfl, p, C, dx, _, _, rfl, h1, T.cl, T.nK, flds_kept _, _, rfl, d, _, rfl, DPut.k (k := Sum.inl n) hd (small1000 (by omega)), ?_⟩
      refine k _ (But.of (Same.refl H)).upd ?_
      rw [et]
      exact ⟨⟨dx, by rw [upd_ne npd]; exact h1⟩, upd_same⟩
theorem scA : FnScope ["self", "found"] ["self"] (defScope sAnsw) := ⟨rfl, rfl, rfl, by decide +kernel, rfl, by decide +kernel, by decide +kernel⟩
theorem ok_answ {f C : Addr} {fd : FuncData} (F : Fun K "answers" "Sink.answers" sAnsw f fd) (T : Txt K mg C) : FnOk P w K mg base CX0 1 f fd ["self"] (spAnsw C) := by
  refine F.ok scA (fun vs H Q E h => ?_) (fun cdv A outer s H vs Q E hr h => ?_)
  · obtain ⟨p, d, kvs, rfl, _⟩ := h
    rfl
  · obtain ⟨p, d, kvs, rfl, S, G, k⟩ := h
    have hu := hu_of hr
    obtain ⟨⟨dx, h1⟩, hd⟩ := id S
    refine ⟨_, pss_cons (ps_set (i := 1) scA.nd rfl (Or.inl rfl) (pe_lst pa_nil))
      (pss_cons (ps_while PassesOwn.never (pt_cmp (pc_din hu (pe_callB call_len_seq (by rfl) T.d.len PySem.boot_len (pa_cons (pv 1) pa_nil)) (pe_fld (pv 0) rfl)))
        (pss_one (ps_expr (pe_bm PySem.F.plainAttrs_list PySem.F.slot_list_append PySem.F.type_list_append mt_append (pv 1) (pa_cons (pe_dget hu (pe_fld (pv 0) rfl) (pe_callB call_len_seq (by rfl) T.d.len PySem.boot_len (pa_cons (pv 1) pa_nil)) (fun _ _ => rfl)) pa_nil)))))
      (pss_one (ps_ret (pe_callTy call_tuple_of (by rfl) T.tuple (by decide +kernel) (pa_cons (pv 1) pa_nil))))), ?_⟩
    refine ⟨Nat.zero_le _, fun l hl => ?_⟩
    refine ⟨fun m σ H' => ∃ xs : List V, σ = [some (.ref p), some (.ref l)] ∧ But l H H' ∧ H l = none ∧ H' l = some (.lst xs) ∧ (∀ i, i < xs.length → vk kvs i = xs[i]?) ∧ xs.length ≤ 8 ∧ m = 8 - xs.length, ⟨8, [], rfl, (But.of (Same.refl H)).upd, hl, upd_same, fun i hi => absurd hi (Nat.not_lt_zero i), Nat.zero_le _, rfl⟩, ?_⟩
    rintro m σ H' ⟨xs, rfl, bt, hl0, hL, hx, h8, rfl⟩
    have h1' : H' p = some (.ins C dx (flds d)) := bt _ _ (ne_of_none h1 hl0) h1
    have hd' : H' d = some (.dK kvs) := bt _ _ (ne_of_none hd hl0) hd
    refine ⟨_, rfl, l, xs, rfl, .inl (SqL.of hL), _, rfl, p, C, dx, _, _, rfl, h1', T.cl, T.nK, flds_kept _, d, _, rfl, DGet.k (k := Sum.inl (xs.length : Int)) hd', _, rfl, ?_⟩
    cases e : valV kvs (Sum.inl (xs.length : Int) : Key) with
    | some y =>
      refine iteT ?_
      have hk8 : xs.length < 8 := G.key8 e
      refine ⟨fun σ' H'' => ∃ m', m' < 8 - xs.length ∧ ∃ ys : List V, σ' = [some (.ref p), some (.ref l)] ∧ But l H H'' ∧ H l = none ∧ H'' l = some (.lst ys) ∧ (∀ i, i < ys.length → vk kvs i = ys[i]?) ∧ ys.length ≤ 8 ∧ m' = 8 - ys.length, fun σ' H'' h => h, ?_⟩
      have dg : DGet H' d (V.int (xs.length : Int)) (some y) := by
        have := DGet.k (k := Sum.inl (xs.length : Int)) hd'
        rw [e] at this
        exact this
      refine ⟨_, rfl, .inl ⟨rfl, _, SqL.of hL⟩, _, rfl, p, C, dx, _, _, rfl, h1', T.cl, T.nK, flds_kept _, ?_⟩
      refine ⟨_, rfl, l, xs, rfl, .inl (SqL.of hL), d, y, rfl, dg, l, xs, y, rfl, rfl, hL, Nat.lt_of_le_of_lt h8 (by decide), ?_⟩
      refine ⟨8 - (xs ++ [y]).length, by rw [List.length_append, List.length_singleton]; omega, xs ++ [y], rfl, bt.upd, hl0, upd_same, fun i hi => ?_, by rw [List.length_append, List.length_singleton]; omega, rfl⟩
      rw [List.length_append, List.length_singleton] at hi
      by_cases hi' : i < xs.length
      · rw [List.getElem?_append_left hi', hx i hi']
      · have ei : i = xs.length := by omega
        subst ei
        rw [List.getElem?_append_right (Nat.le_refl _), Nat.sub_self]
        exact e
    | none =>
      refine iteF ?_
      have sm : Same H H' := fun b o eb => bt b o (ne_of_none eb hl0) eb
      exact ⟨_, rfl, l, xs, rfl, .inl ⟨SqL.of hL, fun t ht => k t xs _ (sm.trans (Same.new ht)) ⟨hx, e⟩ h8 upd_same⟩⟩
end
end S12

namespace S12
open PySem L2
theorem lay_vals {K : PySem.W.Frag} {H : Hp} : ∀ xs : List V, (∀ v ∈ xs, ∃ r x, v = .ref r ∧ H r = some (.tup [.int x])) → ∃ ds, DpAll K H xs ds ∧ PyData.canLayAll0 ds = true ∧ PyData.depthAll ds ≤ 2
  | [], _ => ⟨[], .nil, rfl, by decide⟩
  | v :: r, h => by
    obtain ⟨ds, h1, h2, h3⟩ := lay_vals (K := K) r fun v hv => h v (List.mem_cons_of_mem _ hv)
    obtain ⟨a, x, rfl, ha⟩ := h v List.mem_cons_self
    refine ⟨.tuple [.int x] :: ds, .cons (.tup (SqT.of ha) (.cons (.int x) .nil)) h1, ?_, ?_⟩
    · show (PyData.canLay0 (.tuple [.int x]) && PyData.canLayAll0 ds) = true
      rw [h2]; rfl
    · have e : PyData.depth (.tuple [.int x]) ≤ 2 := by
        show max (PyData.depth (.int x)) (PyData.depthAll []) + 1 ≤ 2
        first | (show max 0 0 + 1 ≤ 2; decide) | (show max 1 0 + 1 ≤ 2; decide)
      show max (PyData.depth (.tuple [.int x])) (PyData.depthAll ds) ≤ 2
      omega
theorem Row.vals {H : Hp} {kvs : Kvs} (G : Good H kvs) {xs : List V} (h : Row kvs xs) : ∀ v ∈ xs, ∃ r x, v = .ref r ∧ H r = some (.tup [.int x]) := by
  intro v hv
  obtain ⟨i, hi, e⟩ := List.mem_iff_getElem.mp hv
  have e1 := h.1 i hi
  rw [List.getElem?_eq_getElem hi, e] at e1
  exact G.val _ (mem_of_valV e1)
def spLaw (K : PySem.W.Frag) : Sp := fun vs H Q _ => ∃ (a : Addr) (ns : List Int), vs = [.ref a] ∧ SqL K H a (ns.map V.int) ∧ ns.length ≤ 63 ∧ ∀ H', Q (.bl true) H'
abbrev NL : List Str := ["_law_script", "_law_draw", "_law_sink", "_law_known", "_law_turn", "_law_number_here", "_law_answer", "_law_many", "_law_at"]
section
variable {P : Program} {w : World} {K : PySem.W.Frag} {mg : Str → Option Value} {base : Heap}
theorem scL : FnScope NL ["_law_script"] (defScope sLaw) := ⟨rfl, rfl, rfl, by decide +kernel, rfl, by decide +kernel, by decide +kernel⟩
/-- what stands between two turns -/
structure Between (K : PySem.W.Frag) (C : Addr) (H : Hp) (dr x d kd : Addr) (kvs : Kvs) : Prop where
  D : DrawAt K H dr
  S : SinkAt C H x d kvs
  kn : H kd = some (.dK kvs)
  ne : d ≠ kd
  G : Good H kvs
theorem Between.but {C : Addr} {H H' : Hp} {dr x d kd : Addr} {kvs : Kvs} (B : Between K C H dr x d kd kvs) (b : But dr H H') (D' : DrawAt K H' dr) : Between K C H' dr x d kd kvs := by
  obtain ⟨a, ns, n, hd, _⟩ := B.D
  obtain ⟨dx, h1⟩ := B.S.ob
  have n1 : x ≠ dr := ne_of h1 hd (by intro z; cases z)
  have n2 : d ≠ dr := ne_of B.S.dc hd (by intro z; cases z)
  have n3 : kd ≠ dr := ne_of B.kn hd (by intro z; cases z)
  exact ⟨D', ⟨⟨dx, b _ _ n1 h1⟩, b _ _ n2 B.S.dc⟩, b _ _ n3 B.kn, B.ne, B.G.mono fun r xs h => b _ _ (ne_of h hd (by intro z; cases z)) h⟩
theorem Between.same {C : Addr} {H H' : Hp} {dr x d kd : Addr} {kvs : Kvs} (B : Between K C H dr x d kd kvs) (b : Same H H') : Between K C H' dr x d kd kvs := by
  obtain ⟨a, ns, n, hd, hs⟩ := B.D
  exact B.but (But.of b) ⟨a, ns, n, b _ _ hd, b.seq hs⟩
theorem ok_law {f fN fT C fI fS fA : Addr} {fd fdN fdT fdI fdS fdA : FuncData} (F : Fun K "law" "law" sLaw f fd) (T : Txt K mg C) (M : Mk K C fI)
    (FN : Fun K "_law_number" "_law_number" sNumber fN fdN) (bN : Binds K fdN ["_law_script", "_law_index"] []) (mN : mg "_law_number" = some (.ref fN))
    (FT : Fun K "_law_take" "_law_take" sTake fT fdT) (bT : Binds K fdT ["_law_draw", "_law_many"] []) (mT : mg "_law_take" = some (.ref fT))
    (FI : Fun K "__init__" "Sink.__init__" sInit fI fdI) (bI : Binds K fdI ["self"] [])
    (FS : Fun K "take" "Sink.take" sTakeS fS fdS) (bS : Binds K fdS ["self", "number", "answer"] []) (mS : Meth K C "take" fS)
    (FA : Fun K "answers" "Sink.answers" sAnsw fA fdA) (bA : Binds K fdA ["self"] []) (mA : Meth K C "answers" fA) : FnOk P w K mg base CX0 3 f fd ["_law_script"] (spLaw K) := by
  have GT : FnOk P w K mg base CX0 2 fT fdT ["_law_draw", "_law_many"] (spTake K) := ok_take FT T.d FN bN mN
  have GI : FnOk P w K mg base CX0 1 fI fdI ["self"] (spInit C) := ok_init FI T
  have GS : FnOk P w K mg base CX0 1 fS fdS ["self", "number", "answer"] (spTakeS C) := ok_takeS FS T
  have GA : FnOk P w K mg base CX0 1 fA fdA ["self"] (spAnsw C) := ok_answ FA T
  refine F.ok scL (fun vs H Q E h => ?_) (fun cdv A outer s H vs Q E hr h => ?_)
  · obtain ⟨a, ns, rfl, _⟩ := h
    rfl
  · obtain ⟨a, ns, rfl, hS, hlen, k⟩ := h
    have hu := hu_of hr
    have hr1 : Room 1 _ := hr.mono (by decide)
    refine ⟨_, pss_cons (ps_set (i := 1) scL.nd rfl (Or.inl rfl) (pe_lst (pa_cons (pv 0) (pa_cons pe_int pa_nil))))
      (pss_cons (ps_asg (pe_tup (pa_cons (pe_make0 M GI hr rfl T.mgC bI .nil pass0) (pa_cons pe_dnewK pa_nil))) (pg_tup rfl (pgs_cons (pg_name (i := 2) scL.nd rfl (Or.inl rfl)) (pgs_cons (pg_name (i := 3) scL.nd rfl (Or.inr rfl)) pgs_nil))))
      (pss_cons (ps_for PassesOwn.never rfl (pi_range1 rfl T.range (pa_cons (pe_call GT hr rfl mT FT.kp bT .nil pass0 (pa_cons (pv 1) (pa_cons pe_int pa_nil))) pa_nil)) (pg_name (i := 4) scL.nd rfl (Or.inl rfl))
        (pss_cons (ps_par (i := 5) (j := 6) rfl scL.nd rfl rfl (by decide) rfl rfl (pa_cons (pe_call GT hr rfl mT FT.kp bT .nil pass0 (pa_cons (pv 1) (pa_cons pe_int pa_nil))) (pa_cons (pe_tup (pa_cons (pe_call GT hr rfl mT FT.kp bT .nil pass0 (pa_cons (pv 1) (pa_cons pe_int pa_nil))) pa_nil)) pa_nil)) (by rfl))
        (pss_cons (ps_expr (pe_meth (pv 2) T.cl mS GS hr1 bS .nil pass0 (pa_cons (pv 5) (pa_cons (pv 6) pa_nil))))
        (pss_cons (ps_if (pt_cmp (pc_dnotin hu (pv 5) (pv 3))) (pss_one (ps_dput hu (pv 3) (pv 5) (pv 6) rfl)) pss_nil)
        (pss_cons (ps_set (i := 7) scL.nd rfl (Or.inl rfl) pe_int)
        (pss_cons (ps_while PassesOwn.never (pt_cmp (pc_din hu (pv 7) (pv 3))) (pss_one (ps_aug (i := 7) scL.nd rfl (Or.inl rfl) pe_int ip_add)))
        (pss_one (ps_if (PW.pt (pw_or (pt_cmpR (op_neD hr.units) (pe_meth0 (pv 2) T.cl mA GA hr1 bA .nil pass0) (pe_callTy call_tuple_of (by rfl) T.tuple (by decide +kernel) (pa_cons
            (pe_lc (own := [("_law_at", 8)]) (g := gName 8) (tt := tYes) rfl scL.nd (pi_range1 rfl T.range (pa_cons (pv 7) pa_nil)) (blkOk_by (N := NL) (sc := defScope sLaw) (by decide +kernel)) (fun _ _ _ _ _ => pg_name (i := 8) scL.nd rfl (Or.inl rfl)) (fun _ _ _ _ _ => pts_nil) (fun _ _ _ _ _ => pe_dget hu (pv 3) (pv 8) (fun _ _ => rfl))) pa_nil)) (nomark _))
            (pw_or1 (pt_cmpR (op_ne_dictS hr.units0) (pe_fld (pv 2) rfl) (pv 3) (nomark _))))) (pss_one (ps_ret pe_bl)) pss_nil))))))))
      (pss_one (ps_ret (pe_and (pe_cmpR (op_eqD hr.units) (pe_meth0 (pe_make0 M GI hr rfl T.mgC bI .nil pass0) T.cl mA GA hr1 bA .nil pass0 (ht := mcall_of (abase_call (by decide +kernel)) (fun _ => rfl))) (pe_tup pa_nil) (nomark _))
        (pe_one (pe_cmpR (op_eq_dictA hr.units0) (pe_fld (pe_make0 M GI hr rfl T.mgC bI .nil pass0) (abase_call (by decide +kernel))) pe_dnewK (nomark _)))))))), ?_⟩
    -- the draw
    refine ⟨_, rfl, by show 2 ≤ sizeLine; decide, fun dr hdr => ?_⟩
    have sA : Same H (upd H dr (.lst [.ref a, .int 0])) := Same.new hdr
    have hD0 : (upd H dr (.lst [.ref a, .int 0])) dr = some (.lst [.ref a, .int 0]) := upd_same
    generalize eHA : upd H dr (.lst [.ref a, .int 0]) = HA at sA hD0
    -- Sink()
    refine (fun x dx nx ndx nex => ⟨x, dx, rfl, upd_same, fun d H1 fd0 S1 kp => ⟨rfl, ?_⟩⟩)
    have s0 : Same HA (upd (upd HA dx (.own x)) x (.ins C dx [])) := fun b o e => by
      rw [upd_ne (ne_of_none e nx), upd_ne (ne_of_none e ndx)]
      exact e
    have sB : Same HA H1 := fun b o e => kp b o (s0 b o e) (ne_of_none e nx)
    -- {}
    refine (fun kd nkd => ?_)
    refine ⟨by show 2 ≤ sizeLine; decide, fun tp ntp => ?_⟩
    have sC : Same H1 (upd (upd H1 kd (.dK [])) tp (.tup [.ref x, .ref kd])) := (Same.new nkd).trans (Same.new ntp)
    refine ⟨tp, [.ref x, .ref kd], rfl, SqT.of upd_same, rfl, _, _, rfl, _, _, rfl, rfl, ?_⟩
    have B0 : Between K C (upd (upd H1 kd (.dK [])) tp (.tup [.ref x, .ref kd])) dr x d kd [] := by
      obtain ⟨⟨dx', h1⟩, h2⟩ := id S1
      have nkt : kd ≠ tp := fun e => by rw [← e, upd_same] at ntp; cases ntp
      exact ⟨⟨a, ns, 0, sC _ _ (sB _ _ hD0), sC.seq (sB.seq (sA.seq hS))⟩, ⟨⟨dx', sC _ _ h1⟩, sC _ _ h2⟩, by rw [upd_ne nkt, upd_same], ne_of_none h2 nkd, ⟨List.nodup_nil, fun p hp => absurd hp List.not_mem_nil, fun p hp => absurd hp List.not_mem_nil⟩⟩
    generalize upd (upd H1 kd (.dK [])) tp (.tup [.ref x, .ref kd]) = H2 at B0
    -- the loop
    refine ⟨_, rfl, dr, 20, rfl, B0.D, by decide, fun n H3 n0 n20 b3 D3 => ?_⟩
    refine ⟨n, rfl, by omega, by omega, for_range (lo := 0) (n := n.toNat) (fun i σ H' => ∃ (kvs : Kvs) (u1 u2 u3 u4 : Option V), σ = [some (.ref a), some (.ref dr), some (.ref x), some (.ref kd), u1, u2, u3, u4, none] ∧ Between K C H' dr x d kd kvs ∧ kvs.length ≤ i)
      ⟨[], none, none, none, none, rfl, B0.but b3 D3, Nat.le_refl _⟩ ?_ ?_⟩
    · rintro i σ H4 hi ⟨kvs, u1, u2, u3, u4, rfl, B4, hk⟩
      -- the number, the answer
      refine ⟨_, rfl, dr, 8, rfl, B4.D, by decide, fun v1 H5 h10 h18 b5 D5 => ?_⟩
      have B5 := B4.but b5 D5
      refine ⟨_, rfl, dr, 5, rfl, B5.D, by decide, fun v2 H6 _ _ b6 D6 => ?_⟩
      have B6 := B5.but b6 D6
      refine ⟨by show 1 ≤ sizeLine; decide, fun r nr => ?_⟩
      have B7 := B6.same (Same.new (o := .tup [.int v2]) nr)
      have h7 : (upd H6 r (.tup [.int v2])) r = some (.tup [.int v2]) := upd_same
      generalize upd H6 r (.tup [.int v2]) = H7 at B7 h7
      refine ⟨_, _, rfl, ?_⟩
      -- sink.take
      obtain ⟨⟨dy, hx7⟩, hd7⟩ := id B7.S
      refine ⟨_, rfl, x, dy, _, rfl, hx7, flds_no _ (by decide +kernel), _, rfl, _, rfl, x, d, kvs, v1, .ref r, rfl, B7.S, by omega, fun H8 b8 S8 => ?_⟩
      have kn8 : H8 kd = some (.dK kvs) := b8 _ _ (Ne.symm B7.ne) B7.kn
      have D8 : DrawAt K H8 dr := by
        obtain ⟨a', ns', n', e1, e2⟩ := B7.D
        have nd : dr ≠ d := ne_of e1 hd7 (by intro z; cases z)
        refine ⟨a', ns', n', b8 _ _ nd e1, ?_⟩
        rcases e2 with (e2 | ⟨o, e2⟩) | e2
        · exact .inl (.inl (b8 _ _ (ne_of e2 hd7 (by intro z; cases z)) e2))
        · exact .inl (.inr ⟨o, b8 _ _ (ne_of e2 hd7 (by intro z; cases z)) e2⟩)
        · exact .inr e2
      have h8 : H8 r = some (.tup [.int v2]) := b8 _ _ (ne_of h7 hd7 (by intro z; cases z)) h7
      have G8 : Good H8 kvs := B7.G.mono fun r xs h => b8 _ _ (ne_of h hd7 (by intro z; cases z)) h
      have G8' := G8.taken h10 h18 h8
      have hlen' := len_taken kvs v1 (.ref r)
      -- the known
      refine (fun (rest : ∀ H9 : Hp, Between K C H9 dr x d kd (taken kvs v1 (.ref r)) → (?G : Hp → Prop) H9) => ?body) ?rest
      case body =>
        refine ⟨_, rfl, _, rfl, kd, _, rfl, DGet.k (k := Sum.inl v1) kn8, _, rfl, ?_⟩
        cases e : valV kvs (Sum.inl v1 : Key) with
        | some y =>
          refine iteF ?_
          have et : taken kvs v1 (.ref r) = kvs := by unfold taken; rw [e]
          refine rest H8 ⟨D8, S8, ?_, B7.ne, G8'⟩
          rw [et]; exact kn8
        | none =>
          refine iteT ?_
          have et : taken kvs v1 (.ref r) = putK kvs (Sum.inl v1 : Key) (.ref r) := by rw [putK_new _ e]; unfold taken; rw [e]
          refine ⟨_, rfl, _, rfl, _, rfl, kd, _, rfl, DPut.k (k := Sum.inl v1) kn8 (small1000 (by omega)), ?_⟩
          refine rest _ ?_
          obtain ⟨⟨dz, hx8⟩, hd8⟩ := id S8
          have n1 : x ≠ kd := ne_of hx8 kn8 (by intro z; cases z)
          obtain ⟨a', ns', n', e1, e2⟩ := D8
          have n2 : dr ≠ kd := ne_of e1 kn8 (by intro z; cases z)
          refine ⟨⟨a', ns', n', by rw [upd_ne n2]; exact e1, ?_⟩, ⟨⟨dz, by rw [upd_ne n1]; exact hx8⟩, by rw [upd_ne B7.ne]; exact hd8⟩, by rw [upd_same, et], B7.ne, G8'.mono fun q xs h => ?_⟩
          · rcases e2 with (e2 | ⟨o, e2⟩) | e2
            · exact .inl (.inl (by rw [upd_ne (ne_of e2 kn8 (by intro z; cases z))]; exact e2))
            · exact .inl (.inr ⟨o, by rw [upd_ne (ne_of e2 kn8 (by intro z; cases z))]; exact e2⟩)
            · exact .inr e2
          · rw [upd_ne (ne_of h kn8 (by intro z; cases z))]; exact h
      case rest =>
        intro H9 B9
        have G9 := B9.G
        have hkv : (taken kvs v1 (.ref r)).length ≤ i + 1 := by omega
        generalize taken kvs v1 (.ref r) = kv9 at B9 G9 hkv
        -- how many are there without a gap
        refine ⟨fun m σ H' => ∃ j : Nat, σ = [some (.ref a), some (.ref dr), some (.ref x), some (.ref kd), some (.int (0 + (i : Int))), some (.int v1), some (.ref r), some (.int (j : Int)), none] ∧ H' = H9 ∧ (∀ q, q < j → ∃ y, vk kv9 q = some y) ∧ j ≤ 8 ∧ m = 8 - j, ⟨8, 0, rfl, rfl, fun q hq => absurd hq (Nat.not_lt_zero q), Nat.zero_le _, rfl⟩, ?_⟩
        rintro m σ H' ⟨j, rfl, rfl, hj, hj8, rfl⟩
        have kn9 := B9.kn
        refine ⟨_, rfl, _, rfl, kd, _, rfl, DGet.k (k := Sum.inl (j : Int)) kn9, _, rfl, ?_⟩
        cases e : valV kv9 (Sum.inl (j : Int) : Key) with
        | some y =>
          refine iteT ?_
          have h8j : j < 8 := G9.key8 e
          refine ⟨fun σ' H'' => ∃ m', m' < 8 - j ∧ ∃ j' : Nat, σ' = [some (.ref a), some (.ref dr), some (.ref x), some (.ref kd), some (.int (0 + (i : Int))), some (.int v1), some (.ref r), some (.int (j' : Int)), none] ∧ H'' = H' ∧ (∀ q, q < j' → ∃ y, vk kv9 q = some y) ∧ j' ≤ 8 ∧ m' = 8 - j', fun σ' H'' h => h, ?_⟩
          refine ⟨_, rfl, _, 1, rfl, rfl, ?_⟩
          refine ⟨8 - (j + 1), by omega, j + 1, rfl, rfl, fun q hq => ?_, by omega, rfl⟩
          by_cases h : q < j
          · exact hj q h
          · have : q = j := by omega
            subst this
            exact ⟨y, e⟩
        | none =>
          refine iteF ?_
          -- answers
          obtain ⟨⟨dy, hx9⟩, hd9⟩ := id B9.S
          refine ⟨_, rfl, x, dy, _, rfl, hx9, flds_no _ (by decide +kernel), x, d, kv9, rfl, B9.S, G9, fun ta xs H10 s10 rw10 l10 hta => ?_⟩
          have B10 := B9.same s10
          have kn10 := B10.kn
          -- the known ones
          refine ⟨_, rfl, (j : Int), rfl, by omega, by omega, ?_⟩
          intro L nL
          refine lc_range (lo := 0) (n := (j : Int).toNat) (fun q H' => ∃ ys : List V, H' = upd H10 L (.lst ys) ∧ ys.length = q ∧ ∀ z, z < q → vk kv9 z = ys[z]?) ⟨[], rfl, rfl, fun z hz => absurd hz (Nat.not_lt_zero z)⟩ ?_ ?_
          · rintro q H' hq ⟨ys, rfl, hy, hz⟩
            refine ⟨rfl, ?_⟩
            have kn11 : (upd H10 L (.lst ys)) kd = some (.dK kv9) := by rw [upd_ne (ne_of_none kn10 nL)]; exact kn10
            have hq' : q < j := by simpa using hq
            obtain ⟨y, ey⟩ := hj q hq'
            have dg : DGet (upd H10 L (.lst ys)) kd (V.int (0 + (q : Int))) (some y) := by
              have := DGet.k (k := Sum.inl (0 + (q : Int))) kn11
              have e2 : valV kv9 (Sum.inl (0 + (q : Int)) : Key) = some y := by rw [Int.zero_add]; exact ey
              rw [e2] at this
              exact this
            dsimp only [tYes]
            rw [if_pos rfl]
            refine ⟨_, rfl, _, rfl, kd, y, rfl, dg, ys, upd_same, by rw [hy]; exact Nat.lt_of_lt_of_le (Nat.lt_of_lt_of_le hq' hj8) (by decide), ys ++ [y], upd_upd, by rw [List.length_append, hy]; rfl, fun z hz' => ?_⟩
            by_cases h : z < q
            · rw [List.getElem?_append_left (by omega), hz z h]
            · have : z = q := by omega
              subst this
              rw [List.getElem?_append_right (by omega), hy, Nat.sub_self, ey]
              rfl
          · rintro H' ⟨ys, rfl, hy, hz⟩
            have hjq : (j : Int).toNat = j := by simp
            rw [hjq] at hy hz
            have s11 : Same H10 (upd H10 L (.lst ys)) := Same.new nL
            refine ⟨L, ys, rfl, .inl ⟨SqL.of upd_same, fun tb ntb => ?_⟩⟩
            have s12 := s11.trans (Same.new (o := .tup ys) ntb)
            have htb : (upd (upd H10 L (.lst ys)) tb (.tup ys)) tb = some (.tup ys) := upd_same
            have hta' := s12 _ _ hta
            have B12 := B10.same s12
            generalize upd (upd H10 L (.lst ys)) tb (.tup ys) = H12 at htb hta' B12
            have eyx : ys = xs := row_one (kvs := kv9) ⟨fun z hz' => hz z (hy ▸ hz'), by rw [hy]; exact e⟩ rw10
            subst eyx
            obtain ⟨ds, hds, lay, dep⟩ := lay_vals (K := K) ys (rw10.vals B12.G)
            have shp : SeqAt.shaped (.tuple ds) = true := by
              unfold SeqAt.shaped
              rw [Bool.and_eq_true]
              refine ⟨lay, decide_eq_true ?_⟩
              show PyData.depthAll ds + 1 ≤ 64
              omega
            refine ⟨.tuple ds, .tuple ds, .tup (SqT.of hta') hds, .tup (SqT.of htb) hds, shp, shp, ?_⟩
            have ev : PyData.eqv (.tuple ds) (.tuple ds) = true := PySem.SeqAt.eqv_refl _ lay
            rw [ev]
            refine ⟨false, rfl, iteF ?_⟩
            obtain ⟨⟨dz, hx12⟩, hd12⟩ := id B12.S
            refine ⟨_, rfl, x, C, dz, _, _, rfl, hx12, T.cl, T.nK, flds_kept _, _, rfl, d, kd, kv9, rfl, rfl, hd12, B12.kn, B12.G.nd, fun p hp => let ⟨q, _, e1, _⟩ := B12.G.val p hp; ⟨q, e1⟩, false, rfl, iteF ?_⟩
            exact ⟨kv9, _, _, _, _, rfl, B12, hkv⟩
    · rintro σ H4 ⟨kvs, u1, u2, u3, u4, rfl, B4, hk⟩
      -- Sink().answers() == ()
      refine (fun x2 dx2 nx2 ndx2 nex2 => ⟨x2, dx2, rfl, upd_same, fun d2 H5 fd5 S5 kp5 => ⟨rfl, ?_⟩⟩)
      obtain ⟨⟨dy, hx5⟩, hd5⟩ := id S5
      refine ⟨x2, dy, _, rfl, hx5, flds_no _ (by decide +kernel), x2, d2, [], rfl, S5, ⟨List.nodup_nil, fun p hp => absurd hp List.not_mem_nil, fun p hp => absurd hp List.not_mem_nil⟩, fun ta xs H6 s6 r6 l6 hta => ?_⟩
      refine ⟨Nat.zero_le _, fun te nte => ?_⟩
      have exs : xs = [] := row_one r6 ⟨fun z hz => absurd hz (Nat.not_lt_zero z), rfl⟩
      subst exs
      refine ⟨.tuple [], .tuple [], .tup (SqT.of (Same.new nte _ _ hta)) .nil, .tup (SqT.of upd_same) .nil, rfl, rfl, true, rfl, iteT ?_⟩
      refine (fun x3 dx3 nx3 ndx3 nex3 => ⟨x3, dx3, rfl, upd_same, fun d3 H7 fd7 S7 kp7 => ⟨rfl, ?_⟩⟩)
      obtain ⟨⟨dz, hx7⟩, hd7⟩ := id S7
      refine ⟨x3, C, dz, _, _, rfl, hx7, T.cl, T.nK, flds_kept _, ?_⟩
      intro d4 nd4
      exact ⟨d3, d4, [], [], rfl, rfl, (by rw [upd_ne (ne_of_none hd7 nd4)]; exact hd7), upd_same, rfl, fun p hp => absurd hp List.not_mem_nil, k _⟩
end
end S12

namespace S12
open PySem L2
theorem all_mk {l : PySem.W.OpenLaw} {w : World} {K : PySem.W.Frag} {h : Heap} {mg : Str → Option Value} {fa C fC_init fC_take fC_answers f_law_number f_law_take f_law : Addr} (X : K.In h) (G : h.Ns mainGlobals mg) (hfa : mg "law" = some (.ref fa))
    {odC_init anC_init odC_take anC_take odC_answers anC_answers od_law_number an_law_number od_law_take an_law_take od_law an_law : Option Addr} {slC_init slC_take slC_answers sl_law_number sl_law_take sl_law : Array (Option Value)} {ocC_init kVC_init dcC_init pmC_init cdC_init ctC_init ocC_take kVC_take dcC_take pmC_take cdC_take ctC_take ocC_answers kVC_answers dcC_answers pmC_answers cdC_answers ctC_answers oc_law_number kV_law_number dc_law_number pm_law_number cd_law_number ct_law_number oc_law_take kV_law_take dc_law_take pm_law_take cd_law_take ct_law_take oc_law kV_law dc_law pm_law cd_law ct_law : Value}
    (aC : PySem.W.nsIn K mainGlobals "Sink" = some (some (.ref C)))
    (pgC : PySem.W.plainGet K C Str.empty = true) (hdC : PySem.W.hasDictIn K C = true) (poC : PySem.W.plainOver K C = true) (saC : PySem.W.findIn K (.ref C) "__setattr__" = some (some (.builtin "object.__setattr__"))) (mkC : PySem.W.makesIn K C = true) (kcC : PySem.W.keepIn K (.ref C) = true)
    (nC_kept : PySem.W.findIn K (.ref C) "kept" = some none)
    (aC_init : PySem.W.findIn K (.ref C) "__init__" = some (some (.ref fC_init))) (iC_init : PySem.W.isFn K (.ref fC_init) = true)
    (lC_init : K.lookup fC_init = some ⟨ocC_init, odC_init, .func (PySem.W.fnOf "__init__" "Sink.__init__" (defArgs sInit) (defBody sInit) (defScope sInit) .none kVC_init dcC_init pmC_init anC_init cdC_init ctC_init), slC_init⟩) (cC_init : PySem.W.codeIn K cdC_init "Sink.__init__" = true) (kC_init : PySem.W.keepIn K (.ref fC_init) = true)
    (aC_take : PySem.W.findIn K (.ref C) "take" = some (some (.ref fC_take))) (iC_take : PySem.W.isFn K (.ref fC_take) = true)
    (lC_take : K.lookup fC_take = some ⟨ocC_take, odC_take, .func (PySem.W.fnOf "take" "Sink.take" (defArgs sTakeS) (defBody sTakeS) (defScope sTakeS) .none kVC_take dcC_take pmC_take anC_take cdC_take ctC_take), slC_take⟩) (cC_take : PySem.W.codeIn K cdC_take "Sink.take" = true) (kC_take : PySem.W.keepIn K (.ref fC_take) = true)
    (aC_answers : PySem.W.findIn K (.ref C) "answers" = some (some (.ref fC_answers))) (iC_answers : PySem.W.isFn K (.ref fC_answers) = true)
    (lC_answers : K.lookup fC_answers = some ⟨ocC_answers, odC_answers, .func (PySem.W.fnOf "answers" "Sink.answers" (defArgs sAnsw) (defBody sAnsw) (defScope sAnsw) .none kVC_answers dcC_answers pmC_answers anC_answers cdC_answers ctC_answers), slC_answers⟩) (cC_answers : PySem.W.codeIn K cdC_answers "Sink.answers" = true) (kC_answers : PySem.W.keepIn K (.ref fC_answers) = true)
    (a_law_number : PySem.W.nsIn K mainGlobals "_law_number" = some (some (.ref f_law_number)))
    (l_law_number : K.lookup f_law_number = some ⟨oc_law_number, od_law_number, .func (PySem.W.fnOf "_law_number" "_law_number" (defArgs sNumber) (defBody sNumber) (defScope sNumber) .none kV_law_number dc_law_number pm_law_number an_law_number cd_law_number ct_law_number), sl_law_number⟩) (c_law_number : PySem.W.codeIn K cd_law_number "_law_number" = true) (k_law_number : PySem.W.keepIn K (.ref f_law_number) = true)
    (a_law_take : PySem.W.nsIn K mainGlobals "_law_take" = some (some (.ref f_law_take)))
    (l_law_take : K.lookup f_law_take = some ⟨oc_law_take, od_law_take, .func (PySem.W.fnOf "_law_take" "_law_take" (defArgs sTake) (defBody sTake) (defScope sTake) .none kV_law_take dc_law_take pm_law_take an_law_take cd_law_take ct_law_take), sl_law_take⟩) (c_law_take : PySem.W.codeIn K cd_law_take "_law_take" = true) (k_law_take : PySem.W.keepIn K (.ref f_law_take) = true)
    (a_law : PySem.W.nsIn K mainGlobals "law" = some (some (.ref f_law)))
    (l_law : K.lookup f_law = some ⟨oc_law, od_law, .func (PySem.W.fnOf "law" "law" (defArgs sLaw) (defBody sLaw) (defScope sLaw) .none kV_law dc_law pm_law an_law cd_law ct_law), sl_law⟩) (c_law : PySem.W.codeIn K cd_law "law" = true) (k_law : PySem.W.keepIn K (.ref f_law) = true)
    (z_int : PySem.W.nsIn K mainGlobals "int" = some none)
    (z_len : PySem.W.nsIn K mainGlobals "len" = some none)
    (z_abs : PySem.W.nsIn K mainGlobals "abs" = some none)
    (z_tuple : PySem.W.nsIn K mainGlobals "tuple" = some none)
    (z_range : PySem.W.nsIn K mainGlobals "range" = some none) :
    ∃ fd : FuncData, (∀ (s : Shared) (v : Value), BindsTo s fd ⟨[v], []⟩ [("_law_script", v)]) ∧ ∀ base : Heap, K.In base → base.Ns mainGlobals mg → FnOk l.prog w K mg base CX0 3 fa fd ["_law_script"] (spLaw K) := by
  have e := hfa.symm.trans (PySem.W.mg_of X G a_law)
  cases e
  have FC_init := fun_mk (st := sInit) lC_init cC_init kC_init
  have BC_init := FC_init.binds (ps := ["self"]) fun _ _ _ _ _ _ us hl => match us, hl with | [_], _ => rfl
  have FC_take := fun_mk (st := sTakeS) lC_take cC_take kC_take
  have BC_take := FC_take.binds (ps := ["self", "number", "answer"]) fun _ _ _ _ _ _ us hl => match us, hl with | [_, _, _], _ => rfl
  have FC_answers := fun_mk (st := sAnsw) lC_answers cC_answers kC_answers
  have BC_answers := FC_answers.binds (ps := ["self"]) fun _ _ _ _ _ _ us hl => match us, hl with | [_], _ => rfl
  have F_law_number := fun_mk (st := sNumber) l_law_number c_law_number k_law_number
  have B_law_number := F_law_number.binds (ps := ["_law_script", "_law_index"]) fun _ _ _ _ _ _ us hl => match us, hl with | [_, _], _ => rfl
  have M_law_number := PySem.W.mg_of X G a_law_number
  have F_law_take := fun_mk (st := sTake) l_law_take c_law_take k_law_take
  have B_law_take := F_law_take.binds (ps := ["_law_draw", "_law_many"]) fun _ _ _ _ _ _ us hl => match us, hl with | [_, _], _ => rfl
  have M_law_take := PySem.W.mg_of X G a_law_take
  have F_law := fun_mk (st := sLaw) l_law c_law k_law
  have Z_int := PySem.W.mg_none_of X G z_int
  have Z_len := PySem.W.mg_none_of X G z_len
  have Z_abs := PySem.W.mg_none_of X G z_abs
  have Z_tuple := PySem.W.mg_none_of X G z_tuple
  have Z_range := PySem.W.mg_none_of X G z_range
  exact ⟨PySem.W.fnOf "law" "law" (defArgs sLaw) (defBody sLaw) (defScope sLaw) .none kV_law dc_law pm_law an_law cd_law ct_law, fun s v => .of_eq rfl, fun base _ _ => ok_law F_law ⟨⟨pgC, hdC, poC, saC⟩, nC_kept, PySem.W.mg_of X G aC, Z_tuple, Z_range, ⟨Z_int, Z_len, Z_abs⟩⟩ ⟨mkC, aC_init, iC_init, kcC⟩ F_law_number B_law_number M_law_number F_law_take B_law_take M_law_take FC_init BC_init FC_take BC_take ⟨aC_take, iC_take, kC_take⟩ FC_answers BC_answers ⟨aC_answers, iC_answers, kC_answers⟩⟩
theorem walk {l : PySem.W.OpenLaw} {q : Program} {loose : List Str} {XP : (Str → Option Value) → Heap → Prop} {YP : World → Heap → Prop} {d : DefRec} {K : Params → PySem.W.Frag} (hn : l.most = some 63) (hdf : d.params.defaults = [])
    (hY : ∀ (w : World) (h : Heap), YP w h → (K w.params).In h)
    (F : ∀ (w : World) (mg : Str → Option Value) (fa : Addr) (h : Heap), (K w.params).In h → h.Ns mainGlobals mg → mg d.name = some (.ref fa) →
      ∃ fd : FuncData, (∀ (s : Shared) (u : Value), BindsTo s fd ⟨[u], []⟩ [("_law_script", u)]) ∧ ∀ base : Heap, (K w.params).In base → base.Ns mainGlobals mg → FnOk l.prog w (K w.params) mg base CX0 3 fa fd ["_law_script"] (spLaw (K w.params))) :
    PySem.W.WalkO q loose XP YP l.row.toRowW d [] (fun f vs => PySem.call f vs) :=
  L2.walk_of (n := 63) (k := 3) (x := "_law_script") (CX := fun _ => CX0) (sp := fun w => spLaw (K w.params)) hn (by decide) hdf ⟨rfl, by decide, by decide⟩ hY F (fun _ _ a ns hl _ hS => ⟨a, ns, rfl, hS, hl, fun _ => rfl⟩) fun _ _ _ _ _ z => z
end S12
open PySem PySem.W PyProof.Rows
set_option maxRecDepth 100000 in
set_option maxHeartbeats 0 in
theorem PySem.Challenge.cw_streamsure_k12_whole_sinks_holds : PySem.Challenge.rw_streamsure_k12_whole_sinks.Holds := by
  w_on; o_law; k_head; (case hw => w_witness2)
  k_fill
  refine S12.walk (l := PySem.Challenge.rw_streamsure_k12_whole_sinks) rfl rfl (fun w h Y => PySem.W.kIn_of Y) ?F
  case F =>
    intro w mg fa h KX G hmg
    refine' S12.all_mk KX G hmg ?aC ?pgC ?hdC ?poC ?saC ?mkC ?kcC ?nC_kept ?aC_init ?iC_init ?lC_init ?cC_init ?kC_init ?aC_take ?iC_take ?lC_take ?cC_take ?kC_take ?aC_answers ?iC_answers ?lC_answers ?cC_answers ?kC_answers ?a_law_number ?l_law_number ?c_law_number ?k_law_number ?a_law_take ?l_law_take ?c_law_take ?k_law_take ?a_law ?l_law ?c_law ?k_law ?z_int ?z_len ?z_abs ?z_tuple ?z_range
    (case aC => k_is)
    (case pgC => k_is)
    (case hdC => k_is)
    (case poC => k_is)
    (case saC => k_is)
    (case mkC => k_is)
    (case kcC => k_is)
    (case nC_kept => k_is)
    (case aC_init => k_is)
    (case iC_init => k_is)
    (case lC_init => k_is)
    (case cC_init => k_is)
    (case kC_init => k_is)
    (case aC_take => k_is)
    (case iC_take => k_is)
    (case lC_take => k_is)
    (case cC_take => k_is)
    (case kC_take => k_is)
    (case aC_answers => k_is)
    (case iC_answers => k_is)
    (case lC_answers => k_is)
    (case cC_answers => k_is)
    (case kC_answers => k_is)
    (case a_law_number => k_is)
    (case l_law_number => k_is)
    (case c_law_number => k_is)
    (case k_law_number => k_is)
    (case a_law_take => k_is)
    (case l_law_take => k_is)
    (case c_law_take => k_is)
    (case k_law_take => k_is)
    (case a_law => k_is)
    (case l_law => k_is)
    (case c_law => k_is)
    (case k_law => k_is)
    (case z_int => k_is)
    (case z_len => k_is)
    (case z_abs => k_is)
    (case z_tuple => k_is)
    (case z_range => k_is)
#print axioms PySem.Challenge.cw_streamsure_k12_whole_sinks_holds
