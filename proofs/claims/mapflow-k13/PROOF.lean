import PyProof.Rows.All
import Wide.All
import OpenK.AllK
import Wide.FinOn
import HandS.ForMost
import HandS.IsInst
import HandS.Star
import HandS.TupAny
import HandS.TupSets
import HandS.Deep
import HandS.DictComp
import HandS.TupLen
import HandS.Codes
import HandS.OwnEq
import HandS.Conv
import HandS.Zip
import HandS.Flow
import HandS.Style
import HandS.Wide
import HandS.ClsMeth
import HandS.Walk
import HandS.WordsExc
import HandS.Defaults
import KE.DatumIndex
import KE.DatumOrd
import KE.SortData
import KE.KDictDisplayH
import PySem.Challenge.RW_mapflow_k13_whole_counts_and_ways_back
import HandS.SetFor
import HandS.SlotsOwn
import HandS.ReCall
import HandS.Text
import KE.KStateDown
import HandS.Head0
import HandS.Head1
import HandS.Head2
import HandS.HeadEnd
import HandS.HeadHook1
import HandS.HeadHook2
section
set_option Elab.async false
set_option linter.all false
set_option maxRecDepth 100000
set_option maxHeartbeats 4000000
namespace MF
open PySem PySem.Spec PyProof.Rows L2
def top (i : Nat) : Stmt := PySem.Challenge.pw_mapflow_k13_whole_counts_and_ways_back.main.body.getD i (.Pass ⟨0, 0, 0, 0⟩)
abbrev sIsInteger : Stmt := top 10
abbrev sIsWithin : Stmt := top 11
abbrev sNeedNumber : Stmt := top 12
abbrev sWritten : Stmt := top 17
abbrev sScanInit : Stmt := inClass (top 18) 0
abbrev sAhead : Stmt := inClass (top 18) 1
abbrev sTake : Stmt := inClass (top 18) 4
abbrev sTakeNumber : Stmt := inClass (top 18) 6
abbrev sFinish : Stmt := inClass (top 18) 7
abbrev sFromLeast : Stmt := top 22
abbrev sWaysIn : Stmt := top 23
abbrev sTiesIn : Stmt := top 24
abbrev sFirstOf : Stmt := top 25
abbrev sRoundFrom : Stmt := top 26
abbrev sTiedFrom : Stmt := top 27
abbrev sHangRound : Stmt := top 28
abbrev sHangTogether : Stmt := top 29
abbrev sIsMap : Stmt := top 30
abbrev sFrameIn : Stmt := top 31
abbrev sMapInit : Stmt := inClass (top 32) 0
abbrev sMapEq : Stmt := inClass (top 32) 1
abbrev sMapStr : Stmt := inClass (top 32) 2
abbrev sMapRead : Stmt := inClass (top 32) 3
abbrev sTakenLand : Stmt := top 33
abbrev sTakenLands : Stmt := top 34
abbrev sIsThree : Stmt := top 35
abbrev sNeedLands : Stmt := top 36
abbrev sNeedMap : Stmt := top 37
abbrev sNeedDot : Stmt := top 38
abbrev sLandTold : Stmt := top 39
abbrev sNeedLand : Stmt := top 40
abbrev sRoundIn : Stmt := top 41
abbrev sRoundOf : Stmt := top 42
abbrev sTiesOf : Stmt := top 43
abbrev sLandAt : Stmt := top 44
abbrev sWithout : Stmt := top 46
abbrev sSplitAt : Stmt := top 47
abbrev sExchanged : Stmt := top 48
abbrev sGarden : Stmt := top 50
abbrev sSpade : Stmt := top 51
abbrev sPick : Stmt := top 52
abbrev sThird : Stmt := top 54
abbrev sSplit : Stmt := top 55
abbrev sOtherTie : Stmt := top 56
abbrev sLands : Stmt := top 57
abbrev sFrame : Stmt := top 58
abbrev sCounts : Stmt := top 59
abbrev sLaw : Stmt := top 60
end MF
end
section
set_option Elab.async false
set_option linter.all false
set_option maxRecDepth 100000
set_option maxHeartbeats 4000000
namespace MF
open PySem PySem.Spec PyProof.Rows L2
open PySem.W (Datum Tup Holds HoldAll)
/-! data with a Lean type over the abstract heap -/
section
variable {α : Type} [DecidableEq α] [Datum α]
abbrev Dv (K : PySem.W.Frag) (H : Hp) (v : V) (x : α) : Prop := Dp K H v (Datum.toD x)
abbrev Dvs (K : PySem.W.Frag) (H : Hp) (vs : List V) (xs : List α) : Prop := DpAll K H vs (xs.map Datum.toD)
variable {X : Cx} {pins : List (Addr × Obj)} {σ : L2.St} {H : Hp} {s : Shared}
theorem Dv.holds (I : Inv X pins σ H s) {x : α} {v : V} {u : Value} (d : Dv X.K H v x) (r : RelV v u) : Holds s.heap u x := Dp.reads I _ v u d r
theorem Dvs.holds (I : Inv X pins σ H s) {xs : List α} {vs : List V} {us : List Value} (d : Dvs X.K H vs xs) (r : Vals vs us) : HoldAll s.heap us xs := Dp.readsAll I _ vs us d r
theorem tupAt (I : Inv X pins σ H s) {a : Addr} {vs : List V} (h : SqT X.K H a vs) : ∃ its : List Value, Vals vs its ∧ s.heap.IsTuple a its.toArray := by
  obtain ⟨its, r, p, _⟩ := I.tuple h
  exact ⟨its, r, p⟩
/-- a == b, a != b -/
theorem op_eqT (α : Type) [DecidableEq α] [Datum α] (hu : X.A.units + Datum.depth α < cLine) : OpR X (compareOp .Eq) (fun x y H Q => ∃ a b : α, Dv X.K H x a ∧ Dv X.K H y b ∧ Q (.bl (decide (a = b))) H) := by
  rintro pins s σ H x y v u Q I rx ry ⟨a, b, da, db, q⟩
  exact PySem.W.eq_datum (Dv.holds I da rx) (Dv.holds I db ry) hu ⟨.bl _, H, I, rfl, q⟩
theorem op_neT (α : Type) [DecidableEq α] [Datum α] (hu : X.A.units + Datum.depth α < cLine) : OpR X (compareOp .NotEq) (fun x y H Q => ∃ a b : α, Dv X.K H x a ∧ Dv X.K H y b ∧ Q (.bl (decide (a ≠ b))) H) := by
  rintro pins s σ H x y v u Q I rx ry ⟨a, b, da, db, q⟩
  exact PySem.W.ne_datum (Dv.holds I da rx) (Dv.holds I db ry) hu ⟨.bl _, H, I, rfl, q⟩
/-- x in t, x not in t: a tuple of data -/
theorem op_inTup (α : Type) [DecidableEq α] [Datum α] (hu : X.A.units + 1 + Datum.depth α < cLine) : OpR X (compareOp .In) (fun x y H Q => ∃ (a : α) (p : Addr) (vs : List V) (xs : List α), y = .ref p ∧ SqT X.K H p vs ∧ Dvs X.K H vs xs ∧ Dv X.K H x a ∧ Q (.bl (decide (a ∈ xs))) H) := by
  rintro pins s σ H x y v u Q I rx ry ⟨a, p, vs, xs, rfl, ht, ds, da, q⟩
  cases ry
  obtain ⟨its, r, it⟩ := tupAt I ht
  exact PySem.W.in_tuple_datum it (Dvs.holds I ds (by simpa using r)) (Dv.holds I da rx) hu ⟨.bl _, H, I, rfl, q⟩
theorem op_notInTup (α : Type) [DecidableEq α] [Datum α] (hu : X.A.units + 1 + Datum.depth α < cLine) : OpR X (compareOp .NotIn) (fun x y H Q => ∃ (a : α) (p : Addr) (vs : List V) (xs : List α), y = .ref p ∧ SqT X.K H p vs ∧ Dvs X.K H vs xs ∧ Dv X.K H x a ∧ Q (.bl (decide (a ∉ xs))) H) := by
  rintro pins s σ H x y v u Q I rx ry ⟨a, p, vs, xs, rfl, ht, ds, da, q⟩
  cases ry
  obtain ⟨its, r, it⟩ := tupAt I ht
  exact PySem.W.notIn_tuple_datum it (Dvs.holds I ds (by simpa using r)) (Dv.holds I da rx) hu ⟨.bl _, H, I, rfl, q⟩
/-- x not in l: a list of data -/
theorem op_notInLst (α : Type) [DecidableEq α] [Datum α] (hu : X.A.units + 1 + Datum.depth α < cLine) : OpR X (compareOp .NotIn) (fun x y H Q => ∃ (a : α) (p : Addr) (vs : List V) (xs : List α), y = .ref p ∧ SqL X.K H p vs ∧ Dvs X.K H vs xs ∧ Dv X.K H x a ∧ Q (.bl (decide (a ∉ xs))) H) := by
  rintro pins s σ H x y v u Q I rx ry ⟨a, p, vs, xs, rfl, hl, ds, da, q⟩
  cases ry
  obtain ⟨its, r, pl, _⟩ := I.list hl
  exact PySem.W.notIn_list_datum pl.isList (Dvs.holds I ds (by simpa using r)) (Dv.holds I da rx) hu ⟨.bl _, H, I, rfl, q⟩
/-- t.index(x), x in t -/
theorem mt_tupIndex (α : Type) [DecidableEq α] [Datum α] (hu : X.A.units + 1 + Datum.depth α < cLine) : MtR X "tuple.index" (fun x ys H Q => ∃ (p : Addr) (vs : List V) (xs : List α) (y : V) (a : α), x = .ref p ∧ ys = [y] ∧ SqT X.K H p vs ∧ Dvs X.K H vs xs ∧ Dv X.K H y a ∧ a ∈ xs ∧ Q (.int (xs.idxOf a : Nat)) H) := by
  rintro pins s σ H x ys v us Q I rx rys ⟨p, vs, xs, y, a, rfl, rfl, ht, ds, da, hm, q⟩
  cases rx
  obtain ⟨u, rfl, ru⟩ := vals1 rys
  obtain ⟨its, r, it⟩ := tupAt I ht
  exact PySem.W.index_tuple_datum it (Dvs.holds I ds r) (Dv.holds I da ru) hu hm ⟨.int _, H, I.tok _, ⟨_, rfl⟩, q⟩
end
/-! min, max of ints -/
open PySem.W (minOf maxOf) in
theorem minOf_int : ∀ (xs : List Int) (x : Int), minOf x xs ∈ x :: xs ∧ ∀ y ∈ x :: xs, minOf x xs ≤ y
  | [], x => ⟨by simp [minOf], by simp [minOf]⟩
  | z :: zs, x => by
    have ih := minOf_int zs (if z < x then z else x)
    have e : minOf x (z :: zs) = minOf (if z < x then z else x) zs := by
      simp only [minOf, List.foldl_cons, PySem.W.DatumOrd.lt, decide_eq_true_eq]
    rw [e]
    obtain ⟨i1, i2⟩ := ih
    refine ⟨?_, fun y hy => ?_⟩
    · rcases List.mem_cons.mp i1 with q | q
      · rw [q]; split <;> simp
      · exact List.mem_cons_of_mem _ (List.mem_cons_of_mem _ q)
    · have j := i2 _ List.mem_cons_self
      have t : (if z < x then z else x) ≤ x ∧ (if z < x then z else x) ≤ z := by split <;> omega
      rcases List.mem_cons.mp hy with rfl | hy
      · omega
      · rcases List.mem_cons.mp hy with rfl | hy
        · omega
        · exact i2 y (List.mem_cons_of_mem _ hy)
open PySem.W (minOf maxOf) in
theorem maxOf_int : ∀ (xs : List Int) (x : Int), maxOf x xs ∈ x :: xs ∧ ∀ y ∈ x :: xs, y ≤ maxOf x xs
  | [], x => ⟨by simp [maxOf], by simp [maxOf]⟩
  | z :: zs, x => by
    have ih := maxOf_int zs (if x < z then z else x)
    have e : maxOf x (z :: zs) = maxOf (if x < z then z else x) zs := by
      simp only [maxOf, List.foldl_cons, PySem.W.DatumOrd.lt, decide_eq_true_eq]
    rw [e]
    obtain ⟨i1, i2⟩ := ih
    refine ⟨?_, fun y hy => ?_⟩
    · rcases List.mem_cons.mp i1 with q | q
      · rw [q]; split <;> simp
      · exact List.mem_cons_of_mem _ (List.mem_cons_of_mem _ q)
    · have j := i2 _ List.mem_cons_self
      have t : x ≤ (if x < z then z else x) ∧ z ≤ (if x < z then z else x) := by split <;> omega
      rcases List.mem_cons.mp hy with rfl | hy
      · omega
      · rcases List.mem_cons.mp hy with rfl | hy
        · omega
        · exact i2 y (List.mem_cons_of_mem _ hy)
/-- the least, the greatest -/
def Least (ns : List Int) (m : Int) : Prop := m ∈ ns ∧ ∀ y ∈ ns, m ≤ y
def Most (ns : List Int) (m : Int) : Prop := m ∈ ns ∧ ∀ y ∈ ns, y ≤ m
section
variable {X : Cx} {pins : List (Addr × Obj)} {σ : L2.St} {H : Hp} {s : Shared}
theorem ints_dvs {K : PySem.W.Frag} {H : Hp} : ∀ ns : List Int, Dvs K H (ns.map V.int) ns
  | [] => .nil
  | n :: ns => .cons (.int n) (ints_dvs ns)
/-- min(t), max(t) of a tuple of ints -/
theorem cr_minTup (hc : X.calm = true) (hu : X.A.units + 1 < cLine) : CallR X (.builtin "min") (fun vs H Q => ∃ (p : Addr) (ns : List Int), vs = [.ref p] ∧ SqT X.K H p (ns.map V.int) ∧ ns ≠ [] ∧ ∀ m, Least ns m → Q (.int m) H) := by
  rintro pins s σ H vs us Q I r ⟨p, ns, rfl, ht, hne, q⟩
  rw [Vals.ref1 r]
  obtain ⟨its, rv, it⟩ := tupAt I ht
  cases ns with
  | nil => exact absurd rfl hne
  | cons x xs =>
    refine PySem.W.min_tuple_datum (α := Int) (x := x) (xs := xs) (I.ok.hd hc) it (Dvs.holds I (ints_dvs (x :: xs)) (by simpa using rv)) (by show _ + 0 < _; omega) fun i v h' tk hv hh hk => ?_
    obtain ⟨t, rfl⟩ := PySem.W.int_of_holds hh
    exact ⟨.int _, H, I.kept hk, ⟨_, rfl⟩, q _ (minOf_int xs x)⟩
theorem cr_maxTup (hc : X.calm = true) (hu : X.A.units + 1 < cLine) : CallR X (.builtin "max") (fun vs H Q => ∃ (p : Addr) (ns : List Int), vs = [.ref p] ∧ SqT X.K H p (ns.map V.int) ∧ ns ≠ [] ∧ ∀ m, Most ns m → Q (.int m) H) := by
  rintro pins s σ H vs us Q I r ⟨p, ns, rfl, ht, hne, q⟩
  rw [Vals.ref1 r]
  obtain ⟨its, rv, it⟩ := tupAt I ht
  cases ns with
  | nil => exact absurd rfl hne
  | cons x xs =>
    refine PySem.W.max_tuple_datum (α := Int) (x := x) (xs := xs) (I.ok.hd hc) it (Dvs.holds I (ints_dvs (x :: xs)) (by simpa using rv)) (by show _ + 0 < _; omega) fun i v h' tk hv hh hk => ?_
    obtain ⟨t, rfl⟩ := PySem.W.int_of_holds hh
    exact ⟨.int _, H, I.kept hk, ⟨_, rfl⟩, q _ (maxOf_int xs x)⟩
end
/-! a dict's keys as data -/
section
open PySem.W (cmpIn_lt cmpIn_gt alikeAll_datum argBest_fold DatumOrd minOf maxOf)
variable {prog : Program} {w : World} {A : Around} {E : Value → Shared → Prop} {s : Shared} {α : Type} [DecidableEq α] [DatumOrd α]
theorem room_keys {k m u : Nat} (h : m ≤ k) (hu : u + k < cLine) : u + m < cLine := by omega
theorem walks_keysD (hh : A.handled = none) (I d : Addr) (hne : d ≠ I) (es : Array DictEntry) (ep : Nat) :
    Walks prog w A I [I, d] [I] es.size (fun i v => (es.map (·.key))[i]? = some v) (fun i h => h.IsKeyIter I d i es.size ep ∧ h.DictRaw d es ep) :=
  (Walks.rawKeys hh I d hne es ep).mono_item fun i v _ ⟨hi, e⟩ => by
    rw [e]
    simp [hi]
theorem iter_keysD {d : Addr} {es : Array DictEntry} {ep : Nat} {Q : Value → Shared → Prop} (hh : A.handled = none) (hd : (d == sysModules) = false) (hm : s.heap.DictRaw d es ep)
    (h : ∀ s₂ : Shared, s₂ = { s with heap := s.heap.push { cls := .type "dict_keyiterator", data := .fields #[.ref d, .int 0 0, .int es.size 0, .int ep 0] } } →
      WalksS prog w A s.heap.objs.size [s.heap.objs.size, d] [s.heap.objs.size] (fun a b => b = a) es.size (fun i v => (es.map (·.key))[i]? = some v) (fun i s' => s'.heap.IsKeyIter s.heap.objs.size d i es.size ep ∧ s'.heap.DictRaw d es ep) →
      (s₂.heap.IsKeyIter s.heap.objs.size d 0 es.size ep ∧ s₂.heap.DictRaw d es ep) → (∀ b ∈ [s.heap.objs.size, d], b < s₂.heap.objs.size) → (∀ b o, s.heap.get? b = some o → b ∉ [s.heap.objs.size]) → (∀ b o, s.heap.get? b = some o → s₂.heap.get? b = some o) → Q (.ref s.heap.objs.size) s₂) :
    wpAny (model prog w) A (pyIter (.ref d)) Q E s := by
  have hlt : d < s.heap.objs.size := by obtain ⟨_, e, _⟩ := hm; exact Heap.lt_size e
  refine wpAny_pyIter_dict_raw hd hm (h _ rfl (walks_keysD (A := A) hh _ d (Nat.ne_of_lt hlt) es ep).toS ⟨⟨_, Heap.get?_push_size _ rfl, rfl, rfl⟩, hm.at fun o e => Heap.get?_push_of_some _ e⟩ (fun b hb => ?_) (fun b o e hb => ?_) fun b o e => Heap.get?_push_of_some _ e)
  · show b < (s.heap.push _).objs.size
    rw [Heap.size_push]
    simp only [List.mem_cons, List.not_mem_nil, or_false] at hb
    rcases hb with rfl | rfl
    · exact Nat.lt_succ_self _
    · exact Nat.lt_succ_of_lt hlt
  · exact absurd (Heap.lt_size e) (by rw [List.mem_singleton.mp hb]; exact Nat.lt_irrefl _)
theorem min_keysD {d : Addr} {es : Array DictEntry} {ep : Nat} {x : α} {xs : List α} {Q : Value → Shared → Prop} (hh : A.handled = none) (hd : (d == sysModules) = false) (hm : s.heap.DictRaw d es ep) (H : HoldAll s.heap (es.map (·.key)).toList (x :: xs)) (hu : A.units + 1 + Datum.depth α < cLine)
    (h : ∀ (i : Nat) v h' tk, (es.map (·.key))[i]? = some v → Holds h' v (minOf x xs) → (∀ b o, s.heap.get? b = some o → h'.get? b = some o) → Q v { s with heap := h', toks := tk }) :
    wpAny (model prog w) A (call (.builtin "min") [.ref d]) Q E s := by
  obtain ⟨as, hr⟩ := H
  have hn : es.size = xs.length + 1 := by
    have z := SeqAt.ReadsAll.length _ _ _ hr
    simpa using z
  refine call_min_walkH (iter_keysD (A := A.in1) hh hd hm fun s₂ e W st hfp hw hk => ?_)
  refine ⟨_, _, _, _, _, _, _, s.heap, _, rfl, W, st, hfp, by omega, hw, hk, cmpIn_lt (A := A.in1) hr (alikeAll_datum (x :: xs)) (room_keys (PySem.W.depthAll_map (x :: xs)) hu), fun v s' hP m => ?_⟩
  obtain ⟨h', tk, rfl, hk'⟩ := PySem.W.moved_old e rfl m
  obtain ⟨bs, r, _, _, _⟩ := PySem.W.readsAll_atA hr _ v hP
  have e1 : es.size - 1 = xs.length := by omega
  have e2 := (argBest_fold PySem.W.dataLt PyData.none (Datum.toD x) (xs.map Datum.toD) (xs.map Datum.toD).length (Nat.le_refl _)).2
  rw [List.take_length] at e2
  rw [e1] at r
  rw [List.length_map] at e2
  refine h _ v h' tk hP ⟨bs, PySem.W.reads_keeps hk' ?_⟩ hk'
  rw [← PySem.W.minD_map]
  unfold PySem.W.minD
  rw [← e2]
  exact r
theorem max_keysD {d : Addr} {es : Array DictEntry} {ep : Nat} {x : α} {xs : List α} {Q : Value → Shared → Prop} (hh : A.handled = none) (hd : (d == sysModules) = false) (hm : s.heap.DictRaw d es ep) (H : HoldAll s.heap (es.map (·.key)).toList (x :: xs)) (hu : A.units + 1 + Datum.depth α < cLine)
    (h : ∀ (i : Nat) v h' tk, (es.map (·.key))[i]? = some v → Holds h' v (maxOf x xs) → (∀ b o, s.heap.get? b = some o → h'.get? b = some o) → Q v { s with heap := h', toks := tk }) :
    wpAny (model prog w) A (call (.builtin "max") [.ref d]) Q E s := by
  obtain ⟨as, hr⟩ := H
  have hn : es.size = xs.length + 1 := by
    have z := SeqAt.ReadsAll.length _ _ _ hr
    simpa using z
  refine call_max_walkH (iter_keysD (A := A.in1) hh hd hm fun s₂ e W st hfp hw hk => ?_)
  refine ⟨_, _, _, _, _, _, _, s.heap, _, rfl, W, st, hfp, by omega, hw, hk, cmpIn_gt (A := A.in1) hr (alikeAll_datum (x :: xs)) (room_keys (PySem.W.depthAll_map (x :: xs)) hu), fun v s' hP m => ?_⟩
  obtain ⟨h', tk, rfl, hk'⟩ := PySem.W.moved_old e rfl m
  obtain ⟨bs, r, _, _, _⟩ := PySem.W.readsAll_atA hr _ v hP
  have e1 : es.size - 1 = xs.length := by omega
  have e2 := (argBest_fold (fun a b => PySem.W.dataLt b a) PyData.none (Datum.toD x) (xs.map Datum.toD) (xs.map Datum.toD).length (Nat.le_refl _)).2
  rw [List.take_length] at e2
  rw [e1] at r
  rw [List.length_map] at e2
  refine h _ v h' tk hP ⟨bs, PySem.W.reads_keeps hk' ?_⟩ hk'
  rw [← PySem.W.maxD_map]
  unfold PySem.W.maxD
  rw [← e2]
  exact r
end
section
variable {X : Cx} {pins : List (Addr × Obj)} {σ : L2.St} {H : Hp} {s : Shared}
theorem paired_getR {α β : Type} {G : α → β → Prop} : ∀ {l₁ : List α} {l₂ : List β}, Paired G l₁ l₂ → ∀ {i : Nat} {b : β}, l₂[i]? = some b → ∃ a, l₁[i]? = some a ∧ G a b
  | _, _, .nil, i, b, h => by simp at h
  | _, _, .cons r t, 0, b, h => by
    simp only [List.getElem?_cons_zero, Option.some.injEq] at h
    exact ⟨_, rfl, h ▸ r⟩
  | _, _, .cons r t, i + 1, b, h => by
    obtain ⟨a, h1, h2⟩ := paired_getR t (i := i) (b := b) (by simpa using h)
    exact ⟨a, by simpa using h1, h2⟩
/-- the entries of a dict with tuple keys -/
theorem dt_rawAt (I : Inv X pins σ H s) {d : Addr} {kvs : List (List Key × V)} (hd : Rd H d (.dT kvs)) : ∃ xs es ep, (d == sysModules) = false ∧ s.heap.DictRaw d es ep ∧ KT H kvs xs ∧ es.toList.map (·.key) = xs.map fun x => Value.ref x.2.1 := by
  obtain ⟨z, hs, ks, pr, o, es, ep, ho, hx, hdt, he, hn⟩ := (show ObjOk X.prog X.w H s.heap d (.dT kvs) from hd.ok I.hok)
  refine ⟨ks, es, ep, hs, ⟨o, ho, hx, hdt⟩, pr, ?_⟩
  rw [he, List.map_map]
  rfl
/-- a tuple key of ints -/
def kI (ns : List Int) : List Key := ns.map Sum.inl
theorem kI_kV (ns : List Int) : (kI ns).map kV = ns.map V.int := by
  unfold kI
  rw [List.map_map]
  rfl
theorem hold_keysT (I : Inv X pins σ H s) : ∀ {nss : List (List Int)} {kvs : List (List Key × V)} {xs : List (List Key × Addr × Value)}, KT H kvs xs → kvs.map (·.1) = nss.map kI → HoldAll s.heap (xs.map fun x => Value.ref x.2.1) (nss.map Tup.mk)
  | [], _, _, .nil, _ => HoldAll.nil
  | [], _, _, .cons _ _, e => by simp at e
  | _ :: _, _, _, .nil, e => by simp at e
  | ns :: nss, (k, v) :: kvs, x :: xs, .cons ⟨h1, h2, _⟩ t, e => by
    simp only [List.map_cons, List.cons.injEq] at e h1
    obtain ⟨e1, e2⟩ := e
    refine HoldAll.cons ?_ (hold_keysT I t e2)
    refine Dv.holds (v := .ref x.2.1) I ?_ rfl
    refine Dp.tup (.inl (.inl h2)) ?_
    simp only
    rw [e1, kI_kV]
    exact ints_dvs ns
/-- min(d) of a dict with tuples of ints as keys: one of the keys, its own tuple -/
theorem cr_minT (hc : X.calm = true) (hu : X.A.units + 2 < cLine) : CallR X (.builtin "min") (fun vs H Q => ∃ (d : Addr) (kvs : List (List Key × V)) (nss : List (List Int)), vs = [.ref d] ∧ Rd H d (.dT kvs) ∧ kvs.map (·.1) = nss.map kI ∧ nss ≠ [] ∧ ∀ p ns, ns ∈ nss → H p = some (.tup (ns.map V.int)) → Q (.ref p) H) := by
  rintro pins s σ H vs us Q I r ⟨d, kvs, nss, rfl, hd, hk, hne, q⟩
  rw [Vals.ref1 r]
  obtain ⟨xs, es, ep, hs, raw, kt, hkeys⟩ := dt_rawAt I hd
  have hH := hold_keysT I kt hk
  rw [← hkeys] at hH
  cases nss with
  | nil => exact absurd rfl hne
  | cons n ns =>
    refine min_keysD (α := Tup Int) (x := ⟨n⟩) (xs := ns.map Tup.mk) (I.ok.hd hc) hs raw (by simpa using hH) (by show _ + (0 + 1) < _; omega) fun i v h' tk hv hh hkeep => ?_
    have e1 : (xs.map fun x => Value.ref x.2.1)[i]? = some v := by
      rw [← hkeys]
      simpa using hv
    rw [List.getElem?_map] at e1
    obtain ⟨y, hy, rfl⟩ := Option.map_eq_some_iff.mp e1
    obtain ⟨z, hz, z1, z2, z3⟩ := paired_getR kt hy
    have hz' : ((n :: ns).map kI)[i]? = some z.1 := by rw [← hk, List.getElem?_map, hz]; rfl
    rw [List.getElem?_map] at hz'
    obtain ⟨m, hm, em⟩ := Option.map_eq_some_iff.mp hz'
    refine ⟨.ref y.2.1, H, I.kept hkeep, rfl, q y.2.1 m (List.mem_of_getElem? hm) ?_⟩
    rw [z2, ← em, kI_kV]
end
end MF
end
section
set_option Elab.async false
set_option linter.all false
set_option maxRecDepth 100000
set_option maxHeartbeats 4000000
namespace MF
open PySem PySem.Spec PyProof.Rows L2
open PySem.W (Datum Tup Holds HoldAll)
/-! tuples of ints, lists and tuples of them -/
def Tu (H : Hp) (p : Addr) (ns : List Int) : Prop := Rd H p (.tup (ns.map V.int))
/-- known to the word: a key that a dict may take -/
def TuX (H : Hp) (p : Addr) (ns : List Int) : Prop := H p = some (.tup (ns.map V.int))
/-- known to hold no dict: its methods may be called -/
def TuD (H : Hp) (p : Addr) (ns : List Int) : Prop := ∃ o : Obj, H p = some (.frz o (.tup (ns.map V.int))) ∧ o.dict = none ∧ o.cls = .type "tuple"
abbrev Tus (H : Hp) : List Addr → List (List Int) → Prop := Paired (Tu H)
def LsT (H : Hp) (l : Addr) (nss : List (List Int)) : Prop := ∃ ps : List Addr, H l = some (.lst (ps.map V.ref)) ∧ Tus H ps nss
def TsT (H : Hp) (t : Addr) (nss : List (List Int)) : Prop := ∃ ps : List Addr, H t = some (.tup (ps.map V.ref)) ∧ Tus H ps nss
section
variable {K : PySem.W.Frag} {H H' : Hp}
theorem Rd.mono (e : Same H H') {p : Addr} {u : HO} (h : Rd H p u) : Rd H' p u := h.elim (fun z => .inl (e _ _ z)) fun ⟨o, z⟩ => .inr ⟨o, e _ _ z⟩
theorem Tu.mono (e : Same H H') {p : Addr} {ns : List Int} (h : Tu H p ns) : Tu H' p ns := Rd.mono e h
theorem TuX.mono (e : Same H H') {p : Addr} {ns : List Int} (h : TuX H p ns) : TuX H' p ns := e _ _ h
theorem TuD.mono (e : Same H H') {p : Addr} {ns : List Int} (h : TuD H p ns) : TuD H' p ns := let ⟨o, h1, h2⟩ := h; ⟨o, e _ _ h1, h2⟩
theorem TuX.tu {p : Addr} {ns : List Int} (h : TuX H p ns) : Tu H p ns := .inl h
theorem TuD.tu {p : Addr} {ns : List Int} (h : TuD H p ns) : Tu H p ns := let ⟨o, h1, _⟩ := h; .inr ⟨o, h1⟩
theorem Tus.mono (e : Same H H') : ∀ {ps : List Addr} {nss : List (List Int)}, Tus H ps nss → Tus H' ps nss
  | _, _, .nil => .nil
  | _, _, .cons h t => .cons (h.mono e) (Tus.mono e t)
theorem LsT.mono (e : Same H H') {l : Addr} {nss : List (List Int)} (h : LsT H l nss) : LsT H' l nss := let ⟨ps, h1, h2⟩ := h; ⟨ps, e _ _ h1, h2.mono e⟩
theorem TsT.mono (e : Same H H') {l : Addr} {nss : List (List Int)} (h : TsT H l nss) : TsT H' l nss := let ⟨ps, h1, h2⟩ := h; ⟨ps, e _ _ h1, h2.mono e⟩
theorem Tu.sq {p : Addr} {ns : List Int} (h : Tu H p ns) : SqT K H p (ns.map V.int) := .inl h
theorem Tu.dv {p : Addr} {ns : List Int} (h : Tu H p ns) : Dv K H (.ref p) (Tup.mk ns) := Dp.tup h.sq (ints_dvs ns)
theorem Tus.dvs : ∀ {ps : List Addr} {nss : List (List Int)}, Tus H ps nss → Dvs K H (ps.map V.ref) (nss.map Tup.mk)
  | _, _, .nil => .nil
  | _, _, .cons h t => .cons h.dv (Tus.dvs t)
theorem LsT.dv {l : Addr} {nss : List (List Int)} (h : LsT H l nss) : Dv K H (.ref l) (nss.map Tup.mk : List (Tup Int)) := let ⟨ps, h1, h2⟩ := h; Dp.lst (.inl (.inl h1)) h2.dvs
theorem TsT.dv {l : Addr} {nss : List (List Int)} (h : TsT H l nss) : Dv K H (.ref l) (Tup.mk (nss.map Tup.mk) : Tup (Tup Int)) := let ⟨ps, h1, h2⟩ := h; Dp.tup (.inl (.inl h1)) h2.dvs
theorem Tus.length {ps : List Addr} {nss : List (List Int)} (h : Tus H ps nss) : ps.length = nss.length := Paired.length h
theorem Tus.append {ps qs : List Addr} {nss mss : List (List Int)} : Tus H ps nss → Tus H qs mss → Tus H (ps ++ qs) (nss ++ mss)
  | .nil, h => h
  | .cons a b, h => .cons a (Tus.append b h)
end
/-! the order of rows of ints -/
/-- the rows, ascending -/
def srt (nss : List (List Int)) : List (List Int) := nss.mergeSort fun a b => decide (a ≤ b)
section
variable {X : Cx} {pins : List (Addr × Obj)} {σ : L2.St} {H : Hp} {s : Shared}
abbrev PL := Addr × Int × List Int
abbrev PL.row (b : PL) : List Int := b.2.1 :: b.2.2
abbrev PL.enc (b : PL) : PyData := .tuple ((PL.row b).map .int)
theorem pl_le : PySem.W.dataLe false PL.enc = fun p q => decide (PL.row p ≤ PL.row q) := by
  funext p q
  have := congrFun (congrFun (PySem.W.dataLe_rows PL.row) p) q
  rw [← this]
  show (!PySem.W.dataLt (.tuple _) (.tuple _)) = (!PySem.W.dataLt (.list _) (.list _))
  rw [PySem.W.dataLt_tuple, PySem.W.dataLt_list]
theorem pl_alike (b b' : PL) : PySem.W.alike (PL.enc b) (PL.enc b') = true := by
  show PySem.W.alike (.tuple _) (.tuple _) = true
  simp only [PySem.W.alike]
  exact PySem.W.alike_ints _ _
theorem pl_of : ∀ {ps : List Addr} {nss : List (List Int)}, Tus H ps nss → (∀ ns ∈ nss, ns ≠ []) → ∃ bs : List PL, ps = bs.map (·.1) ∧ nss = bs.map PL.row ∧ ∀ b ∈ bs, Tu H b.1 (PL.row b)
  | _, _, .nil, _ => ⟨[], rfl, rfl, fun _ h => nomatch h⟩
  | p :: ps, ns :: nss, .cons h t, hn => by
    obtain ⟨bs, e1, e2, e3⟩ := pl_of t fun n m => hn n (List.mem_cons_of_mem _ m)
    cases ns with
    | nil => exact absurd rfl (hn [] List.mem_cons_self)
    | cons x xs =>
      refine ⟨(p, x, xs) :: bs, by rw [e1]; rfl, by rw [e2]; rfl, fun b hb => ?_⟩
      rcases List.mem_cons.mp hb with rfl | hb
      · exact h
      · exact e3 b hb
theorem pl_tis : ∀ {bs : List PL}, (∀ b ∈ bs, Tu H b.1 (PL.row b)) → Tus H (bs.map (·.1)) (bs.map PL.row)
  | [], _ => .nil
  | b :: bs, h => .cons (h b List.mem_cons_self) (pl_tis fun c m => h c (List.mem_cons_of_mem _ m))
theorem pl_sorted {bs : List PL} (h : ∀ b ∈ bs, Tu H b.1 (PL.row b)) : Tus H ((bs.mergeSort (PySem.W.dataLe false PL.enc)).map (·.1)) (srt (bs.map PL.row)) := by
  have e : srt (bs.map PL.row) = (bs.mergeSort (PySem.W.dataLe false PL.enc)).map PL.row := by
    unfold srt
    refine (PySem.W.sort_maps PL.row fun a _ b _ => ?_).symm
    rw [pl_le]
  rw [e]
  exact pl_tis fun b hb => h b ((List.mergeSort_perm bs _).mem_iff.mp hb)
theorem each_refs : ∀ {us : List Value} {bs : List PL}, us = bs.map (fun b => Value.ref b.1) → PySem.W.EachIs (fun v (b : PL) => v = Value.ref b.1) us bs
  | [], [], _ => .nil
  | [], _ :: _, e => by simp at e
  | _ :: _, [], e => by simp at e
  | u :: us, b :: bs, e => by
    simp only [List.map_cons, List.cons.injEq] at e
    exact .cons e.1 (each_refs e.2)
theorem refs_each : ∀ {us : List Value} {bs : List PL}, PySem.W.EachIs (fun v (b : PL) => v = Value.ref b.1) us bs → us = (bs.map (·.1)).map Value.ref
  | _, _, .nil => rfl
  | _, _, .cons h t => by rw [h, refs_each t]; rfl
theorem vals_ref : ∀ ps : List Addr, Vals (ps.map V.ref) (ps.map Value.ref)
  | [] => .nil
  | _ :: r => .cons rfl (vals_ref r)
theorem each_reads (I : Inv X pins σ H s) : ∀ {bs : List PL}, (∀ b ∈ bs, Tu H b.1 (PL.row b)) → PySem.W.EachIs (fun v (b : PL) => ∃ as, Reads s.heap v (PL.enc b) as) (bs.map fun b => Value.ref b.1) bs
  | [], _ => .nil
  | b :: bs, h => .cons (Dv.holds (α := Tup Int) (v := .ref b.1) (x := Tup.mk (PL.row b)) I (h b List.mem_cons_self).dv rfl) (each_reads I fun c m => h c (List.mem_cons_of_mem _ m))
/-- sorted(l), a list of tuples of ints, of any length -/
theorem cr_sortTI (hu : X.A.units + 3 < cLine) : CallR X (.builtin "sorted") (fun vs H Q => ∃ (a : Addr) (ps : List Addr) (nss : List (List Int)), vs = [.ref a] ∧ SqL X.K H a (ps.map V.ref) ∧ Tus H ps nss ∧ (∀ ns ∈ nss, ns ≠ []) ∧
    ∀ p ps', H p = none → Tus H ps' (srt nss) → (∀ p ∈ ps', p ∈ ps) → Q (.ref p) (upd H p (.lst (ps'.map V.ref)))) := by
  rintro pins s σ H vs us Q I r ⟨a, ps, nss, rfl, hs, ht, hn, q⟩
  rw [Vals.ref1 r]
  obtain ⟨its, rv, hl, hz⟩ := I.list hs
  obtain ⟨bs, e1, e2, e3⟩ := pl_of ht hn
  have ei : its = bs.map fun b => Value.ref b.1 := by
    have e := refs_at rv
    rw [e, e1, List.map_map]
    rfl
  have hlen : bs.length ≤ sizeLine := by
    rw [e1] at hz
    simpa using hz
  refine PySem.W.sorted_data (R := fun v (b : PL) => v = Value.ref b.1) (bs := bs) (enc := PL.enc) hl.isList (each_refs ei) (by rw [ei]; exact each_reads I e3) (PySem.W.AllAlike.of pl_alike) (PySem.W.Sortable.tuples fun b => ⟨_, _, rfl⟩) hlen (fun b _ => ?_) fun out ho eo => ?_
  · have d : (PL.enc b).depth ≤ 1 := Datum.depth_le (α := Tup Int) (Tup.mk (PL.row b))
    omega
  · obtain ⟨ep, he'⟩ := PyProof.Rows.sortedAll_at s.heap its out.toArray
    have eo' := refs_each eo
    have hTI := pl_sorted e3
    rw [← e2] at hTI
    refine ⟨.ref _, upd H (s.heap.objs.size + 1) (.lst (((bs.mergeSort (PySem.W.dataLe false PL.enc)).map (·.1)).map V.ref)), I.laid (t' := s.toks) (fun _ _ => PyProof.Rows.sortedAll_old) (Nat.le_succ _) ⟨?_, out, ep, ?_, he'⟩, rfl, q _ _ (I.hok.fresh (Nat.le_succ _)) hTI fun p hp => ?_⟩
    · simpa using hlen
    · rw [eo']
      exact vals_ref _
    · obtain ⟨b, hb, rfl⟩ := List.mem_map.mp hp
      rw [e1]
      exact List.mem_map.mpr ⟨b, (List.mergeSort_perm bs _).mem_iff.mp hb, rfl⟩
theorem reads_ints {h : Heap} : ∀ {ns : List Int} {us : List Value} {as : List Addr}, ReadsAll h us (ns.map PyData.int) as → as = []
  | [], _, _, .nil => rfl
  | _ :: _, _, _, .cons a t => by
    cases a
    rw [reads_ints t]
    rfl
theorem each_reads0 (I : Inv X pins σ H s) {D : Addr} : ∀ {bs : List PL}, (∀ b ∈ bs, Tu H b.1 (PL.row b)) → PySem.W.EachIs (fun v (b : PL) => ∃ as, Reads s.heap v (PL.enc b) as ∧ D ∉ as) (bs.map fun b => Value.ref b.1) bs
  | [], _ => .nil
  | b :: bs, h => by
    refine .cons ?_ (each_reads0 I fun c m => h c (List.mem_cons_of_mem _ m))
    obtain ⟨as, r⟩ := Dv.holds (α := Tup Int) (v := .ref b.1) (x := Tup.mk (PL.row b)) I (h b List.mem_cons_self).dv rfl
    refine ⟨as, r, ?_⟩
    have z : as = [] := by
      cases r with
      | tuple _ _ _ rs => exact reads_ints rs
    rw [z]
    simp
/-- sorted(d), a dict with tuples of ints as keys -/
theorem cr_sortDT (hc : X.calm = true) (hu : X.A.units + 4 < cLine) : CallR X (.builtin "sorted") (fun vs H Q => ∃ (d : Addr) (kvs : List (List Key × V)) (nss : List (List Int)), vs = [.ref d] ∧ Rd H d (.dT kvs) ∧ kvs.map (·.1) = nss.map kI ∧ (∀ ns ∈ nss, ns ≠ []) ∧
    ∀ p ps', H p = none → Tus H ps' (srt nss) → Q (.ref p) (upd H p (.lst (ps'.map V.ref)))) := by
  rintro pins s σ H vs us Q I r ⟨d, kvs, nss, rfl, hd, hk, hn, q⟩
  rw [Vals.ref1 r]
  obtain ⟨z, hs, ks, pr, o, es, ep, ho, hx, hdt, he, hnd⟩ := (show ObjOk X.prog X.w H s.heap d (.dT kvs) from hd.ok I.hok)
  have l1 : es.size = ks.length := size_of_entries he
  have l2 : kvs.length = ks.length := Paired.length pr
  have hz : es.size ≤ sizeLine := by omega
  have ht : Tus H (ks.map fun x => x.2.1) nss := by
    clear he l1 l2 hnd z hd q hz hdt
    induction pr generalizing nss with
    | nil =>
      cases nss with
      | nil => exact .nil
      | cons _ _ => simp at hk
    | cons h t ih =>
      cases nss with
      | nil => simp at hk
      | cons n ns =>
        simp only [List.map_cons, List.cons.injEq] at hk
        refine .cons ?_ (ih ns hk.2 fun m hm => hn m (List.mem_cons_of_mem _ hm))
        obtain ⟨_, h2, _⟩ := h
        exact .inl (by rw [h2, hk.1, kI_kV])
  obtain ⟨bs, e1, e2, e3⟩ := pl_of ht hn
  refine Calls.call_function_entry PyProof.Rows.kind_sorted PyProof.Rows.plain_sorted PyProof.Rows.entry_sorted (PyProof.Rows.args_sorted1 _) ?_
  unfold Builtin.«sorted»
  refine wpAny_bind (m := checkCount "sorted" 1 1 _) (wpAny_pure ?_)
  refine wpAny_bind (PySem.W.kdu_collect (A := X.A.in1) (kdl_raw hs hx hdt) (I.ok.hd hc) ho hz fun h' tk acc hkeep hacc => ?_)
  have hal : acc.toList = bs.map fun b => Value.ref b.1 := by
    have hl : acc.toList.length = ks.length := by rw [Array.length_toList, hacc.1]; exact l1
    have e4 : (bs.map fun b => Value.ref b.1) = ks.map fun x => Value.ref x.2.1 := by
      have := congrArg (List.map Value.ref) e1
      rw [List.map_map, List.map_map] at this
      exact this.symm
    rw [e4]
    apply List.ext_getElem?
    intro j
    cases hj : acc.toList[j]? with
    | none =>
      have h1 := List.getElem?_eq_none_iff.mp hj
      rw [List.getElem?_eq_none (by rw [List.length_map]; omega)]
    | some v =>
      obtain ⟨en, hen, hv⟩ := hacc.2 j v (by rw [← Array.getElem?_toList]; exact hj)
      have qe := entry_at he j
      rw [hen] at qe
      rw [List.getElem?_map]
      cases hb : ks[j]? with
      | none => rw [hb] at qe; exact nomatch (show some en = none from qe)
      | some b =>
        rw [hb] at qe
        have e5 : en = entryOfKey (tupleKind (mixKind X.prog X.w)) b := Option.some.inj qe
        rw [hv, e5]
        rfl
  have I1 : Inv X pins σ H { s with heap := h', toks := tk } := I.kept hkeep
  have hbl : bs.length = es.size := by
    have := congrArg List.length hal
    rw [Array.length_toList, hacc.1, List.length_map] at this
    exact this.symm
  refine wpAny_bind (wpAny_newList ?_ (by rw [Array.length_toList, hacc.1]; exact hz))
  have hoL : (h'.push (seqObj "list" acc.toList.toArray 0)).get? h'.objs.size = some (seqObj "list" acc.toList.toArray 0) := Heap.get?_push_size _ rfl
  show wpAny _ _ _ _ _ { s with heap := h'.push (seqObj "list" acc.toList.toArray 0), toks := tk }
  have hnew : ∀ b o, h'.get? b = some o → (h'.push (seqObj "list" acc.toList.toArray 0)).get? b = some o := fun b o e => Heap.get?_push_of_some _ e
  refine wpAny_bind (wpAny_holding (wpAny_mono (PySem.W.list_sort_data (s := { s with heap := h'.push (seqObj "list" acc.toList.toArray 0), toks := tk }) (R := fun v (b : PL) => v = Value.ref b.1) (bs := bs) (enc := PL.enc) (Q := fun _ s' => EP X pins σ Q (.ref h'.objs.size) s') hoL (each_refs hal) ?_ (PySem.W.AllAlike.of pl_alike) (PySem.W.Sortable.tuples fun b => ⟨_, _, rfl⟩) (by omega) (fun b _ => ?_) fun out ho' eo => ?_) (fun _ s' x => wpAny_pure ⟨_, rfl, x⟩) fun _ _ e => e))
  · have z := (each_reads0 I1 (D := h'.objs.size) e3).mono (R' := fun v (b : PL) => ∃ as, Reads (h'.push (seqObj "list" acc.toList.toArray 0)) v (PL.enc b) as ∧ h'.objs.size ∉ as) fun v b ⟨as, r, hn⟩ => ⟨as, PySem.W.reads_keeps hnew r, hn⟩
    rw [← hal] at z
    exact z
  · have d : (PL.enc b).depth ≤ 1 := Datum.depth_le (α := Tup Int) (Tup.mk (PL.row b))
    show X.A.units + 1 + 1 + (PL.enc b).depth < cLine
    omega
  · obtain ⟨e', he'⟩ := PyProof.Rows.sortedHeap_at (vs := acc.toList) (out := out.toArray) hoL
    have eo' := refs_each eo
    have hTI := pl_sorted e3
    rw [← e2] at hTI
    refine ⟨.ref h'.objs.size, upd H h'.objs.size (.lst (((bs.mergeSort (PySem.W.dataLe false PL.enc)).map (·.1)).map V.ref)), I1.laid (t' := tk) (fun b u e => ?_) (Nat.le_refl _) ⟨?_, out, e', ?_, he'⟩, rfl, q _ _ (I1.hok.fresh (Nat.le_refl _)) hTI⟩
    · have hb : b < h'.objs.size := Heap.lt_size e
      rw [PyProof.Rows.sortedHeap_old (Nat.ne_of_lt hb) (by rw [size_push']; exact Nat.lt_succ_of_lt hb)]
      exact hnew b u e
    · simpa [hbl] using hz
    · rw [eo']
      exact vals_ref _
end
end MF
end
section
set_option Elab.async false
set_option linter.all false
set_option maxRecDepth 100000
set_option maxHeartbeats 4000000
namespace MF
open PySem PySem.Spec PyProof.Rows L2
open PySem.W (Datum Tup Holds HoldAll)
section
variable {X : Cx} {pins : List (Addr × Obj)} {σ : L2.St} {H : Hp} {s : Shared}
/-- the keys of a dict of ints, held -/
theorem hold_keysK (I : Inv X pins σ H s) {d : Addr} {kvs : List (Key × V)} {ns : List Int} (hd : Rd H d (.dK kvs)) (hk : kvs.map (·.1) = ns.map Sum.inl) :
    ∃ es ep, (d == sysModules) = false ∧ s.heap.DictRaw d es ep ∧ HoldAll s.heap (es.map (·.key)).toList ns := by
  obtain ⟨z, hs, vs, rel, dd⟩ := dk_rd I.hok hd
  obtain ⟨es, ep, raw, hz, hes⟩ := dd.raw
  refine ⟨es, ep, hs, raw, HoldAll.of_ints ?_⟩
  have hkeys : vs.map (·.1) = ns.map Sum.inl := (KV.keys rel).symm.trans hk
  have hl : vs.length = ns.length := by simpa using congrArg List.length hkeys
  have each : ∀ (us : List Value) (ms : List Int), us.length = ms.length → (∀ (i : Nat) (v : Value), us[i]? = some v → ∃ (m : Int) (t : Tok), ms[i]? = some m ∧ v = Value.int m t) → IntsAre us ms := by
    intro us
    induction us with
    | nil =>
      intro ms h _
      cases ms with
      | nil => exact .nil
      | cons _ _ => simp at h
    | cons u us ih =>
      intro ms h g
      cases ms with
      | nil => simp at h
      | cons m ms =>
        obtain ⟨m', t, e1, e2⟩ := g 0 u rfl
        simp only [List.getElem?_cons_zero, Option.some.injEq] at e1
        subst e1
        rw [e2]
        exact .cons _ _ (ih ms (by simpa using h) fun i v hv => by simpa using g (i + 1) v (by simpa using hv))
  refine each _ _ (by simp [hz, hl]) fun i v hv => ?_
  have hi : i < es.size := by
    have := (List.getElem?_eq_some_iff.mp hv).1
    simpa using this
  have hv' : v = es[i].key := by
    simp [hi] at hv
    exact hv.symm
  have hiv : i < vs.length := by omega
  obtain ⟨h1, _⟩ := hes i hi vs[i].1 vs[i].2 (by simp [hiv])
  have e1 : (vs.map (·.1))[i]? = some vs[i].1 := by simp [hiv]
  rw [hkeys, List.getElem?_map] at e1
  obtain ⟨m, hm, em⟩ := Option.map_eq_some_iff.mp e1
  rw [← em] at h1
  have h2 : keyIs (.inl m) es[i].key = true := h1
  obtain ⟨t, et⟩ := Value.isInt_shape (k := m) (v := es[i].key) h2
  exact ⟨m, t, hm, by rw [hv', et]⟩
/-- max(d), min(d) of a dict with ints as keys -/
theorem cr_maxK (hc : X.calm = true) (hu : X.A.units + 1 < cLine) : CallR X (.builtin "max") (fun vs H Q => ∃ (d : Addr) (kvs : List (Key × V)) (ns : List Int), vs = [.ref d] ∧ Rd H d (.dK kvs) ∧ kvs.map (·.1) = ns.map Sum.inl ∧ ns ≠ [] ∧ ∀ m, Most ns m → Q (.int m) H) := by
  rintro pins s σ H vs us Q I r ⟨d, kvs, ns, rfl, hd, hk, hne, q⟩
  rw [Vals.ref1 r]
  obtain ⟨es, ep, hs, raw, hH⟩ := hold_keysK I hd hk
  cases ns with
  | nil => exact absurd rfl hne
  | cons n ns =>
    refine max_keysD (α := Int) (I.ok.hd hc) hs raw hH (by show _ + 0 < _; omega) fun i v h' tk _ hh hkeep => ?_
    obtain ⟨t, rfl⟩ := PySem.W.int_of_holds hh
    exact ⟨.int _, H, I.kept hkeep, ⟨_, rfl⟩, q _ (maxOf_int ns n)⟩
theorem cr_minKI (hc : X.calm = true) (hu : X.A.units + 1 < cLine) : CallR X (.builtin "min") (fun vs H Q => ∃ (d : Addr) (kvs : List (Key × V)) (ns : List Int), vs = [.ref d] ∧ Rd H d (.dK kvs) ∧ kvs.map (·.1) = ns.map Sum.inl ∧ ns ≠ [] ∧ ∀ m, Least ns m → Q (.int m) H) := by
  rintro pins s σ H vs us Q I r ⟨d, kvs, ns, rfl, hd, hk, hne, q⟩
  rw [Vals.ref1 r]
  obtain ⟨es, ep, hs, raw, hH⟩ := hold_keysK I hd hk
  cases ns with
  | nil => exact absurd rfl hne
  | cons n ns =>
    refine min_keysD (α := Int) (I.ok.hd hc) hs raw hH (by show _ + 0 < _; omega) fun i v h' tk _ hh hkeep => ?_
    obtain ⟨t, rfl⟩ := PySem.W.int_of_holds hh
    exact ⟨.int _, H, I.kept hkeep, ⟨_, rfl⟩, q _ (minOf_int ns n)⟩
/-- two lists without doubles, of the same members, are as long -/
theorem len_of_mem {α : Type} [DecidableEq α] {xs ys : List α} (h1 : xs.Nodup) (h2 : ys.Nodup) (h : ∀ a, a ∈ xs ↔ a ∈ ys) : xs.length = ys.length := ((List.perm_ext_iff_of_nodup h1 h2).mpr h).length_eq
/-- len(set(t)), t a tuple of unlike ints -/
def tLenSetT (K : PySem.W.Frag) (ta : TE) : TE := fun σ H Q => ta σ H fun x H1 => ∃ (l : Addr) (ns : List Int), x = V.ref l ∧ SqT K H1 l (ns.map V.int) ∧ ns.length < 64 ∧ ns.Nodup ∧ Q (.int ns.length) H1
theorem pe_lenSetT {a : Expr} {ta : TE} {p p2 q pos : Pos} (hc : X.calm = true) (hg : Gl X "len") (hm : X.mg "len" = none) (hg2 : Gl X "set") (hm2 : X.mg "set" = none) (ha : PE X a ta)
    (na : starEach [a] X.env = (false, eval a X.env) :: starEach [] X.env := by rfl) : PE X (.Call (.Name "len" p) [.Call (.Name "set" p2) [a] [] q] [] pos) (tLenSetT X.K ta) := by
  refine ⟨fun pins s σ H Q I h => Call_ (ld_blt I hg hm PySem.boot_len ?_)⟩
  refine PyProof.Rows.callWith_builtin1 (PyProof.Rows.args_cons ?_ rfl) rfl rfl
  refine Call_ (ld_blt I hg2 hm2 PyProof.Rows.boot_set ?_)
  refine PyProof.Rows.callWith_type1 (PyProof.Rows.args_cons (thn (ha.run pins s σ H _ I h) fun v s1 ⟨x, H1, I1, r1, q1⟩ => PyProof.Rows.args_nil ?_) na) na rfl
  obtain ⟨l, ns, rfl, hq, h1, hnd, q1⟩ := q1
  cases r1
  obtain ⟨its, r, it⟩ := tupAt I1 hq
  refine call_set_tupI ns (I1.ok.hd hc) it (by simpa using r.ints) (by unfold scanBound; omega) fun h' tk c hS hle hk => ?_
  refine PyProof.Rows.args_nil ?_
  obtain ⟨o, es, ep, t, ho, hex, hd, hgood, hn1, hmem, hsb, hf, hsz, _⟩ := hS
  have I2 : Inv X pins σ H1 { s1 with heap := h', toks := tk } := I1.kept hk
  have hlen : es.size = ns.length := by
    have := len_of_mem hn1 hnd fun k => by
      rw [← hmem k]
      simp
    simpa using this
  refine call_len_set ho hex hd hf (by rw [hlen] <;> omega) ⟨.int ns.length, H1, I2.tok _, ⟨_, by rw [hlen]⟩, q1⟩
end
/-! dicts with tuples as keys, made -/
section
variable {X : Cx} {pins : List (Addr × Obj)} {σ : L2.St} {H : Hp} {s : Shared}
/-- D[k] = v by a comprehension, k a tuple -/
theorem d_dictSetT {E : Value → Shared → Prop} {D b : Addr} {kvs : List (List Key × V)} {k : List Key} {v : V} {r : Value} {Q : Unit → Shared → Prop} (hu : X.A.units < cLine) (I : Inv X pins σ H s) (hD : H D = some (.dT kvs)) (hb : H b = some (.tup (k.map kV))) (hz : kvs.length < sizeLine)
    (rv : RelV v r) (h : ∀ s', Inv X pins σ (upd H D (.dT (putK kvs k v))) s' → Q () s') : wpAny (model X.prog X.w) X.A (dictSet D (.ref b) r) Q E s := by
  obtain ⟨z, hd, xs, rel, dd⟩ := dt_of I.hok hD
  have hxz : xs.length ≤ sizeLine := by rw [← Paired.length rel]; exact z
  have hl : (putK kvs k v).length ≤ sizeLine := by have := length_putK kvs k v; omega
  refine wpAny_dictSet_heap (hsz := hxz) ?_ (key_of I.hok hb) dd fun h' dd' hs => h _ ?_
  · exact hu
  · obtain ⟨q, es, ep, hq, h2, h3, h4, _, h5⟩ := dd'
    refine d_write I (by rw [hD]; exact True.intro) hs ⟨q, hq⟩ ⟨hl, hd, _, (rel.put k hb rv).keeps fun c ys ec => ?_, q, es, ep, hq, h2, h3, h4, h5⟩
    rw [upd_ne (ne_of ec hD (fun z => nomatch z))]
    exact ec
end
end MF
end
section
set_option Elab.async false
set_option linter.all false
set_option maxRecDepth 100000
set_option maxHeartbeats 4000000
namespace MF
open PySem PySem.Spec PyProof.Rows L2
open PySem.W (Datum Tup Holds HoldAll)
section
variable {X : Cx}
/-- {k: v}, one pair, k a tuple of ints and texts -/
def tDict1T (tk tv : TE) : TE := fun σ H Q => ∀ p, H p = none → tk σ (upd H p (.dT [])) fun x H1 => tv σ H1 fun y H2 => ∃ b ks, x = .ref b ∧ H2 b = some (.tup (ks.map kV)) ∧ H2 p = some (.dT []) ∧ Q (.ref p) (upd H2 p (.dT [(ks, y)]))
theorem pe_dict1T {k v : Expr} {tk tv : TE} {pos : Pos} (hu : X.A.units < cLine) (hk : PE X k tk) (hv : PE X v tv) : PE X (.Dict [some k] [v] pos) (tDict1T tk tv) := by
  refine ⟨fun pins s σ H Q I q => ?_⟩
  have hn := I.hok.fresh (Nat.le_refl s.heap.objs.size)
  have I1 := I.laid (a := s.heap.objs.size) (o := .dT []) (h' := s.heap.push { cls := .type "dict", data := .dict #[] }) (t' := s.toks) (fun _ _ q => Heap.get?_push_of_some _ q) (Nat.le_refl _) (dt_empty s.heap I.big)
  rw [arm_eval_Dict, show (evalEachOpt [some k] X.env).zip ((evalEach [v] X.env).map fun v => do let x ← v; standAt pos; pure x) = (pairTrees [some k] [v] X.env pos).map fun p => (some p.1, p.2) from zip_pairTrees _ _ _ _ rfl rfl, dictDisplay_pairs (pairTrees [some k] [v] X.env pos) (by simp [pairTrees]) (by simp [pairTrees])]
  refine wpAny_bind (wpAny_standAt (wpAny_bind (wpAny_subDictH (knd := tupleKind (mixKind X.prog X.w)) (Q := fun d s' => wpAny (model X.prog X.w) X.A (pure (Value.ref d)) (EP X pins σ Q) X.xe s') hu (by simp [pairTrees]) ?_)))
  refine pairTrees_cons_walk (thn (hk.run pins _ σ _ _ I1 (q _ hn)) fun u s1 ⟨x, H1, I2, rx, q1⟩ => thn (hv.run pins s1 σ H1 _ I2 q1) fun w2 s2 ⟨y, H2, I3, ry, b, ks, ex, hb, hp, q2⟩ => pairTrees_nil_walk ?_)
  subst ex
  cases (show u = Value.ref b from rx)
  obtain ⟨z, hd, xs, rel, dd⟩ := dt_of I3.hok hp
  cases rel
  refine ⟨[(ks, b, w2)], ⟨rfl, rfl, key_of I3.hok hb, True.intro⟩, dd, fun h' tk' dd' hs => wpAny_pure ⟨.ref s.heap.objs.size, _, ?_, rfl, q2⟩⟩
  obtain ⟨o, es, ep, ho, h2, h3, h4, _, h5⟩ := dd'
  refine d_write I3 (by rw [hp]; exact True.intro) hs ⟨o, ho⟩ ⟨(by rw [sizeLine_eq]; simp), hd, [(ks, b, w2)], .cons ⟨rfl, ?_, ry⟩ .nil, o, es, ep, ho, h2, h3, h4, h5⟩
  show upd H2 s.heap.objs.size _ b = _
  rw [upd_ne (ne_of hb hp (fun z => nomatch z))]
  exact hb
/-- {k: v for target in iter if ..}, the keys tuples: D the new dict -/
def tDcT (wi : TI) (g : TG) (tt : TT) (tk tv : TE) (vs : List Nat) : TE := fun σ H Q => wi σ H fun J H1 => ∀ D, H1 D = none → ∃ W : Nat → Nat → Hp → Prop, (∃ m, W 0 m (upd H1 D (.dT []))) ∧ ∀ i m H, W i m H →
  (J.stop i H ∧ Q (.ref D) H) ∨ (J.go i H ∧ ∃ Nx : Hp → Prop, (∀ H', Nx H' → ∃ m', m' < m ∧ W (i + 1) m' H') ∧ ∀ x H', J.yld i H x H' → g x (wipe σ vs) H' fun σ2 H2 => wipe σ2 vs = wipe σ vs ∧ tt σ2 H2 fun b H3 =>
    if b = true then tk σ2 H3 fun y H4 => tv σ2 H4 fun z H5 => ∃ kvs k c, y = .ref c ∧ H5 c = some (.tup (k.map kV)) ∧ H5 D = some (.dT kvs) ∧ kvs.length < sizeLine ∧ Nx (upd H5 D (.dT (putK kvs k z))) else Nx H3)
/-- what a comprehension's parts ask of the block that it runs in -/
abbrev InBlk (X : Cx) (scope : Scope) (P : Cx → Prop) : Prop := ∀ (s : Shared) (H : Hp) (C : Addr) (cl : List (Str × Addr)) (fp : List Addr), P (X.blk s H scope (compEnvC scope cl C X.env) fp)
theorem pe_dcT {kx vx tg iter : Expr} {ifs : List Expr} {scope : Scope} {own : List (Str × Nat)} {pos : Pos} {wi : L2.TI} {g : TG} {tt : L2.TT} {tk tv : TE} (hu : X.A.units < cLine) (hc : X.calm = true) (hN : X.N.Nodup) (hi : PI X tg iter wi) (ok : BlkOk X.N X.env.scope scope own)
    (hg : InBlk X scope fun B => PG B tg g) (ht : InBlk X scope fun B => PTs B ifs tt) (hk : InBlk X scope fun B => PE B kx tk) (hv : InBlk X scope fun B => PE B vx tv) (hs : ∀ x, foldedSetIterable iter X.env x = pure x := by intro _; rfl) :
    PE X (.DictComp kx vx [⟨tg, iter, ifs, 0⟩] scope pos) (tDcT wi g tt tk tv (own.map (·.2))) := by
  refine ⟨fun pins s σ H Q I h => ?_⟩
  rw [arm_eval_DictComp]
  have cellThere : ∀ y ∈ scope.names, y.2 = .free → ∃ c, X.env.cells.lookup y.1 = some c := fun y hy e => (ok.free y hy e).elim (fun k => I.ok.has _ (.inl k)) fun k => I.ok.has _ (.inr k)
  refine wpAny_comprehension_free rfl hs (closure_ok cellThere) ok.kind (fun y hy e => by rw [ok.uniq y hy, e]) (thn (hi.run pins s σ H _ I h) fun xv s1 hx => thn hx fun itv s2 turns => ?_)
  obtain ⟨it, fp, tn, J, H2, e, I2, T, at2, fresh2, q⟩ := turns
  subst e
  refine wpAny_newObj_type (newEnv_comp ?_)
  generalize hD : s2.heap.objs.size = D
  have free2 : H2 D = none := I2.hok.fresh (Nat.le_of_eq hD)
  obtain ⟨W, ⟨m0, w0⟩, turn⟩ := q D free2
  -- the new dict
  generalize hs3 : ({ s2 with heap := s2.heap.push { cls := .type "dict", data := .dict #[] } } : Shared) = s3
  have heap3 : s3.heap = s2.heap.push { cls := .type "dict", data := .dict #[] } := by rw [← hs3]
  have I3 : Inv X pins σ (upd H2 D (.dT [])) s3 := by
    rw [← hs3, ← hD]
    exact I2.laid (t' := s2.toks) (fun b o e => Heap.get?_push_of_some _ e) (Nat.le_refl _) (dt_empty s2.heap I2.big)
  have below : ∀ b ∈ fp, b < s2.heap.objs.size := fun b hb => let ⟨o, e, _⟩ := T.obj _ _ at2 b hb; Heap.lt_size e
  have fresh3 : ∀ b ∈ fp, FpOk X pins (upd H2 D (.dT [])) b ∧ b < s3.heap.objs.size := fun b hb => by
    have hlt := below b hb
    refine ⟨⟨(upd_ne (by rw [← hD]; exact Nat.ne_of_lt hlt)).trans (fresh2 b hb).1, (fresh2 b hb).2⟩, ?_⟩
    rw [heap3, Heap.size_push]
    exact Nat.lt_succ_of_lt hlt
  have at3 : tn 0 s3.heap := T.keep _ _ _ at2 fun b _ o e => by
    rw [heap3]
    exact Heap.get?_push_of_some _ e
  have I4 := block_start I3 ok hN fresh3
  generalize hcl : cellsFrom (s3.heap.objs.size + 1) scope.names (cloFrom X.env.cells scope.names []) = cl at I4
  have pg := hg s3 (upd H2 D (.dT [])) s3.heap.objs.size cl fp
  have pt := ht s3 (upd H2 D (.dT [])) s3.heap.objs.size cl fp
  have pk := hk s3 (upd H2 D (.dT [])) s3.heap.objs.size cl fp
  have pv' := hv s3 (upd H2 D (.dT [])) s3.heap.objs.size cl fp
  show codeAny _ _ (.compStart (.DictComp kx vx [⟨tg, iter, ifs, 0⟩] scope pos) 0 (.ref it) (.ref D) (compEnvC scope cl s3.heap.objs.size X.env)) (compPost (model X.prog X.w) X.A X.xe none _ (.ref D) s3.heap.objs.size) { s3 with heap := pushCells (s3.heap.push { cls := .type "dict", data := .dict #[] }) scope.names }
  have none3 : ∀ b ∈ fp, (upd H2 D (.dT [])) b = none := fun b hb => (fresh3 b hb).1.1
  generalize hce : compEnvC scope cl s3.heap.objs.size X.env = ce at I4 pg pt pk pv' ⊢
  have loc : ce.locals = s3.heap.objs.size := by rw [← hce]; rfl
  generalize hH3 : upd H2 D (.dT []) = H3 at I3 I4 pg pt pk pv' w0 none3 fresh3
  generalize hs4 : ({ s3 with heap := pushCells (s3.heap.push { cls := .type "dict", data := .dict #[] }) scope.names } : Shared) = s4 at I4 ⊢
  have at4 : tn 0 s4.heap := T.keep _ _ _ at3 fun b _ o e => by
    rw [← hs4]
    exact pushCells_keeps _ _ _ _ (Heap.get?_push_of_some _ e)
  have still : ∀ {σ' : L2.St} {H' : Hp} {s' : Shared}, Inv (X.blk s3 H3 scope ce fp) [] σ' H' s' → (∀ b ∈ fp, H' b = none) → ∀ b ∈ fp, FpOk (X.blk s3 H3 scope ce fp) [] H' b := fun I' hn b hb =>
    ⟨hn b hb, (I'.ok.exf b hb).1, I'.ok.exfs b hb, .inl hb, fun x c e => (I'.ok.exf b hb).2 x c e, fun p hp => nomatch (show p ∈ ([] : List (Addr × Obj)) from hp)⟩
  refine codeAny_compStart_dict ?loop (T.self X.A 0 _ _ _ at4 ?loop)
  case loop =>
    refine compLoop_anyD (fun n s' => ∃ i H', Inv (X.blk s3 H3 scope ce fp) [] (wipe σ (own.map (·.2))) H' s' ∧ tn i s'.heap ∧ (∀ b ∈ fp, H' b = none) ∧ W i n H') ?_ m0 ⟨0, H3, I4, at4, none3, w0⟩
    rintro n s5 ⟨i, H5, I5, at5, none5, w5⟩
    rcases turn i n H5 w5 with ⟨stop, qq⟩ | ⟨go, Nx, hNx, step⟩
    · refine thnF (T.done (X.blk s3 H3 scope ce fp) rfl rfl rfl hc i [] s5 _ H5 (fun _ _ => False) I5 (still I5 none5) at5 stop) fun r s6 ⟨hr, I6⟩ => ?_
      subst hr
      -- back in the def
      have I7 : Inv X pins σ H5 s6 := I3.call' (ch := fp) I6.os I6.base I6.hok I6.bare fun b hb => ⟨(fresh3 b hb).1.2.2.2.1, (fresh3 b hb).1.2.1, (fresh3 b hb).1.2.2.2.2.1, (fresh3 b hb).1.2.2.2.2.2⟩
      have noC : H5 s3.heap.objs.size = none := by
        rw [← loc]
        exact I6.free
      obtain ⟨m, hn, _⟩ := I6.loc
      have hn' : s6.heap.Ns ce.locals m := hn
      rw [loc] at hn'
      obtain ⟨f0, f1, f2, f3, f4, f5⟩ := I3.fpOk (Nat.le_refl _) noC
      exact ⟨m, hn', fun h'' sb => ⟨.ref D, H5, I7.turned (t' := s6.toks) (fun b o hb e => (sb.2 b hb).trans e) f0 f1 f3 f4 f5, rfl, qq⟩⟩
    · refine thnF (T.item (X.blk s3 H3 scope ce fp) rfl rfl rfl hc i [] s5 _ H5 (fun _ _ => False) I5 (still I5 none5) at5 go) fun r s6 ⟨u, hr, h6⟩ => ?_
      subst hr
      refine thnF h6 fun _ s7 ⟨x, H7, I7, r7, y7, at7, none7⟩ => ?_
      have I7' := I7.pinned (still I7 none7) (T.obj _ _ at7)
      refine thnF (pg.run _ s7 _ H7 x u _ I7' r7 (step x H7 y7)) fun _ s8 ⟨σ8, H8, I8, hw8, q8⟩ => ?_
      refine thnF (pt.run _ s8 σ8 H8 _ I8 q8) fun b s9 ⟨H9, I9, q9⟩ => ?_
      have last : ∀ {s' : Shared} {H' : Hp}, Inv (X.blk s3 H3 scope ce fp) ([] ++ pinsAt fp s7.heap) σ8 H' s' → Nx H' → ∃ m, m < n ∧ ∃ i H', Inv (X.blk s3 H3 scope ce fp) [] (wipe σ (own.map (·.2))) H' s' ∧ tn i s'.heap ∧ (∀ b ∈ fp, H' b = none) ∧ W i m H' := fun {s' H'} I' nx => by
        obtain ⟨m', hm, w'⟩ := hNx H' nx
        have pinned : ∀ b ∈ fp, ∀ o, s7.heap.get? b = some o → s'.heap.get? b = some o ∧ H' b = none := fun b hb o e =>
          let z := I'.pin (b, o) (List.mem_append_right _ (List.mem_append_right _ (mem_pinsAt hb e)))
          ⟨z.1, z.2.1⟩
        refine ⟨m', hm, i + 1, H', (I'.unpinned (pins := [])).weak (by rw [← hw8, wipe_length]) (fun j v e => ?_), T.keep _ _ _ at7 fun b hb o e => (pinned b hb o e).1, fun b hb => ?_, w'⟩
        · rw [← hw8] at e
          exact (wipe_some e).1
        · obtain ⟨o, e, _⟩ := T.obj _ _ at7 b hb
          exact (pinned b hb o e).2
      cases b with
      | false =>
        simp only [Bool.false_eq_true, if_false] at q9 ⊢
        exact last I9 q9
      | true =>
        simp only [if_true] at q9 ⊢
        refine thnF (pk.run _ s9 σ8 H9 _ I9 q9) fun z s10 ⟨yk, H10, I10, r10, q10⟩ => ?_
        refine thnF (pv'.run _ s10 σ8 H10 _ I10 q10) fun z2 s11 ⟨yv, H11, I11, r11, kvs, k, c, ek, hc11, hD11, hz11, nx⟩ => ?_
        subst ek
        cases (show z = Value.ref c from r10)
        exact d_dictSetT (X := X.blk s3 H3 scope ce fp) hu I11 hD11 hc11 hz11 r11 fun s12 I12 => last I12 nx
end
end MF
end
section
set_option Elab.async false
set_option linter.all false
set_option maxRecDepth 100000
set_option maxHeartbeats 4000000
namespace MF
open PySem PySem.Spec PyProof.Rows L2
/-! x == y, x != y by an own __eq__ -/
section
variable {M : Model} {prog : Program} {w : World} {A : Around} {E : Value → Shared → Prop} {s : Shared} {K : PySem.W.Frag} {x y C f : Addr} {ox : Obj} {od : Option Obj}
theorem ifBound_ne {args : List Value} {Q : Option Value → Shared → Prop} (X : K.In s.heap) (I : PySem.W.InstAt s.heap x ox C od) (hs : PySem.W.findIn K (.ref C) "__ne__" = some (some (.builtin "object.__ne__")))
    (h : wpAny M A (call (.builtin "object.__ne__") (.ref x :: args)) (fun v => Q (some v)) E s) : wpAny M A (callSpecialIfBound? (.ref x) "__ne__" args) Q E s := by
  simp only [callSpecialIfBound?, bindSpecialIfBound?]
  refine wpAny_holding (wpAny_bind (wpAny_bind (wpAny_bind (I.type.here ((PySem.W.looks_findIn X hs).here ?_)))))
  refine wpAny_bind (wpAny_askSetting (wpAny_ite ?_))
  have go : wpAny M A (call (.builtin "object.__ne__") ([.ref x] ++ args) >>= fun v => pure (some v)) Q E s := wpAny_bind (wpAny_mono h (fun v s' h' => wpAny_pure h') fun _ _ h' => h')
  split
  · exact wpAny_bind (wpAny_of_eq (F.cmp_object.ne.bind _) (wpAny_pure (by exact go)))
  · exact wpAny_tryCatch (wpAny_bind (wpAny_of_eq (F.cmp_object.ne.bind _) (wpAny_pure (by exact go))))
/-- object.__ne__: the contrary of __eq__ -/
theorem entry_ne {Q : PySem.Fin → Shared → Prop} (hu : A.units < cLine) (X : K.In s.heap) (I : PySem.W.InstAt s.heap x ox C od) (hs : PySem.W.findIn K (.ref C) "__eq__" = some (some (.ref f))) (hf : PySem.W.isFn K (.ref f) = true)
    (h : wpAny M A (call (.ref f) [.ref x, .ref y]) (fun v s' => ∃ k, v = .bool k ∧ Q (.done (.ret (.bool (!k)))) s') E s) : wpAny M A (Builtin.«object.__ne__» ⟨[.ref x, .ref y], []⟩) Q E s := by
  unfold Builtin.«object.__ne__»
  have one : wpAny M A (callSpecialIfBound? (.ref x) "__eq__" [.ref y]) (fun r s' => ∃ k, r = some (.bool k) ∧ Q (.done (.ret (.bool (!k)))) s') E s :=
    PySem.W.ifBound_K X I hs hf (wpAny_mono h (fun v s' ⟨k, e, q⟩ => ⟨k, by rw [e], q⟩) fun _ _ e => e)
  repeat (first | with_reducible refine wpAny_cRoomFor hu ?_ | with_reducible refine wpAny_mono one (fun r s' z => ?_) (fun _ _ e => e) | wp_step)
  obtain ⟨k, rfl, q⟩ := z
  exact wpAny_bind (wpAny_truthy_bool (wpAny_pure q))
theorem call_ne {Q : Value → Shared → Prop} (hu : A.in1.units < cLine) (X : K.In s.heap) (I : PySem.W.InstAt s.heap x ox C od) (hm : PySem.W.mroIn K C (.type "object") = some true) (hs : PySem.W.findIn K (.ref C) "__eq__" = some (some (.ref f))) (hf : PySem.W.isFn K (.ref f) = true)
    (h : wpAny (model prog w) A.in1 (call (.ref f) [.ref x, .ref y]) (fun v s' => ∃ k, v = .bool k ∧ Q (.bool (!k)) s') E s) : wpAny (model prog w) A (call (.builtin "object.__ne__") [.ref x, .ref y]) Q E s :=
  wpAny_call (codeAny_call_builtin F.cmp_object.ne.plain F.cmpEntry_ne (PySem.W.check_slot F.cmpKind_ne F.cmpSplit_ne (I.type.andThen (PySem.W.looks_mroIn X hm)) (F.cmpArgs_ne _ _) (entry_ne hu X I hs hf h)))
theorem rc_ne {tb : Value} {Q : Value → Shared → Prop} (hu : A.units + 1 < cLine) (X : K.In s.heap) (I : PySem.W.InstAt s.heap x ox C od) (hb : PySem.W.Looks (model prog w) s.heap (typeOf (.ref y)) tb) (hn : PySem.W.notFirst K C tb = true) (hm : PySem.W.mroIn K C (.type "object") = some true)
    (hne : PySem.W.findIn K (.ref C) "__ne__" = some (some (.builtin "object.__ne__"))) (hs : PySem.W.findIn K (.ref C) "__eq__" = some (some (.ref f))) (hf : PySem.W.isFn K (.ref f) = true)
    (h : wpAny (model prog w) A.in1 (call (.ref f) [.ref x, .ref y]) (fun v s' => ∃ k, v = .bool k ∧ Q (.bool (!k)) s') E s) : wpAny (model prog w) A (richCompare .NotEq (.ref x) (.ref y)) Q E s := by
  have one : wpAny (model prog w) A (tryCompare (.ref x) "__ne__" (.ref y)) (fun r s' => ∃ v, r = some v ∧ Q v s') E s := by
    unfold tryCompare
    refine wpAny_bind (ifBound_ne X I hne (call_ne (by show A.units + 1 < cLine; exact hu) X I hm hs hf (wpAny_mono h (fun v s' ⟨k, e, q⟩ => ⟨k, e, ?_⟩) fun _ _ e => e)))
    exact wpAny_pure ⟨_, rfl, q⟩
  simp only [richCompare, cmpInfo_NotEq, oneThing_ref]
  refine wpAny_holding (wpAny_bind (wpAny_cRoomFor (Nat.lt_of_succ_lt hu) ?_))
  refine wpAny_bind (I.type.here (wpAny_bind (hb.here ?_)))
  split
  · rename_i q
    have e : PySem.W.subIn K tb (.ref C) = some false := by
      rcases Bool.or_eq_true_iff.mp hn with e | e
      · rw [beq_iff_eq.mp e] at q; simp at q
      · exact beq_iff_eq.mp e
    refine wpAny_bind ((PySem.W.looks_subIn X e).here ?_)
    simp only [Bool.false_eq_true, if_false]
    refine wpAny_bind (wpAny_mono one (fun r s' z => ?_) fun _ _ e => e)
    obtain ⟨v, rfl, hq⟩ := z
    exact wpAny_pure hq
  · refine wpAny_bind (wpAny_pure ?_)
    simp only [Bool.false_eq_true, if_false]
    refine wpAny_bind (wpAny_mono one (fun r s' z => ?_) fun _ _ e => e)
    obtain ⟨v, rfl, hq⟩ := z
    exact wpAny_pure hq
end
section
variable {X : Cx} {pins : List (Addr × Obj)} {σ : L2.St} {H : Hp} {s : Shared} {C g : Addr} {n : Nat} {sp : Sp}
def EqK (C : Addr) (sp : Sp) (neg : Bool) : R2 := fun x y H Q => ∃ a dx fs b dy gs, x = .ref a ∧ y = .ref b ∧ H a = some (.ins C dx fs) ∧ H b = some (.ins C dy gs) ∧ sp [x, y] H (fun z H' => ∃ k : Bool, z = .bl k ∧ Q (.bl (k ^^ neg)) H') E0
theorem run_in1 {A : Around} {Q : VK} {us : List Value} {ws : List V} (G : FnR X.prog X.w X.K X.mg X.base CX0 n g sp) (hr : Room n A) (e0 : Env0 X.prog X.w X.K X.mg X.base A X.stack s H) (I : Inv X pins σ H s) (r : Vals ws us) (h : sp ws H Q E0) {E' : Value → Shared → Prop} :
    wpAny (model X.prog X.w) A (call (.ref g) us) (EP X pins σ Q) E' s := by
  refine wpAny_call (codeAny_mono (G A X.stack s H us ws Q E0 hr e0 r h) fun r s' hq => ?_)
  cases r with
  | error e => exact (show False from hq).elim
  | ok fl =>
    cases fl with
    | ret u => exact I.after hq
    | next => exact False.elim hq
    | brk => exact False.elim hq
    | cont => exact False.elim hq
theorem op_ownEq (hs : PySem.W.findIn X.K (.ref C) "__eq__" = some (some (.ref g))) (hf : PySem.W.isFn X.K (.ref g) = true) (G : FnR X.prog X.w X.K X.mg X.base CX0 n g sp) (hr : Room n X.A) : OpR X (compareOp .Eq) (EqK C sp false) := by
  rintro pins s σ H x y v u Q I rx ry ⟨a, dx, fs, b, dy, gs, rfl, rfl, ha, hb, q⟩
  cases (show v = Value.ref a from rx)
  cases (show u = Value.ref b from ry)
  obtain ⟨mA, O, _⟩ := ins_get I.hok ha
  obtain ⟨od, J, _⟩ := O.look
  obtain ⟨mB, O', _⟩ := ins_get I.hok hb
  obtain ⟨od', J', _⟩ := O'.look
  obtain ⟨m, hF⟩ := I.fr
  refine PySem.W.cmp_K (op := .Eq) (tb := .ref C) (Nat.lt_of_succ_lt (hu_of hr)) hF I.ok.mod.kin J J'.type (by simp [PySem.W.notFirst]) hs hf ?_
  refine wpAny_mono (run_in1 (us := [.ref a, .ref b]) (ws := [.ref a, .ref b]) G hr I.env0 I (.cons rfl (.cons rfl .nil)) q) (fun w s' z => ?_) fun _ _ e => e
  obtain ⟨z', H', I', rz, k, rfl, qz⟩ := z
  rw [Bool.xor_false] at qz
  cases (show w = Value.bool k from rz)
  exact ⟨.bl k, H', I', rfl, qz⟩
theorem op_ownNe (hne : PySem.W.findIn X.K (.ref C) "__ne__" = some (some (.builtin "object.__ne__"))) (hm : PySem.W.mroIn X.K C (.type "object") = some true) (hs : PySem.W.findIn X.K (.ref C) "__eq__" = some (some (.ref g))) (hf : PySem.W.isFn X.K (.ref g) = true) (G : FnR X.prog X.w X.K X.mg X.base CX0 n g sp) (hr : Room (n + 1) X.A) :
    OpR X (compareOp .NotEq) (EqK C sp true) := by
  rintro pins s σ H x y v u Q I rx ry ⟨a, dx, fs, b, dy, gs, rfl, rfl, ha, hb, q⟩
  cases (show v = Value.ref a from rx)
  cases (show u = Value.ref b from ry)
  obtain ⟨mA, O, _⟩ := ins_get I.hok ha
  obtain ⟨od, J, _⟩ := O.look
  obtain ⟨mB, O', _⟩ := ins_get I.hok hb
  obtain ⟨od', J', _⟩ := O'.look
  refine rc_ne (tb := .ref C) (hu_of hr) I.kIn J J'.type (by simp [PySem.W.notFirst]) hm hne hs hf ?_
  refine wpAny_mono (run_in1 (us := [.ref a, .ref b]) (ws := [.ref a, .ref b]) G hr.in1 I.env0.in1 I (.cons rfl (.cons rfl .nil)) q) (fun w s' z => ?_) fun _ _ e => e
  obtain ⟨z', H', I', rz, k, rfl, qz⟩ := z
  rw [Bool.xor_true] at qz
  exact ⟨k, rz, .bl (!k), H', I', rfl, qz⟩
/-- str(x) by an own __str__ -/
theorem call_strOwn (hs : PySem.W.findIn X.K (.ref C) "__str__" = some (some (.ref g))) (hf : PySem.W.isFn X.K (.ref g) = true) (G : FnR X.prog X.w X.K X.mg X.base CX0 n g sp) (hr : Room (n + 2) X.A) :
    CallR X (.type "str") (fun xs H Q => ∃ a dx fs, xs = [.ref a] ∧ H a = some (.ins C dx fs) ∧ sp [.ref a] H (fun z H' => ∃ t, z = .str t ∧ Q (.str t) H') E0) := by
  rintro pins s σ H xs us Q I r ⟨a, dx, fs, rfl, ha, q⟩
  rw [Vals.ref1 r]
  obtain ⟨mA, O, _⟩ := ins_get I.hok ha
  obtain ⟨od, J, _⟩ := O.look
  have hr2 : Room n X.A.in1.in1 := (show Room (n + 1) X.A.in1 from Room.in1 hr).in1
  refine PySem.W.kso_call (Nat.lt_of_succ_lt (hu_of hr2)) I.kIn J hs hf ?_
  refine wpAny_mono (run_in1 (us := [.ref a]) (ws := [.ref a]) G hr2 I.env0.in1.in1 I (.cons rfl .nil) q) (fun w s' z => ?_) fun _ _ e => e
  obtain ⟨z', H', I', rz, t, rfl, qz⟩ := z
  obtain ⟨tk, rfl⟩ := rz
  exact ⟨.str t, H', I', ⟨tk, rfl⟩, qz⟩
/-- C.m(..), m a staticmethod of the class at C -/
structure SMet (K : PySem.W.Frag) (C : Addr) (m : Str) (g : Addr) : Prop where
  ex : ∃ (mc : Value) (p : Addr) (rest : List Value), PySem.W.readsIn K C mc = true ∧ PySem.W.findCls K (.ref C) mc m = some (.get (.builtin "staticmethod.__get__") (.ref p) .none (.ref C)) ∧ PySem.W.recIn K p "staticmethod" = some (.ref g :: rest)
  ga : PySem.W.specialIn K (.ref C) "__getattribute__" = some (some (.builtin "type.__getattribute__"))
  kp : PySem.W.keepIn K (.ref g) = true
def tSMeth (C : Addr) (sp : Sp) (ta : TE) (t : TA) : TE := fun σ H Q => ta σ H fun x H1 => x = .ref C ∧ t σ H1 fun vs H2 => sp vs H2 Q E0
theorem pe_smeth {o e : Expr} {es : List Expr} {m : Str} {pos apos : Pos} {ta : TE} {t : TA} {pl : Sem Bool} (he : PE X o ta) (S : SMet X.K C m g) (G : FnR X.prog X.w X.K X.mg X.base CX0 n g sp) (hr : Room n X.A) (ha : PA X (e :: es) t)
    (hst : starEach (e :: es) X.env = (false, eval e X.env) :: starEach es X.env := by rfl) (hpl : (backTo pos (starEach es X.env)).any (·.1) = false := by rfl)
    (ht : eval (.Call (.Attribute o m apos) (e :: es) [] pos) X.env = (do
      let ov ← eval o X.env
      standAt apos.atName
      let (f, first) ← holding [ov] (getMethod ov m pl)
      callWith pos f first (backTo pos (starEach (e :: es) X.env)) (backToKw pos (keywordEach [] X.env))) := by rfl) :
    PE X (.Call (.Attribute o m apos) (e :: es) [] pos) (tSMeth C sp ta t) := by
  obtain ⟨mc, p, rest, rd, at_, rc⟩ := S.ex
  refine ⟨fun pins s σ H Q I h => PySem.W.methodCall_KW (pl := pl) (thn (he.run pins s σ H _ I h) fun u s1 ⟨x, H1, I1, rx, ex, q⟩ => ?_) ht⟩
  subst ex
  obtain rfl : u = Value.ref C := rx
  refine PySem.W.method_cls I1.kIn S.ga (PySem.W.cls_bind I1.kIn rd at_ (wpAny_call (PySem.W.sm_get (s := { s1 with toks := s1.toks + 1 }) I1.kIn rc (PySem.W.handed_on rfl ?_))))
  have I2 : Inv X pins σ H1 { s1 with toks := s1.toks + 1 } := I1.tok _
  refine PySem.W.callWith_K (h₀ := X.base) I2.ok.mod.kin S.kp (thn (ha.run pos pins _ σ H1 _ I2 q) fun us s3 ⟨vs, H2, I3, r, q2⟩ => ⟨I3.kIn, ?_⟩) hst hpl
  exact run_in1 (E' := X.xe) G hr I3.env0 I3 r q2
end
end MF
end
section
set_option Elab.async false
set_option linter.all false
set_option maxRecDepth 100000
set_option maxHeartbeats 4000000
namespace MF
open PySem PySem.Spec PyProof.Rows L2
/-- a def of the top, where it stands -/
structure DefA (K : PySem.W.Frag) (mg : Str → Option Value) (x : Str) (st : Stmt) (ps : List Str) (dvs : List V) where
  f : Addr
  fd : FuncData
  F : FunD K x x (defArgs st) (defBody st) (defScope st) dvs [] f fd
  g : mg x = some (.ref f)
  b : Binds K fd ps []
/-- a def of a class's body -/
structure MetA (K : PySem.W.Frag) (C : Addr) (m qual : Str) (st : Stmt) (ps : List Str) (dvs : List V) where
  f : Addr
  fd : FuncData
  F : FunD K m qual (defArgs st) (defBody st) (defScope st) dvs [] f fd
  b : Binds K fd ps []
/-- what the top has left -/
structure Tx (K : PySem.W.Frag) (mg : Str → Option Value) where
  isinstance_ : mg "isinstance" = none
  int_ : mg "int" = none
  bool_ : mg "bool" = none
  len_ : mg "len" = none
  all_ : mg "all" = none
  str_ : mg "str" = none
  min_ : mg "min" = none
  max_ : mg "max" = none
  tuple_ : mg "tuple" = none
  sorted_ : mg "sorted" = none
  range_ : mg "range" = none
  list_ : mg "list" = none
  set_ : mg "set" = none
  abs_ : mg "abs" = none
  sum_ : mg "sum" = none
  enumerate_ : mg "enumerate" = none
  zip_ : mg "zip" = none
  MOST_FIGURES : ∃ t, mg "MOST_FIGURES" = some (.int 2000 t)
  MOST_DOT : ∃ t, mg "MOST_DOT" = some (.int 59 t)
  MOST_LANDS : ∃ t, mg "MOST_LANDS" = some (.int 120 t)
  BAR : ∃ t, mg "BAR" = some (.str "/" t)
  FIGURES : ∃ t, mg "FIGURES" = some (.str "0123456789" t)
  isInteger : DefA K mg "is_integer" sIsInteger ["value"] []
  isWithin : DefA K mg "is_within" sIsWithin ["value", "least", "most"] []
  needNumber : DefA K mg "need_number" sNeedNumber ["value", "part", "least", "most"] []
  written : DefA K mg "written" sWritten ["item"] []
  fromLeast : DefA K mg "from_least" sFromLeast ["land"] []
  waysIn : DefA K mg "ways_in" sWaysIn ["lands"] []
  tiesIn : DefA K mg "ties_in" sTiesIn ["ways"] []
  firstOf : DefA K mg "first_of" sFirstOf ["ways", "dot", "tied"] []
  roundFrom : DefA K mg "round_from" sRoundFrom ["ways", "dot", "first"] []
  tiedFrom : DefA K mg "tied_from" sTiedFrom ["ways"] []
  hangRound : DefA K mg "hang_round" sHangRound ["ways", "tied"] []
  hangTogether : DefA K mg "hang_together" sHangTogether ["ways"] []
  isMap : DefA K mg "is_map" sIsMap ["lands"] []
  frameIn : DefA K mg "frame_in" sFrameIn ["ways"] []
  takenLand : DefA K mg "taken_land" sTakenLand ["scan", "before"] []
  takenLands : DefA K mg "taken_lands" sTakenLands ["scan"] []
  isThree : DefA K mg "is_three" sIsThree ["value"] []
  needLands : DefA K mg "need_lands" sNeedLands ["value"] []
  needMap : DefA K mg "need_map" sNeedMap ["value", "part"] [.str "chart"]
  needMapD : ∃ ds, Vals [.str "chart"] ds ∧ Binds K needMap.fd ["value", "part"] ds
  needDot : DefA K mg "need_dot" sNeedDot ["value", "part"] [.str "dot"]
  needDotD : ∃ ds, Vals [.str "dot"] ds ∧ Binds K needDot.fd ["value", "part"] ds
  landTold : DefA K mg "land_told" sLandTold ["chart", "value"] []
  needLand : DefA K mg "need_land" sNeedLand ["chart", "value", "part"] [.str "land"]
  needLandD : ∃ ds, Vals [.str "land"] ds ∧ Binds K needLand.fd ["chart", "value", "part"] ds
  roundIn : DefA K mg "round_in" sRoundIn ["chart", "dot"] []
  roundOf : DefA K mg "round_of" sRoundOf ["chart", "dot"] []
  tiesOf : DefA K mg "ties_of" sTiesOf ["chart"] []
  landAt : DefA K mg "land_at" sLandAt ["chart", "one", "other"] []
  without : DefA K mg "without" sWithout ["lands", "gone"] []
  splitAt : DefA K mg "split_at" sSplitAt ["chart", "land"] []
  exchanged : DefA K mg "exchanged" sExchanged ["chart", "one", "other"] []
  garden : DefA K mg "_law_garden" sGarden ["_law_script"] []
  spade : DefA K mg "_law_spade" sSpade ["_law_garden_here", "_law_many"] []
  pick : DefA K mg "_law_pick" sPick ["_law_garden_here", "_law_some"] []
  third : DefA K mg "_law_third" sThird ["_law_lands_here", "_law_one", "_law_other"] []
  split : DefA K mg "_law_split" sSplit ["_law_lands_here", "_law_land", "_law_new"] []
  otherTie : DefA K mg "_law_other_tie" sOtherTie ["_law_lands_here", "_law_one", "_law_other"] []
  lands : DefA K mg "_law_lands" sLands ["_law_garden_here", "_law_many"] []
  frame : DefA K mg "_law_frame" sFrame ["_law_lands_here"] []
  counts : DefA K mg "_law_counts_right" sCounts ["_law_chart", "_law_corners", "_law_inner"] []
  law : DefA K mg "law" sLaw ["_law_script"] []
  CScan : Addr
  gScan : mg "Scan" = some (.ref CScan)
  clScan : Cls K CScan
  CMap : Addr
  gMap : mg "Map" = some (.ref CMap)
  clMap : Cls K CMap
  scanInit : MetA K CScan "__init__" "Scan.__init__" sScanInit ["self", "text"] []
  ahead : MetA K CScan "ahead" "Scan.ahead" sAhead ["self"] []
  take : MetA K CScan "take" "Scan.take" sTake ["self"] []
  takeNumber : MetA K CScan "take_number" "Scan.take_number" sTakeNumber ["self", "least", "most"] [.non, .non]
  finish : MetA K CScan "finish" "Scan.finish" sFinish ["self"] []
  mapInit : MetA K CMap "__init__" "Map.__init__" sMapInit ["self", "lands"] []
  mapEq : MetA K CMap "__eq__" "Map.__eq__" sMapEq ["self", "other"] []
  mapStr : MetA K CMap "__str__" "Map.__str__" sMapStr ["self"] []
  mapRead : MetA K CMap "read" "Map.read" sMapRead ["text"] []
  mkScan : Mk K CScan scanInit.f
  mkMap : Mk K CMap mapInit.f
  m_ahead : Meth K CScan "ahead" ahead.f
  m_take : Meth K CScan "take" take.f
  m_takeNumber : Meth K CScan "take_number" takeNumber.f
  m_finish : Meth K CScan "finish" finish.f
  na_words : NoAttr K CScan "words"
  na_at : NoAttr K CScan "at"
  na_lands : NoAttr K CMap "lands"
  na_ways : NoAttr K CMap "ways"
  na_frame : NoAttr K CMap "frame"
  na_dots : NoAttr K CMap "dots"
  na_inner : NoAttr K CMap "inner"
  na_rounds : NoAttr K CMap "rounds"
  eqF : PySem.W.findIn K (.ref CMap) "__eq__" = some (some (.ref mapEq.f))
  eqI : PySem.W.isFn K (.ref mapEq.f) = true
  neF : PySem.W.findIn K (.ref CMap) "__ne__" = some (some (.builtin "object.__ne__"))
  obF : PySem.W.mroIn K CMap (.type "object") = some true
  strF : PySem.W.findIn K (.ref CMap) "__str__" = some (some (.ref mapStr.f))
  strI : PySem.W.isFn K (.ref mapStr.f) = true
  readS : SMet K CMap "read" mapRead.f
  isiMap : C8.InsC K CMap
section
variable {P : Program} {w : World} {K : PySem.W.Frag} {mg : Str → Option Value} {base : Heap}
/-- THE RULE: no exception leaves the def -/
theorem okN {x qual : Str} {params : Arguments} {body : List Stmt} {scope : Scope} {dvs : List V} {f : Addr} {fd : FuncData} {N ps : List Str} {k : Nat} {sp : Sp} (F : FunD K x qual params body scope dvs [] f fd) (S : FnScope N ps scope) (len : ∀ vs H Q E, sp vs H Q E → vs.length = ps.length)
    (hb : ∀ (cdv : Value) (A : Around) (outer : List Env) (s : Shared) (H : Hp) (vs : List V) (Q : VK) (E : XK), Room k (A.deeper (envOfC qual scope s.heap.objs.size f cdv)) → sp vs H Q E →
      ∃ t, PSs (cxOf CX0 P w K mg base N qual scope f cdv A outer s H E).nox body t ∧ t { nx := fun _ H' => Q .non H', rt := Q } (start N vs) H) : FnOk P w K mg base CX0 (k + 1) f fd ps sp :=
  F.ok S len fun cdv A outer s H vs Q E hr h => let ⟨t, ht, q⟩ := hb cdv A outer s H vs Q E hr h; ⟨t, ht.nox, q⟩
end
section
variable {X : Cx}
/-- a call of a def of the top, all parameters written -/
theorem pcall {x : Str} {st : Stmt} {ps : List Str} {dvs : List V} {k : Nat} {sp : Sp} {e : Expr} {es : List Expr} {p pos : Pos} {t : TA} (D : DefA X.K X.mg x st ps dvs) (O : FnOk X.prog X.w X.K X.mg X.base CX0 k D.f D.fd ps sp) (hr : Room k X.A) (ha : PA X (e :: es) t) (hg : Gl X x := by rfl)
    (hdb : (x == ("__debug__" : Str)) = false := by decide) (he : starEach (e :: es) X.env = (false, eval e X.env) :: starEach es X.env := by rfl) (hpl : (backTo pos (starEach es X.env)).any (·.1) = false := by rfl) : PE X (.Call (.Name x p) (e :: es) [] pos) (tCall sp [] E0 t) :=
  pe_call O hr hg D.g D.F.kp D.b .nil pass0 ha hdb he hpl
end
end MF
end
section
set_option Elab.async false
set_option linter.all false
set_option maxRecDepth 100000
set_option maxHeartbeats 4000000
namespace MF
open PySem PySem.Spec PyProof.Rows L2
section
variable {X : Cx}
/-- isinstance(int, int), isinstance(int, bool) -/
theorem call_isiInt : CallR X (.builtin "isinstance") (fun vs H Q => ∃ i : Int, vs = [.int i, .ty "int"] ∧ Q (.bl true) H) := fun pins s σ H vs us Q I r h => by
  obtain ⟨i, rfl, q⟩ := h
  exact call_isi pins s σ H _ us Q I r ⟨.int i, .ty "int", .type "int", .type "int", true, rfl, .ty _, .base (.int i), kit_ty (by decide +kernel), q⟩
theorem call_isiBool : CallR X (.builtin "isinstance") (fun vs H Q => ∃ i : Int, vs = [.int i, .ty "bool"] ∧ Q (.bl false) H) := fun pins s σ H vs us Q I r h => by
  obtain ⟨i, rfl, q⟩ := h
  exact call_isi pins s σ H _ us Q I r ⟨.int i, .ty "bool", .type "int", .type "bool", false, rfl, .ty _, .base (.int i), kit_ty (by decide +kernel), q⟩
theorem call_isiStr : CallR X (.builtin "isinstance") (fun vs H Q => ∃ z : Str, vs = [.str z, .ty "str"] ∧ Q (.bl true) H) := fun pins s σ H vs us Q I r h => by
  obtain ⟨z, rfl, q⟩ := h
  exact call_isi pins s σ H _ us Q I r ⟨.str z, .ty "str", .type "str", .type "str", true, rfl, .ty _, .base (.str z), kit_ty (by decide +kernel), q⟩
/-- isinstance(x, (list, tuple)) of a list or a tuple -/
theorem call_isiSeq : CallR X (.builtin "isinstance") (fun vs H Q => ∃ (p t : Addr), vs = [.ref p, .ref t] ∧ H t = some (.tup [.ty "list", .ty "tuple"]) ∧ ((∃ xs, H p = some (.lst xs)) ∨ ∃ xs, H p = some (.tup xs)) ∧ Q (.bl true) H) := fun pins s σ H vs us Q I r h => by
  obtain ⟨p, t, rfl, ht, hp, q⟩ := h
  rcases hp with ⟨xs, hp⟩ | ⟨xs, hp⟩
  · exact call_isiT pins s σ H _ us Q I r ⟨.ref p, t, _, .type "list", [.type "list", .type "tuple"], true, rfl, ht, .cons (.ty _) (.cons (.ty _) .nil), .base (.lst hp), by rfl, q⟩
  · exact call_isiT pins s σ H _ us Q I r ⟨.ref p, t, _, .type "tuple", [.type "list", .type "tuple"], true, rfl, ht, .cons (.ty _) (.cons (.ty _) .nil), .base (.tup hp), by rfl, q⟩
end
section
variable {P : Program} {w : World} {K : PySem.W.Frag} {mg : Str → Option Value} {base : Heap}
/-! checks -/
theorem scIsInteger : FnScope ["value"] ["value"] (defScope sIsInteger) := ⟨rfl, rfl, rfl, by decide +kernel, rfl, by decide +kernel, by decide +kernel⟩
def spIsInteger : Sp := fun vs H Q _ => ∃ i : Int, vs = [.int i] ∧ Q (.bl true) H
theorem ok_isInteger (T : Tx K mg) : FnOk P w K mg base CX0 1 T.isInteger.f T.isInteger.fd ["value"] spIsInteger := by
  refine okN T.isInteger.F scIsInteger (fun vs H Q E h => ?_) (fun cdv A outer s H vs Q E hr h => ?_)
  · obtain ⟨i, rfl, _⟩ := h
    rfl
  · obtain ⟨i, rfl, q⟩ := h
    refine ⟨_, pss_one (ps_ret (pe_and (pe_callB call_isiInt (by rfl) T.isinstance_ (by decide +kernel) (pa_cons (pv 0) (pa_cons (pe_bltn (v := .ty "int") (by rfl) T.int_ (by decide +kernel) rfl) pa_nil))) (pe_one (pe_not (pe_callB call_isiBool (by rfl) T.isinstance_ (by decide +kernel) (pa_cons (pv 0) (pa_cons (pe_bltn (v := .ty "bool") (by rfl) T.bool_ (by decide +kernel) rfl) pa_nil))))))), ?_⟩
    exact ⟨_, rfl, i, rfl, true, rfl, iteT ⟨_, rfl, i, rfl, false, rfl, q⟩⟩
theorem scIsWithin : FnScope ["value", "least", "most"] ["value", "least", "most"] (defScope sIsWithin) := ⟨rfl, rfl, rfl, by decide +kernel, rfl, by decide +kernel, by decide +kernel⟩
def spIsWithin : Sp := fun vs H Q _ => ∃ i lo hi : Int, vs = [.int i, .int lo, .int hi] ∧ Q (.bl (decide (lo ≤ i ∧ i ≤ hi))) H
theorem ok_isWithin (T : Tx K mg) : FnOk P w K mg base CX0 2 T.isWithin.f T.isWithin.fd ["value", "least", "most"] spIsWithin := by
  refine okN T.isWithin.F scIsWithin (fun vs H Q E h => ?_) (fun cdv A outer s H vs Q E hr h => ?_)
  · obtain ⟨i, lo, hi, rfl, _⟩ := h
    rfl
  · obtain ⟨i, lo, hi, rfl, q⟩ := h
    refine ⟨_, pss_cons (ps_if (pt_not (pt_val (pcall T.isInteger (ok_isInteger T) hr (pa_cons (pv 0) pa_nil)))) pss_never pss_nil)
      (pss_one (ps_ret (pe_and (pe_or (pe_cmpR op_isN (pv 1) pe_non (nomark _)) (pe_one (pe_cmpR op_le (pv 1) (pv 0) (nomark _)))) (pe_one (pe_or (pe_cmpR op_isN (pv 2) pe_non (nomark _)) (pe_one (pe_cmpR op_le (pv 0) (pv 2) (nomark _)))))))), ?_⟩
    refine ⟨_, rfl, i, rfl, true, rfl, iteF ?_⟩
    refine ⟨_, rfl, rfl, false, rfl, iteF ⟨_, rfl, _, rfl, lo, i, rfl, rfl, decide (lo ≤ i), rfl, ?_⟩⟩
    by_cases h1 : lo ≤ i
    · rw [if_pos (decide_eq_true h1)]
      refine ⟨_, rfl, rfl, false, rfl, iteF ⟨_, rfl, _, rfl, i, hi, rfl, rfl, ?_⟩⟩
      show Q (.bl (decide (i ≤ hi))) H
      rw [show decide (i ≤ hi) = decide (lo ≤ i ∧ i ≤ hi) by simp [h1]]
      exact q
    · rw [if_neg (by simp [h1])]
      rw [show decide (lo ≤ i ∧ i ≤ hi) = false by simp [h1]] at q
      exact q
theorem scNeedNumber : FnScope ["value", "part", "least", "most"] ["value", "part", "least", "most"] (defScope sNeedNumber) := ⟨rfl, rfl, rfl, by decide +kernel, rfl, by decide +kernel, by decide +kernel⟩
def spNeedNumber : Sp := fun vs H Q _ => ∃ (i lo hi : Int) (p : V), vs = [.int i, p, .int lo, .int hi] ∧ lo ≤ i ∧ i ≤ hi ∧ Q .non H
theorem ok_needNumber (T : Tx K mg) : FnOk P w K mg base CX0 3 T.needNumber.f T.needNumber.fd ["value", "part", "least", "most"] spNeedNumber := by
  refine okN T.needNumber.F scNeedNumber (fun vs H Q E h => ?_) (fun cdv A outer s H vs Q E hr h => ?_)
  · obtain ⟨i, lo, hi, p, rfl, _⟩ := h
    rfl
  · obtain ⟨i, lo, hi, p, rfl, h1, h2, q⟩ := h
    refine ⟨_, pss_one (ps_if (pt_not (pt_val (pcall T.isWithin (ok_isWithin T) hr (pa_cons (pv 0) (pa_cons (pv 2) (pa_cons (pv 3) pa_nil)))))) pss_never pss_nil), ?_⟩
    exact ⟨_, rfl, _, rfl, _, rfl, i, lo, hi, rfl, _, rfl, by rw [decide_eq_true ⟨h1, h2⟩]; exact iteF q⟩
theorem scNeedDot : FnScope ["value", "part"] ["value", "part"] (defScope sNeedDot) := ⟨rfl, rfl, rfl, by decide +kernel, rfl, by decide +kernel, by decide +kernel⟩
def spNeedDot : Sp := fun vs H Q _ => ∃ (i : Int) (p : V), vs = [.int i, p] ∧ 0 ≤ i ∧ i ≤ 59 ∧ Q .non H
theorem ok_needDot (T : Tx K mg) : FnOk P w K mg base CX0 4 T.needDot.f T.needDot.fd ["value", "part"] spNeedDot := by
  refine okN T.needDot.F scNeedDot (fun vs H Q E h => ?_) (fun cdv A outer s H vs Q E hr h => ?_)
  · obtain ⟨i, p, rfl, _⟩ := h
    rfl
  · obtain ⟨i, p, rfl, h1, h2, q⟩ := h
    obtain ⟨tk, hD⟩ := T.MOST_DOT
    refine ⟨_, pss_one (ps_expr (pcall T.needNumber (ok_needNumber T) hr (pa_cons (pv 0) (pa_cons (pv 1) (pa_cons pe_int (pa_cons (pe_glob (v := .int 59) (by rfl) hD ⟨_, rfl⟩) pa_nil)))))), ?_⟩
    exact ⟨_, rfl, _, rfl, i, 0, 59, p, rfl, h1, h2, q⟩
theorem scNeedMap : FnScope ["value", "part"] ["value", "part"] (defScope sNeedMap) := ⟨rfl, rfl, rfl, by decide +kernel, rfl, by decide +kernel, by decide +kernel⟩
def spNeedMap (C : Addr) : Sp := fun vs H Q _ => ∃ (m dx : Addr) (fs : List (Str × V)) (p : V), vs = [.ref m, p] ∧ H m = some (.ins C dx fs) ∧ Q .non H
theorem ok_needMap (T : Tx K mg) : FnOk P w K mg base CX0 1 T.needMap.f T.needMap.fd ["value", "part"] (spNeedMap T.CMap) := by
  refine okN T.needMap.F scNeedMap (fun vs H Q E h => ?_) (fun cdv A outer s H vs Q E hr h => ?_)
  · obtain ⟨m, dx, fs, p, rfl, _⟩ := h
    rfl
  · obtain ⟨m, dx, fs, p, rfl, hm, q⟩ := h
    refine ⟨_, pss_one (ps_if (pt_not (pt_val (pe_callB (C8.call_isC T.isiMap) (by rfl) T.isinstance_ (by decide +kernel) (pa_cons (pv 0) (pa_cons (pe_glob (v := .ref T.CMap) (by rfl) T.gMap rfl) pa_nil))))) pss_never pss_nil), ?_⟩
    exact ⟨_, rfl, m, dx, fs, rfl, hm, true, rfl, iteF q⟩
end
end MF
end
section
namespace MF
abbrev Rel3 := Int → Int → Int → Prop

def R3 (a b c x y z : Int) : Prop := (x = a ∧ y = b ∧ z = c) ∨ (x = b ∧ y = c ∧ z = a) ∨ (x = c ∧ y = a ∧ z = b)

structure Base (T : Rel3) : Prop where
  cyc : ∀ {a b c}, T a b c → T b c a
  fn : ∀ {a b c d}, T a b c → T a b d → c = d
  ne : ∀ {a b c}, T a b c → a ≠ b

def Conn (T : Rel3) : Prop := ∀ P : Int → Int → Prop, (∀ a b c, T a b c → P a b → P b c) → (∀ a b c d, T a b c → T b a d → P a b → P b a) → ∀ a b c a' b' c', T a b c → T a' b' c' → P a b → P a' b'

def Link (T : Rel3) : Prop := ∀ (v : Int) (P : Int → Prop), (∀ o t, T v o t → (P o ↔ P t)) → ∀ o t o' t', T v o t → T v o' t' → P o → P o'

def Bd (T : Rel3) (a b : Int) : Prop := (∃ c, T a b c) ∧ ∀ d, ¬ T b a d

def Split (T : Rel3) (a b c n : Int) : Rel3 := fun x y z => (T x y z ∧ ¬ R3 a b c x y z) ∨ R3 a b n x y z ∨ R3 b c n x y z ∨ R3 c a n x y z
def Flip (T : Rel3) (a b c d : Int) : Rel3 := fun x y z => (T x y z ∧ ¬ R3 a b c x y z ∧ ¬ R3 b a d x y z) ∨ R3 c a d x y z ∨ R3 d b c x y z

section
variable {T : Rel3} {a b c d n : Int}

theorem Base.cyc2 (B : Base T) {a b c : Int} (h : T a b c) : T c a b := B.cyc (B.cyc h)
/-- third is injective: the way (c, a) has b -/
theorem Base.inj (B : Base T) {v o o' t : Int} (h : T v o t) (h' : T v o' t) : o = o' := B.fn (B.cyc2 h) (B.cyc2 h')
theorem Base.ne2 (B : Base T) {a b c : Int} (h : T a b c) : b ≠ c := B.ne (B.cyc h)
theorem Base.ne3 (B : Base T) {a b c : Int} (h : T a b c) : c ≠ a := B.ne (B.cyc2 h)

theorem split_base (B : Base T) (h : T a b c) (hn : ∀ x y z, T x y z → x ≠ n) : Base (Split T a b c n) := by
  have h1 := B.ne h; have h2 := B.ne2 h; have h3 := B.ne3 h
  have n1 := hn _ _ _ h; have n2 := hn _ _ _ (B.cyc h); have n3 := hn _ _ _ (B.cyc2 h)
  have cyc := @B.cyc
  have fn := @B.fn
  have ne := @B.ne
  refine ⟨?_, ?_, ?_⟩
  · intro x y z q
    simp only [Split, R3] at q ⊢
    grind
  · intro x y z w q q'
    simp only [Split, R3] at q q'
    have e1 := cyc h
    have e2 := cyc e1
    grind
  · intro x y z q
    simp only [Split, R3] at q
    grind

theorem split_conn (B : Base T) (C : Conn T) (h : T a b c) (hn : ∀ x y z, T x y z → x ≠ n) : Conn (Split T a b c n) := by
  intro P p1 p2
  have h1 := B.ne h; have h2 := B.ne2 h; have h3 := B.ne3 h
  have n1 := hn _ _ _ h; have n2 := hn _ _ _ (B.cyc h); have n3 := hn _ _ _ (B.cyc2 h)
  have e1 := B.cyc h
  have e2 := B.cyc e1
  have fn := @B.fn
  have i1 : Split T a b c n a b n := by simp [Split, R3]
  have i2 : Split T a b c n b n a := by simp [Split, R3]
  have i3 : Split T a b c n n a b := by simp [Split, R3]
  have j1 : Split T a b c n b c n := by simp [Split, R3]
  have j2 : Split T a b c n c n b := by simp [Split, R3]
  have j3 : Split T a b c n n b c := by simp [Split, R3]
  have k1 : Split T a b c n c a n := by simp [Split, R3]
  have k2 : Split T a b c n a n c := by simp [Split, R3]
  have k3 : Split T a b c n n c a := by simp [Split, R3]
  have w1 := p1 _ _ _ i1; have w2 := p1 _ _ _ i2; have w3 := p1 _ _ _ i3
  have w4 := p1 _ _ _ j1; have w5 := p1 _ _ _ j2; have w6 := p1 _ _ _ j3
  have w7 := p1 _ _ _ k1; have w8 := p1 _ _ _ k2; have w9 := p1 _ _ _ k3
  have v1 := p2 _ _ _ _ i2 j3; have v2 := p2 _ _ _ _ j3 i2
  have v3 := p2 _ _ _ _ j2 k3; have v4 := p2 _ _ _ _ k3 j2
  have v5 := p2 _ _ _ _ k2 i3; have v6 := p2 _ _ _ _ i3 k2
  have o1 : ∀ x y z, T x y z → ∃ u, Split T a b c n x y u := by
    intro x y z q
    by_cases r : R3 a b c x y z
    · simp only [R3] at r
      rcases r with ⟨rfl, rfl, rfl⟩ | ⟨rfl, rfl, rfl⟩ | ⟨rfl, rfl, rfl⟩
      · exact ⟨_, i1⟩
      · exact ⟨_, j1⟩
      · exact ⟨_, k1⟩
    · exact ⟨z, .inl ⟨q, r⟩⟩
  have g1 : ∀ x y z, T x y z → P x y → P y z := by
    intro x y z q hp
    by_cases r : R3 a b c x y z
    · simp only [R3] at r
      rcases r with ⟨rfl, rfl, rfl⟩ | ⟨rfl, rfl, rfl⟩ | ⟨rfl, rfl, rfl⟩ <;> grind
    · exact p1 x y z (.inl ⟨q, r⟩) hp
  have g2 : ∀ x y z w, T x y z → T y x w → P x y → P y x := by
    intro x y z w q q' hp
    obtain ⟨u, hu⟩ := o1 _ _ _ q
    obtain ⟨u', hu'⟩ := o1 _ _ _ q'
    exact p2 _ _ _ _ hu hu' hp
  have CC := C P g1 g2
  -- from a way of the new one to an old way, there and back
  have old : ∀ x y z, Split T a b c n x y z → ∃ x' y' z', T x' y' z' ∧ (P x y → P x' y') ∧ (P x' y' → P x y) := by
    intro x y z q
    simp only [Split] at q
    rcases q with ⟨q, _⟩ | q | q | q
    · exact ⟨x, y, z, q, id, id⟩
    · simp only [R3] at q
      refine ⟨a, b, c, h, ?_⟩
      rcases q with ⟨rfl, rfl, rfl⟩ | ⟨rfl, rfl, rfl⟩ | ⟨rfl, rfl, rfl⟩ <;> grind
    · simp only [R3] at q
      refine ⟨b, c, a, e1, ?_⟩
      rcases q with ⟨rfl, rfl, rfl⟩ | ⟨rfl, rfl, rfl⟩ | ⟨rfl, rfl, rfl⟩ <;> grind
    · simp only [R3] at q
      refine ⟨c, a, b, e2, ?_⟩
      rcases q with ⟨rfl, rfl, rfl⟩ | ⟨rfl, rfl, rfl⟩ | ⟨rfl, rfl, rfl⟩ <;> grind
  intro x y z x' y' z' q q' hp
  obtain ⟨u, v, w, t, f1, _⟩ := old _ _ _ q
  obtain ⟨u', v', w', t', _, f2⟩ := old _ _ _ q'
  exact f2 (CC _ _ _ _ _ _ t t' (f1 hp))

theorem split_link (B : Base T) (L : Link T) (h : T a b c) (hn : ∀ x y z, T x y z → x ≠ n) : Link (Split T a b c n) := by
  intro v P p
  have h1 := B.ne h; have h2 := B.ne2 h; have h3 := B.ne3 h
  have n1 := hn _ _ _ h; have n2 := hn _ _ _ (B.cyc h); have n3 := hn _ _ _ (B.cyc2 h)
  have e1 := B.cyc h
  have e2 := B.cyc e1
  have fn := @B.fn
  have hn' : ∀ x y z, T x y z → y ≠ n := fun x y z q => hn _ _ _ (B.cyc q)
  have hn'' : ∀ x y z, T x y z → z ≠ n := fun x y z q => hn _ _ _ (B.cyc2 q)
  by_cases hv : v = n
  · subst hv
    have i3 := p a b (by simp [Split, R3])
    have j3 := p b c (by simp [Split, R3])
    have k3 := p c a (by simp [Split, R3])
    intro o t o' t' q q' hp
    simp only [Split, R3] at q q'
    grind
  · -- closed on the old one
    have g : ∀ o t, T v o t → (P o ↔ P t) := by
      intro o t q
      by_cases r : R3 a b c v o t
      · simp only [R3] at r
        rcases r with ⟨rfl, rfl, rfl⟩ | ⟨rfl, rfl, rfl⟩ | ⟨rfl, rfl, rfl⟩
        · exact (p o n (by simp [Split, R3])).trans (p n t (by simp [Split, R3]))
        · exact (p o n (by simp [Split, R3])).trans (p n t (by simp [Split, R3]))
        · exact (p o n (by simp [Split, R3])).trans (p n t (by simp [Split, R3]))
      · exact p o t (.inl ⟨q, r⟩)
    have LL := L v P g
    have old : ∀ o t, Split T a b c n v o t → ∃ o' t', T v o' t' ∧ (P o ↔ P o') := by
      intro o t q
      have pp := p o t q
      simp only [Split] at q
      rcases q with ⟨q, _⟩ | q | q | q
      · exact ⟨o, t, q, Iff.rfl⟩
      all_goals
        simp only [R3] at q
        rcases q with ⟨rfl, rfl, rfl⟩ | ⟨rfl, rfl, rfl⟩ | ⟨rfl, rfl, rfl⟩
      · exact ⟨_, _, h, Iff.rfl⟩
      · exact ⟨_, _, e1, pp.trans (g _ _ e1).symm⟩
      · exact absurd rfl hv
      · exact ⟨_, _, e1, Iff.rfl⟩
      · exact ⟨_, _, e2, pp.trans (g _ _ e2).symm⟩
      · exact absurd rfl hv
      · exact ⟨_, _, e2, Iff.rfl⟩
      · exact ⟨_, _, h, pp.trans (g _ _ h).symm⟩
      · exact absurd rfl hv
    intro o t o' t' q q' hp
    obtain ⟨u, w, t1, f1⟩ := old _ _ q
    obtain ⟨u', w', t2, f2⟩ := old _ _ q'
    exact f2.mpr (LL _ _ _ _ t1 t2 (f1.mp hp))

theorem split_bd (B : Base T) (h : T a b c) (hn : ∀ x y z, T x y z → x ≠ n) (x y : Int) : Bd (Split T a b c n) x y ↔ Bd T x y := by
  have h1 := B.ne h; have h2 := B.ne2 h; have h3 := B.ne3 h
  have n1 := hn _ _ _ h; have n2 := hn _ _ _ (B.cyc h); have n3 := hn _ _ _ (B.cyc2 h)
  have e1 := B.cyc h
  have e2 := B.cyc e1
  have fn := @B.fn
  have hn' : ∀ x y z, T x y z → y ≠ n := fun x y z q => hn _ _ _ (B.cyc q)
  have o1 : ∀ x y, (∃ z, T x y z) → ∃ u, Split T a b c n x y u := by
    rintro x y ⟨z, q⟩
    by_cases r : R3 a b c x y z
    · simp only [R3] at r
      rcases r with ⟨rfl, rfl, rfl⟩ | ⟨rfl, rfl, rfl⟩ | ⟨rfl, rfl, rfl⟩
      · exact ⟨n, by simp [Split, R3]⟩
      · exact ⟨n, by simp [Split, R3]⟩
      · exact ⟨n, by simp [Split, R3]⟩
    · exact ⟨z, .inl ⟨q, r⟩⟩
  have o2 : ∀ x y, x ≠ n → y ≠ n → (∃ z, Split T a b c n x y z) → ∃ u, T x y u := by
    rintro x y hx hy ⟨z, q⟩
    simp only [Split, R3] at q
    grind
  have o4 : ∀ y z, Split T a b c n n y z → ∃ u, Split T a b c n y n u := by
    intro y z q
    have q0 : ¬ T n y z := fun z' => hn _ _ _ z' rfl
    simp only [Split, R3] at q ⊢
    grind
  have o5 : ∀ y z, Split T a b c n y n z → ∃ u, Split T a b c n n y u := by
    intro y z q
    have q0 : ¬ T y n z := fun z' => hn' _ _ _ z' rfl
    simp only [Split, R3] at q ⊢
    grind
  constructor
  · rintro ⟨⟨z, q⟩, w⟩
    have hx : x ≠ n := by
      rintro rfl
      obtain ⟨u, hu⟩ := o4 _ _ q
      exact w _ hu
    have hy : y ≠ n := by
      rintro rfl
      obtain ⟨u, hu⟩ := o5 _ _ q
      exact w _ hu
    refine ⟨o2 x y hx hy ⟨z, q⟩, fun d q' => ?_⟩
    obtain ⟨u, hu⟩ := o1 _ _ ⟨d, q'⟩
    exact w _ hu
  · rintro ⟨⟨z, q⟩, w⟩
    refine ⟨o1 _ _ ⟨z, q⟩, fun d q' => ?_⟩
    obtain ⟨u, hu⟩ := o2 y x (hn' _ _ _ q) (hn _ _ _ q) ⟨d, q'⟩
    exact w _ hu

/-! flip -/
theorem flip_base (B : Base T) (h : T a b c) (k : T b a d) (hcd : c ≠ d) (m1 : ∀ z, ¬ T c d z) (m2 : ∀ z, ¬ T d c z) : Base (Flip T a b c d) := by
  have h1 := B.ne h; have h2 := B.ne2 h; have h3 := B.ne3 h
  have k2 := B.ne2 k; have k3 := B.ne3 k
  have cyc := @B.cyc
  have fn := @B.fn
  have ne := @B.ne
  have e1 := B.cyc h; have e2 := B.cyc2 h
  have f1 := B.cyc k; have f2 := B.cyc2 k
  refine ⟨?_, ?_, ?_⟩
  · intro x y z q
    simp only [Flip, R3] at q ⊢
    grind
  · intro x y z w q q'
    simp only [Flip, R3] at q q'
    rcases q with q | (q | q | q) | (q | q | q) <;> rcases q' with q' | (q' | q' | q') | (q' | q' | q') <;> grind
  · intro x y z q
    simp only [Flip, R3] at q
    grind
/-- flipping back -/
theorem flip_flip (B : Base T) (h : T a b c) (k : T b a d) (hcd : c ≠ d) (m1 : ∀ z, ¬ T c d z) (m2 : ∀ z, ¬ T d c z) (x y z : Int) : Flip (Flip T a b c d) c d b a x y z ↔ T x y z := by
  have h1 := B.ne h; have h2 := B.ne2 h; have h3 := B.ne3 h
  have k2 := B.ne2 k; have k3 := B.ne3 k
  have cyc := @B.cyc
  have fn := @B.fn
  have e1 := B.cyc h; have e2 := B.cyc2 h
  have f1 := B.cyc k; have f2 := B.cyc2 k
  simp only [Flip, R3]
  constructor
  · intro q; grind
  · intro q; grind
theorem flip_conn (B : Base T) (C : Conn T) (h : T a b c) (k : T b a d) (hcd : c ≠ d) : Conn (Flip T a b c d) := by
  intro P p1 p2
  have h1 := B.ne h; have h2 := B.ne2 h; have h3 := B.ne3 h
  have k2 := B.ne2 k; have k3 := B.ne3 k
  have e1 := B.cyc h; have e2 := B.cyc2 h
  have f1 := B.cyc k; have f2 := B.cyc2 k
  have i1 : Flip T a b c d c a d := by simp [Flip, R3]
  have i2 : Flip T a b c d a d c := by simp [Flip, R3]
  have i3 : Flip T a b c d d c a := by simp [Flip, R3]
  have j1 : Flip T a b c d d b c := by simp [Flip, R3]
  have j2 : Flip T a b c d b c d := by simp [Flip, R3]
  have j3 : Flip T a b c d c d b := by simp [Flip, R3]
  have w1 := p1 _ _ _ i1; have w2 := p1 _ _ _ i2; have w3 := p1 _ _ _ i3
  have w4 := p1 _ _ _ j1; have w5 := p1 _ _ _ j2; have w6 := p1 _ _ _ j3
  have v1 := p2 _ _ _ _ i3 j3; have v2 := p2 _ _ _ _ j3 i3
  let Pq : Int → Int → Prop := fun x y => if (x = a ∧ y = b) ∨ (x = b ∧ y = a) then P c d else P x y
  have ePq : ∀ x y, ¬ ((x = a ∧ y = b) ∨ (x = b ∧ y = a)) → (Pq x y = P x y) := fun x y q => if_neg q
  have eab : Pq a b = P c d := if_pos (.inl ⟨rfl, rfl⟩)
  have eba : Pq b a = P c d := if_pos (.inr ⟨rfl, rfl⟩)
  have o1 : ∀ x y z, T x y z → ¬ ((x = a ∧ y = b) ∨ (x = b ∧ y = a)) → ∃ u, Flip T a b c d x y u := by
    intro x y z q ne
    by_cases r : R3 a b c x y z
    · simp only [R3] at r
      rcases r with ⟨rfl, rfl, rfl⟩ | ⟨rfl, rfl, rfl⟩ | ⟨rfl, rfl, rfl⟩
      · exact absurd (.inl ⟨rfl, rfl⟩) ne
      · exact ⟨_, j2⟩
      · exact ⟨_, i1⟩
    · by_cases r' : R3 b a d x y z
      · simp only [R3] at r'
        rcases r' with ⟨rfl, rfl, rfl⟩ | ⟨rfl, rfl, rfl⟩ | ⟨rfl, rfl, rfl⟩
        · exact absurd (.inr ⟨rfl, rfl⟩) ne
        · exact ⟨_, i2⟩
        · exact ⟨_, j1⟩
      · exact ⟨z, .inl ⟨q, r, r'⟩⟩
  have g1 : ∀ x y z, T x y z → Pq x y → Pq y z := by
    intro x y z q hp
    by_cases r : R3 a b c x y z
    · simp only [R3] at r
      rcases r with ⟨rfl, rfl, rfl⟩ | ⟨rfl, rfl, rfl⟩ | ⟨rfl, rfl, rfl⟩ <;> grind
    · by_cases r' : R3 b a d x y z
      · simp only [R3] at r'
        rcases r' with ⟨rfl, rfl, rfl⟩ | ⟨rfl, rfl, rfl⟩ | ⟨rfl, rfl, rfl⟩ <;> grind
      · have fn := @B.fn
        have cyc2 := @B.cyc2
        have n1 : ¬ ((x = a ∧ y = b) ∨ (x = b ∧ y = a)) := by
          simp only [R3] at r r'
          grind
        have n2 : ¬ ((y = a ∧ z = b) ∨ (y = b ∧ z = a)) := by
          simp only [R3] at r r'
          grind
        rw [ePq _ _ n1] at hp
        rw [ePq _ _ n2]
        exact p1 x y z (.inl ⟨q, r, r'⟩) hp
  have g2 : ∀ x y z w, T x y z → T y x w → Pq x y → Pq y x := by
    intro x y z w q q' hp
    by_cases ne : (x = a ∧ y = b) ∨ (x = b ∧ y = a)
    · rcases ne with ⟨rfl, rfl⟩ | ⟨rfl, rfl⟩ <;> grind
    · have ne' : ¬ ((y = a ∧ x = b) ∨ (y = b ∧ x = a)) := by grind
      obtain ⟨u, hu⟩ := o1 _ _ _ q ne
      obtain ⟨u', hu'⟩ := o1 _ _ _ q' ne'
      rw [ePq _ _ ne] at hp
      rw [ePq _ _ ne']
      exact p2 _ _ _ _ hu hu' hp
  have CC := C Pq g1 g2
  have old : ∀ x y z, Flip T a b c d x y z → ∃ x' y' z', T x' y' z' ∧ (P x y → Pq x' y') ∧ (Pq x' y' → P x y) := by
    intro x y z q
    simp only [Flip] at q
    rcases q with ⟨q, r, r'⟩ | q | q
    · refine ⟨x, y, z, q, ?_⟩
      have fn := @B.fn
      have n1 : ¬ ((x = a ∧ y = b) ∨ (x = b ∧ y = a)) := by
        simp only [R3] at r r'
        grind
      rw [ePq _ _ n1]
      exact ⟨id, id⟩
    · simp only [R3] at q
      refine ⟨a, b, c, h, ?_⟩
      rcases q with ⟨rfl, rfl, rfl⟩ | ⟨rfl, rfl, rfl⟩ | ⟨rfl, rfl, rfl⟩ <;> grind
    · simp only [R3] at q
      refine ⟨a, b, c, h, ?_⟩
      rcases q with ⟨rfl, rfl, rfl⟩ | ⟨rfl, rfl, rfl⟩ | ⟨rfl, rfl, rfl⟩ <;> grind
  intro x y z x' y' z' q q' hp
  obtain ⟨u, v, w, t, f1, _⟩ := old _ _ _ q
  obtain ⟨u', v', w', t', _, f2⟩ := old _ _ _ q'
  exact f2 (CC _ _ _ _ _ _ t t' (f1 hp))
theorem flip_link (B : Base T) (L : Link T) (h : T a b c) (k : T b a d) (hcd : c ≠ d) (m1 : ∀ z, ¬ T c d z) (m2 : ∀ z, ¬ T d c z) : Link (Flip T a b c d) := by
  intro v P p
  have h1 := B.ne h; have h2 := B.ne2 h; have h3 := B.ne3 h
  have k2 := B.ne2 k; have k3 := B.ne3 k
  have e1 := B.cyc h; have e2 := B.cyc2 h
  have f1 := B.cyc k; have f2 := B.cyc2 k
  have fn := @B.fn
  have inj := @B.inj
  have ne := @B.ne
  -- the dot that goes: a loses b, b loses a
  let w : Int := if v = a then b else a
  let Pq : Int → Prop := fun x => if (v = a ∧ x = b) ∨ (v = b ∧ x = a) then P c else P x
  have eP : ∀ x, ¬ ((v = a ∧ x = b) ∨ (v = b ∧ x = a)) → Pq x = P x := fun x q => if_neg q
  have eP' : ∀ x, ((v = a ∧ x = b) ∨ (v = b ∧ x = a)) → Pq x = P c := fun x q => if_pos q
  have g : ∀ o t, T v o t → (Pq o ↔ Pq t) := by
    intro o t q
    by_cases r : R3 a b c v o t
    · simp only [R3] at r
      rcases r with ⟨rfl, rfl, rfl⟩ | ⟨rfl, rfl, rfl⟩ | ⟨rfl, rfl, rfl⟩
      · rw [eP' _ (.inl ⟨rfl, rfl⟩), eP _ (by grind)]
      · rw [eP _ (by grind), eP' _ (.inr ⟨rfl, rfl⟩)]
      · rw [eP _ (by grind), eP _ (by grind)]
        exact (p o d (by simp [Flip, R3])).trans (p d t (by simp [Flip, R3]))
    · by_cases r' : R3 b a d v o t
      · simp only [R3] at r'
        rcases r' with ⟨rfl, rfl, rfl⟩ | ⟨rfl, rfl, rfl⟩ | ⟨rfl, rfl, rfl⟩
        · rw [eP' _ (.inr ⟨rfl, rfl⟩), eP _ (by grind)]
          exact p c t (by simp [Flip, R3])
        · rw [eP _ (by grind), eP' _ (.inl ⟨rfl, rfl⟩)]
          exact p o c (by simp [Flip, R3])
        · rw [eP _ (by grind), eP _ (by grind)]
          exact (p o c (by simp [Flip, R3])).trans (p c t (by simp [Flip, R3]))
      · have n1 : ¬ ((v = a ∧ o = b) ∨ (v = b ∧ o = a)) := by
          simp only [R3] at r r'
          grind
        have n2 : ¬ ((v = a ∧ t = b) ∨ (v = b ∧ t = a)) := by
          simp only [R3] at r r'
          grind
        rw [eP _ n1, eP _ n2]
        exact p o t (.inl ⟨q, r, r'⟩)
  have LL := L v Pq g
  have old : ∀ o t, Flip T a b c d v o t → ∃ o' t', T v o' t' ∧ (P o ↔ Pq o') := by
    intro o t q
    have pp := p o t q
    have q0 := q
    simp only [Flip] at q
    rcases q with ⟨q, r, r'⟩ | q | q
    · refine ⟨o, t, q, ?_⟩
      have n1 : ¬ ((v = a ∧ o = b) ∨ (v = b ∧ o = a)) := by
        simp only [R3] at r r'
        grind
      rw [eP _ n1]
    · simp only [R3] at q
      rcases q with ⟨rfl, rfl, rfl⟩ | ⟨rfl, rfl, rfl⟩ | ⟨rfl, rfl, rfl⟩
      · exact ⟨_, _, e2, by rw [eP _ (by grind)]⟩
      · exact ⟨_, _, f1, by rw [eP _ (by grind)]⟩
      · exact ⟨_, _, f2, by rw [eP _ (by grind)]; exact (p b o (by simp [Flip, R3])).symm⟩
    · simp only [R3] at q
      rcases q with ⟨rfl, rfl, rfl⟩ | ⟨rfl, rfl, rfl⟩ | ⟨rfl, rfl, rfl⟩
      · exact ⟨_, _, f2, by rw [eP _ (by grind)]⟩
      · exact ⟨_, _, e1, by rw [eP _ (by grind)]⟩
      · exact ⟨_, _, e2, by rw [eP _ (by grind)]; exact (p a o (by simp [Flip, R3])).symm⟩
  intro o t o' t' q q' hp
  obtain ⟨u, w, t1, f1⟩ := old _ _ q
  obtain ⟨u', w', t2, f2⟩ := old _ _ q'
  exact f2.mpr (LL _ _ _ _ t1 t2 (f1.mp hp))
theorem flip_bd (B : Base T) (h : T a b c) (k : T b a d) (hcd : c ≠ d) (m1 : ∀ z, ¬ T c d z) (m2 : ∀ z, ¬ T d c z) (x y : Int) : Bd (Flip T a b c d) x y ↔ Bd T x y := by
  have h1 := B.ne h; have h2 := B.ne2 h; have h3 := B.ne3 h
  have k2 := B.ne2 k; have k3 := B.ne3 k
  have e1 := B.cyc h; have e2 := B.cyc2 h
  have f1 := B.cyc k; have f2 := B.cyc2 k
  have fn := @B.fn
  -- the ways of the new one: those of the old one without (a, b), (b, a), with (c, d), (d, c)
  have W : ∀ x y, (∃ u, Flip T a b c d x y u) ↔ ((∃ u, T x y u) ∧ ¬ (x = a ∧ y = b) ∧ ¬ (x = b ∧ y = a)) ∨ (x = c ∧ y = d) ∨ (x = d ∧ y = c) := by
    intro x y
    constructor
    · rintro ⟨u, q⟩
      simp only [Flip, R3] at q
      rcases q with q | (q | q | q) | (q | q | q) <;> grind
    · rintro (⟨⟨u, q⟩, n1, n2⟩ | ⟨rfl, rfl⟩ | ⟨rfl, rfl⟩)
      · by_cases r : R3 a b c x y u
        · simp only [R3] at r
          rcases r with ⟨rfl, rfl, rfl⟩ | ⟨rfl, rfl, rfl⟩ | ⟨rfl, rfl, rfl⟩
          · exact absurd ⟨rfl, rfl⟩ n1
          · exact ⟨d, by simp [Flip, R3]⟩
          · exact ⟨d, by simp [Flip, R3]⟩
        · by_cases r' : R3 b a d x y u
          · simp only [R3] at r'
            rcases r' with ⟨rfl, rfl, rfl⟩ | ⟨rfl, rfl, rfl⟩ | ⟨rfl, rfl, rfl⟩
            · exact absurd ⟨rfl, rfl⟩ n2
            · exact ⟨c, by simp [Flip, R3]⟩
            · exact ⟨c, by simp [Flip, R3]⟩
          · exact ⟨u, .inl ⟨q, r, r'⟩⟩
      · exact ⟨b, by simp [Flip, R3]⟩
      · exact ⟨a, by simp [Flip, R3]⟩
  have W' : ∀ x y, (∀ u, ¬ Flip T a b c d x y u) ↔ ¬ (((∃ u, T x y u) ∧ ¬ (x = a ∧ y = b) ∧ ¬ (x = b ∧ y = a)) ∨ (x = c ∧ y = d) ∨ (x = d ∧ y = c)) := by
    intro x y
    rw [← W x y]
    exact not_exists.symm
  unfold Bd
  rw [W x y, W' y x]
  grind
/-- no other dots, none lost -/
theorem split_dots (B : Base T) (h : T a b c) (x : Int) : (∃ y z, Split T a b c n x y z) ↔ (∃ y z, T x y z) ∨ x = n := by
  have e1 := B.cyc h; have e2 := B.cyc2 h
  constructor
  · rintro ⟨y, z, q⟩
    simp only [Split, R3] at q
    rcases q with q | (q | q | q) | (q | q | q) | (q | q | q) <;> grind
  · rintro (⟨y, z, q⟩ | rfl)
    · by_cases r : R3 a b c x y z
      · simp only [R3] at r
        rcases r with ⟨rfl, rfl, rfl⟩ | ⟨rfl, rfl, rfl⟩ | ⟨rfl, rfl, rfl⟩
        · exact ⟨y, n, by simp [Split, R3]⟩
        · exact ⟨y, n, by simp [Split, R3]⟩
        · exact ⟨y, n, by simp [Split, R3]⟩
      · exact ⟨y, z, .inl ⟨q, r⟩⟩
    · exact ⟨a, b, by simp [Split, R3]⟩
theorem flip_dots (B : Base T) (h : T a b c) (k : T b a d) (x : Int) : (∃ y z, Flip T a b c d x y z) ↔ (∃ y z, T x y z) := by
  have e1 := B.cyc h; have e2 := B.cyc2 h
  have f1 := B.cyc k; have f2 := B.cyc2 k
  constructor
  · rintro ⟨y, z, q⟩
    simp only [Flip, R3] at q
    rcases q with q | (q | q | q) | (q | q | q) <;> grind
  · rintro ⟨y, z, q⟩
    by_cases r : R3 a b c x y z
    · simp only [R3] at r
      rcases r with ⟨rfl, rfl, rfl⟩ | ⟨rfl, rfl, rfl⟩ | ⟨rfl, rfl, rfl⟩
      · exact ⟨d, z, by simp [Flip, R3]⟩
      · exact ⟨y, d, by simp [Flip, R3]⟩
      · exact ⟨y, d, by simp [Flip, R3]⟩
    · by_cases r' : R3 b a d x y z
      · simp only [R3] at r'
        rcases r' with ⟨rfl, rfl, rfl⟩ | ⟨rfl, rfl, rfl⟩ | ⟨rfl, rfl, rfl⟩
        · exact ⟨c, z, by simp [Flip, R3]⟩
        · exact ⟨y, c, by simp [Flip, R3]⟩
        · exact ⟨y, c, by simp [Flip, R3]⟩
      · exact ⟨y, z, .inl ⟨q, r, r'⟩⟩
end
end MF
end
section
set_option linter.all false
namespace MF
/-! lands, ways -/
abbrev Land := Int × Int × Int
def l3 (l : Land) : List Int := [l.1, l.2.1, l.2.2]
def ways1 (l : Land) : List Land := [l, (l.2.1, l.2.2, l.1), (l.2.2, l.1, l.2.1)]
/-- the ways of lands with the third dots, in their order -/
def ways (ls : List Land) : List Land := ls.flatMap ways1
def key (w : Land) : Int × Int := (w.1, w.2.1)
def third (W : List Land) (a b : Int) : Option Int := (W.find? fun w => decide (w.1 = a ∧ w.2.1 = b)).map (·.2.2)
abbrev Tr (W : List Land) : Rel3 := fun a b c => (a, b, c) ∈ W
theorem third_none {W : List Land} {a b : Int} : third W a b = none ↔ ∀ c, (a, b, c) ∉ W := by
  unfold third
  rw [Option.map_eq_none_iff, List.find?_eq_none]
  constructor
  · intro h c hc
    have := h _ hc
    simp at this
  · rintro h ⟨x, y, z⟩ hw
    simp only [decide_eq_true_eq, not_and]
    rintro rfl rfl
    exact h z hw
theorem third_mem {W : List Land} {a b c : Int} (h : third W a b = some c) : (a, b, c) ∈ W := by
  unfold third at h
  obtain ⟨w, hw, e⟩ := Option.map_eq_some_iff.mp h
  have h1 := List.mem_of_find?_eq_some hw
  have h2 := List.find?_some hw
  obtain ⟨x, y, z⟩ := w
  simp only [decide_eq_true_eq] at h2 e
  obtain ⟨rfl, rfl⟩ := h2
  subst e
  exact h1
/-- no key twice: then a way has one third -/
theorem nodup_fn {W : List Land} (hn : (W.map key).Nodup) {a b c d : Int} (h1 : (a, b, c) ∈ W) (h2 : (a, b, d) ∈ W) : c = d := by
  have e : ∀ (W : List Land), (W.map key).Nodup → (a, b, c) ∈ W → (a, b, d) ∈ W → c = d := by
    intro W
    induction W with
    | nil => intro _ h; cases h
    | cons w W ih =>
      intro hn h1 h2
      simp only [List.map_cons, List.nodup_cons, List.mem_map, not_exists, not_and] at hn
      rcases List.mem_cons.mp h1 with e1 | h1
      · rcases List.mem_cons.mp h2 with e2 | h2
        · rw [← e1] at e2
          simp only [Prod.mk.injEq, true_and] at e2
          exact e2.symm
        · exact absurd (by rw [← e1]; rfl) (hn.1 _ h2)
      · rcases List.mem_cons.mp h2 with e2 | h2
        · exact absurd (by rw [← e2]; rfl) (hn.1 _ h1)
        · exact ih hn.2 h1 h2
  exact e W hn h1 h2
theorem third_some {W : List Land} (hn : (W.map key).Nodup) {a b c : Int} : third W a b = some c ↔ (a, b, c) ∈ W := by
  refine ⟨third_mem, fun h => ?_⟩
  cases e : third W a b with
  | none => exact absurd h (third_none.mp e c)
  | some d => rw [nodup_fn hn h (third_mem e)]
theorem third_isSome {W : List Land} {a b : Int} : (third W a b).isSome = true ↔ ∃ c, (a, b, c) ∈ W := by
  cases e : third W a b with
  | none => simp [third_none.mp e]
  | some d => simp; exact ⟨d, third_mem e⟩
theorem key_mem {W : List Land} {a b : Int} : (a, b) ∈ W.map key ↔ ∃ c, (a, b, c) ∈ W := by
  constructor
  · intro h
    obtain ⟨⟨x, y, z⟩, hw, e⟩ := List.mem_map.mp h
    simp only [key, Prod.mk.injEq] at e
    obtain ⟨rfl, rfl⟩ := e
    exact ⟨z, hw⟩
  · rintro ⟨c, h⟩
    exact List.mem_map.mpr ⟨_, h, rfl⟩
/-! each once, in order of the first place -/
section
variable {α : Type} [DecidableEq α]
def nubStep (acc : List α) (x : α) : List α := if x ∈ acc then acc else acc ++ [x]
def nub (l : List α) : List α := l.foldl nubStep []
theorem nub_snoc (l : List α) (x : α) : nub (l ++ [x]) = nubStep (nub l) x := by
  unfold nub
  rw [List.foldl_append]
  rfl
theorem nub_props (l : List α) : (nub l).Nodup ∧ ∀ x, x ∈ nub l ↔ x ∈ l := by
  have go : ∀ (l acc : List α), acc.Nodup → (l.foldl nubStep acc).Nodup ∧ ∀ x, x ∈ l.foldl nubStep acc ↔ x ∈ acc ∨ x ∈ l := by
    intro l
    induction l with
    | nil => intro acc h; exact ⟨h, fun x => by simp⟩
    | cons y l ih =>
      intro acc h
      rw [List.foldl_cons]
      have h' : (nubStep acc y).Nodup := by
        unfold nubStep
        split
        · exact h
        · rename_i hy
          rw [List.nodup_append]
          refine ⟨h, by simp, fun a ha b hb => ?_⟩
          rw [List.mem_singleton.mp hb]
          rintro rfl
          exact hy ha
      obtain ⟨h1, h2⟩ := ih _ h'
      refine ⟨h1, fun x => ?_⟩
      rw [h2 x]
      unfold nubStep
      split
      · rename_i hy
        constructor
        · rintro (h | h)
          · exact .inl h
          · exact .inr (List.mem_cons_of_mem _ h)
        · rintro (h | h)
          · exact .inl h
          · rcases List.mem_cons.mp h with rfl | h
            · exact .inl hy
            · exact .inr h
      · simp only [List.mem_append, List.mem_cons, List.not_mem_nil, or_false]
        constructor
        · rintro ((h | h) | h)
          · exact .inl h
          · exact .inr (.inl h)
          · exact .inr (.inr h)
        · rintro (h | h | h)
          · exact .inl (.inl h)
          · exact .inl (.inr h)
          · exact .inr h
  obtain ⟨h1, h2⟩ := go l [] List.nodup_nil
  exact ⟨h1, fun x => by rw [show nub l = l.foldl nubStep [] from rfl, h2 x]; simp⟩
theorem nub_nodup (l : List α) : (nub l).Nodup := (nub_props l).1
theorem mem_nub {l : List α} {x : α} : x ∈ nub l ↔ x ∈ l := (nub_props l).2 x
end
/-- the dots to which ways lead from v -/
def outs (W : List Land) (v : Int) : List Int := (W.filter fun w => decide (w.1 = v)).map (·.2.1)
theorem mem_outs {W : List Land} {v o : Int} : o ∈ outs W v ↔ ∃ c, (v, o, c) ∈ W := by
  unfold outs
  rw [List.mem_map]
  constructor
  · rintro ⟨⟨x, y, z⟩, hw, rfl⟩
    rw [List.mem_filter, decide_eq_true_eq] at hw
    obtain ⟨hw, rfl⟩ := hw
    exact ⟨z, hw⟩
  · rintro ⟨c, hc⟩
    exact ⟨_, List.mem_filter.mpr ⟨hc, by simp⟩, rfl⟩
theorem outs_nodup {W : List Land} (hn : (W.map key).Nodup) (v : Int) : (outs W v).Nodup := by
  induction W with
  | nil => exact List.nodup_nil
  | cons w W ih =>
    obtain ⟨x, y, z⟩ := w
    simp only [List.map_cons, List.nodup_cons] at hn
    unfold outs
    rw [List.filter_cons]
    split
    · rename_i h
      have hx : x = v := by simpa using h
      subst hx
      rw [List.map_cons, List.nodup_cons]
      refine ⟨fun hm => ?_, ih hn.2⟩
      obtain ⟨c, hc⟩ := mem_outs.mp hm
      exact hn.1 (key_mem.mpr ⟨c, hc⟩)
    · exact ih hn.2
end MF
end
section
set_option Elab.async false
set_option linter.all false
set_option maxRecDepth 100000
set_option maxHeartbeats 4000000
namespace MF
open PySem PySem.Spec PyProof.Rows L2
/-! heaps that grow -/
section
variable {H H1 H2 : Hp} {p q : Addr} {o u : HO}
theorem Same.new (h : H p = none) : Same H (upd H p o) := fun b x e => (upd_ne (ne_of_none e h)).trans e
theorem Same.mut (e : Same H H1) (h : H p = none) : Same H (upd H1 p o) := fun b x hb => (upd_ne (ne_of_none hb h)).trans (e b x hb)
theorem Same.add (e : Same H H1) (h : H1 p = none) : Same H (upd H1 p o) := fun b x hb => (upd_ne (ne_of_none (e b x hb) h)).trans (e b x hb)
/-- what stood at q stands behind a store at p, where they differ in content or p is new -/
theorem at_new (h : H q = some u) (n : H p = none) : upd H p o q = some u := (upd_ne (ne_of_none h n)).trans h
theorem at_ne (h : H q = some u) (n : q ≠ p) : upd H p o q = some u := (upd_ne n).trans h
end
/-- a new object, the heap behind it a letter -/
theorem mk {H : Hp} {o : HO} {K : VK} (h : ∀ p H2, H p = none → Same H H2 → H2 p = some o → K (.ref p) H2) : ∀ p, H p = none → K (.ref p) (upd H p o) := fun p n => h p _ n (Same.new n) upd_same
theorem Same.none {H H' : Hp} (e : Same H H') {p : Addr} (h : H' p = none) : H p = none := e.free h
/-! the dict of ways -/
def wkv (W : List Land) : List (List Key × V) := W.map fun w => (kI [w.1, w.2.1], V.int w.2.2)
def WD (H : Hp) (d : Addr) (W : List Land) : Prop := H d = some (.dT (wkv W))
theorem kI_inj {a b : List Int} (h : kI a = kI b) : a = b := by
  have := congrArg (List.filterMap fun k : Key => match k with | .inl i => some i | .inr _ => none) h
  simpa [kI, List.filterMap_map, Function.comp_def] using this
theorem valV_wkv (W : List Land) (a b : Int) : valV (wkv W) (kI [a, b]) = (third W a b).map V.int := by
  unfold valV wkv third
  rw [List.find?_map]
  have e : ((fun kv : List Key × V => decide (kv.1 = kI [a, b])) ∘ fun w : Land => (kI [w.1, w.2.1], V.int w.2.2)) = fun w => decide (w.1 = a ∧ w.2.1 = b) := by
    funext w
    refine decide_eq_decide.mpr ⟨fun h => ?_, fun ⟨h1, h2⟩ => by show kI [w.1, w.2.1] = kI [a, b]; rw [h1, h2]⟩
    have := kI_inj (show kI [w.1, w.2.1] = kI [a, b] from h)
    simpa using this
  rw [e]
  cases W.find? fun w => decide (w.1 = a ∧ w.2.1 = b) <;> rfl
theorem TuX.key {H : Hp} {p : Addr} {ns : List Int} (h : TuX H p ns) : H p = some (.tup ((kI ns).map kV)) := by
  rw [kI_kV]
  exact h
theorem WD.get {H : Hp} {d p : Addr} {W : List Land} {a b : Int} (h : WD H d W) (hp : TuX H p [a, b]) : DGet H d (.ref p) ((third W a b).map V.int) := by
  rw [← valV_wkv]
  exact DGet.t h hp.key
theorem WD.put {H : Hp} {d p : Addr} {W : List Land} {a b c : Int} (h : WD H d W) (hp : TuX H p [a, b]) (hn : third W a b = none) (hl : W.length < sizeLine) : DPut H d (.ref p) (.int c) (upd H d (.dT (wkv (W ++ [(a, b, c)])))) := by
  have e : wkv (W ++ [(a, b, c)]) = putK (wkv W) (kI [a, b]) (.int c) := by
    rw [putK_new _ (by rw [valV_wkv, hn]; rfl)]
    unfold wkv
    rw [List.map_append]
    rfl
  rw [e]
  exact DPut.t h hp.key (by unfold wkv; rw [List.length_map]; exact hl)
theorem sz_of {n : Nat} (h : n ≤ 100000) : n ≤ sizeLine := Nat.le_trans h (by decide)
theorem sz_lt {n : Nat} (h : n < 100000) : n < sizeLine := Nat.lt_of_lt_of_le h (by decide)
end MF
end
section
set_option Elab.async false
set_option linter.all false
set_option maxRecDepth 100000
set_option maxHeartbeats 4000000
namespace MF
open PySem PySem.Spec PyProof.Rows L2
/-! readings closed upwards: the same, with a weaker wish behind -/
def upE (t : TE) : TE := fun σ H Q => ∃ Q0 : VK, t σ H Q0 ∧ ∀ v H', Q0 v H' → Q v H'
def upA (t : TA) : TA := fun σ H Q => ∃ Q0 : List V → Hp → Prop, t σ H Q0 ∧ ∀ v H', Q0 v H' → Q v H'
def upT (t : L2.TT) : L2.TT := fun σ H Q => ∃ Q0 : Bool → Hp → Prop, t σ H Q0 ∧ ∀ v H', Q0 v H' → Q v H'
def upG (t : TG) : TG := fun v σ H Q => ∃ Q0 : L2.St → Hp → Prop, t v σ H Q0 ∧ ∀ σ' H', Q0 σ' H' → Q σ' H'
def upI (t : L2.TI) : L2.TI := fun σ H R => ∃ R0 : It → Hp → Prop, t σ H R0 ∧ ∀ J H', R0 J H' → R J H'
section
variable {X : Cx}
theorem PE_imp {e : Expr} {t t' : TE} (h : PE X e t) (i : ∀ σ H Q, t' σ H Q → t σ H Q) : PE X e t' := ⟨fun pins s σ H Q I q => h.run pins s σ H Q I (i σ H Q q)⟩
theorem PS_imp {e : Stmt} {t t' : L2.TS} (h : L2.PS X e t) (i : ∀ D σ H, t' D σ H → t D σ H) : L2.PS X e t' := ⟨fun pins s σ H D I q => h.run pins s σ H D I (i D σ H q)⟩
theorem PE_up {e : Expr} {t : TE} (h : PE X e t) : PE X e (upE t) := ⟨fun pins s σ H Q I ⟨Q0, q, k⟩ => thn (h.run pins s σ H Q0 I q) fun u s' ⟨v, H', I', r, z⟩ => ⟨v, H', I', r, k v H' z⟩⟩
theorem PA_up {es : List Expr} {t : TA} (h : PA X es t) : PA X es (upA t) := ⟨fun pos pins s σ H Q I ⟨Q0, q, k⟩ => thn (h.run pos pins s σ H Q0 I q) fun u s' ⟨v, H', I', r, z⟩ => ⟨v, H', I', r, k v H' z⟩⟩
theorem PTs_up {es : List Expr} {t : L2.TT} (h : PTs X es t) : PTs X es (upT t) := ⟨fun pins s σ H Q I ⟨Q0, q, k⟩ => thn (h.run pins s σ H Q0 I q) fun u s' ⟨H', I', z⟩ => ⟨H', I', k _ H' z⟩⟩
theorem PT_up {e : Expr} {t : L2.TT} (h : PT X e t) : PT X e (upT t) := ⟨fun pins s σ H Q I ⟨Q0, q, k⟩ => thn (h.run pins s σ H Q0 I q) fun u s' ⟨H', I', z⟩ => ⟨H', I', k _ H' z⟩⟩
theorem PG_up {e : Expr} {t : TG} (h : PG X e t) : PG X e (upG t) := ⟨fun pins s σ H v u Q I r ⟨Q0, q, k⟩ => thn (h.run pins s σ H v u Q0 I r q) fun _ s' ⟨σ', H', I', z⟩ => ⟨σ', H', I', k σ' H' z⟩⟩
theorem PI_up {tg e : Expr} {t : L2.TI} (h : PI X tg e t) : PI X tg e (upI t) := ⟨fun pins s σ H R I ⟨R0, q, k⟩ => thn (h.run pins s σ H R0 I q) fun u s' z => thn z fun itv s2 y => by
  obtain ⟨it, fp, tn, J, H2, a1, a2, a3, a4, a5, a6⟩ := y
  exact ⟨it, fp, tn, J, H2, a1, a2, a3, a4, a5, k J H2 a6⟩⟩
/-! new objects, the heap behind them a letter -/
def tTupA (t : TA) : TE := fun σ H Q => t σ H fun xs H1 => xs.length ≤ sizeLine ∧ ∀ p H2, H1 p = none → Same H1 H2 → H2 p = some (.tup xs) → Q (.ref p) H2
theorem pe_tupA {es : List Expr} {t : TA} {k : Nat} {pos : Pos} (h : PA X es t) : PE X (.Tuple es k pos) (tTupA t) := PE_imp (pe_tup (PA_up h)) fun σ H Q q => ⟨_, q, fun xs H1 ⟨a, b⟩ => ⟨a, fun p n => b p _ n (Same.new n) upd_same⟩⟩
def tLstA (t : TA) : TE := fun σ H Q => t σ H fun xs H1 => xs.length ≤ sizeLine ∧ ∀ p H2, H1 p = none → Same H1 H2 → H2 p = some (.lst xs) → Q (.ref p) H2
theorem pe_lstA {es : List Expr} {t : TA} {pos : Pos} (h : PA X es t) : PE X (.List es pos) (tLstA t) := PE_imp (pe_lst (PA_up h)) fun σ H Q q => ⟨_, q, fun xs H1 ⟨a, b⟩ => ⟨a, fun p n => b p _ n (Same.new n) upd_same⟩⟩
def tNewTA : TE := fun _ H Q => ∀ p H2, H p = none → Same H H2 → H2 p = some (.dT []) → Q (.ref p) H2
theorem pe_dnewTA {pos : Pos} : PE X (.Dict [] [] pos) tNewTA := PE_imp pe_dnewT fun σ H Q q p n => q p _ n (Same.new n) upd_same
def tNewKA : TE := fun _ H Q => ∀ p H2, H p = none → Same H H2 → H2 p = some (.dK []) → Q (.ref p) H2
theorem pe_dnewKA {pos : Pos} : PE X (.Dict [] [] pos) tNewKA := PE_imp pe_dnewK fun σ H Q q p n => q p _ n (Same.new n) upd_same
/-- t[lo:hi], t a tuple -/
def rSlB : V → Option Int → Option Int → Hp → VK → Prop := fun x lo hi H Q => ∃ a xs, x = .ref a ∧ Rd H a (.tup xs) ∧ ∀ q H2, Same H H2 → Rd H2 q (.tup (cutV xs lo hi)) → Q (.ref q) H2
theorem cut_whole {xs : List V} {lo hi : Option Int} (h : HT.sIx xs.length 0 lo = 0 ∧ HT.sIx xs.length xs.length hi = xs.length) : cutV xs lo hi = xs := by
  unfold cutV
  rw [h.1, h.2]
  simp
theorem sl_tupB : SlR X rSlB := by
  intro pins s σ H x v vl vu lo hi sl Q I rx hs pl pu h
  obtain ⟨a, xs, rfl, ha, q⟩ := h
  exact sl_tupA pins s σ H (.ref a) v vl vu lo hi sl Q I rx hs pl pu ⟨a, xs, rfl, .inl ha, fun z => q a H (Same.refl H) (by rw [cut_whole z]; exact ha), fun _ p n => q p _ (Same.new n) (.inl upd_same)⟩
/-- list(a), tuple(a) of a list or a tuple -/
theorem call_listA : CallR X (.type "list") (fun xs H Q => ∃ p ys, xs = [.ref p] ∧ (Rd H p (.lst ys) ∨ Rd H p (.tup ys)) ∧ ∀ l H2, H l = none → Same H H2 → H2 l = some (.lst ys) → Q (.ref l) H2) := fun pins s σ H xs us Q I r h => by
  obtain ⟨p, ys, e, hp, q⟩ := h
  exact call_list_of pins s σ H xs us Q I r ⟨p, ys, e, hp.imp (fun z => .inl z) (fun z => .inl z), fun l n => q l _ n (Same.new n) upd_same⟩
theorem call_tupleA : CallR X (.type "tuple") (fun xs H Q => ∃ p ys, xs = [.ref p] ∧ ((Rd H p (.lst ys) ∧ ∀ l H2, Same H H2 → H2 l = some (.tup ys) → Q (.ref l) H2) ∨ (Rd H p (.tup ys) ∧ Q (.ref p) H))) := fun pins s σ H xs us Q I r h => by
  obtain ⟨p, ys, e, h⟩ := h
  rcases h with ⟨hp, q⟩ | ⟨hp, q⟩
  · exact call_tuple_of pins s σ H xs us Q I r ⟨p, ys, e, .inl ⟨.inl hp, fun l n => q l _ (Same.new n) upd_same⟩⟩
  · exact call_tuple_of pins s σ H xs us Q I r ⟨p, ys, e, .inr ⟨.inl hp, q⟩⟩
/-- two tuples, joined -/
theorem op_catB : OpR X (binaryOp .Add) (fun x y H Q => ∃ a b xs ys, x = .ref a ∧ y = .ref b ∧ Rd H a (.tup xs) ∧ Rd H b (.tup ys) ∧ xs.length + ys.length ≤ sizeLine ∧ ∀ p H2, Same H H2 → Rd H2 p (.tup (xs ++ ys)) → Q (.ref p) H2) := fun pins s σ H x y v u Q I rx ry h => by
  obtain ⟨a, b, xs, ys, e1, e2, ha, hb, hz, q⟩ := h
  exact op_catA pins s σ H x y v u Q I rx ry ⟨a, b, xs, ys, e1, e2, .inl ha, .inl hb, hz, fun z => q b H (Same.refl H) (by rw [z]; exact hb), fun _ z => q a H (Same.refl H) (by rw [z, List.append_nil]; exact ha), fun _ _ p n => q p _ (Same.new n) (.inl upd_same)⟩
/-- a tuple's display that is known to hold no dict -/
def tTupD (t : TA) : TE := fun σ H Q => t σ H fun xs H1 => xs.length ≤ sizeLine ∧ ∀ p o H2, H1 p = none → Same H1 H2 → o.dict = none → o.cls = .type "tuple" → H2 p = some (.frz o (.tup xs)) → Q (.ref p) H2
theorem pe_tupD {es : List Expr} {t : TA} {k : Nat} {pos : Pos} (h : PA X es t) : PE X (.Tuple es k pos) (tTupD t) := by
  refine ⟨fun pins s σ H Q I hq => ?_⟩
  refine wpAny_Tuple_spliced (thn (h.run pos pins s σ H _ I hq) fun us s1 ⟨xs, H1, I1, r, z, q⟩ => ⟨by rw [← r.length]; exact z, ?_⟩)
  have hf : H1 s1.heap.objs.size = none := I1.hok.fresh (Nat.le_refl _)
  refine ⟨.ref s1.heap.objs.size, upd H1 s1.heap.objs.size (.frz { cls := .type "tuple", data := .seq us.toArray } (.tup xs)), I1.laid (t' := s1.toks) (fun b u e => Heap.get?_push_of_some _ e) (Nat.le_refl _) ?_, rfl, q _ _ _ hf (Same.new hf) rfl rfl upd_same⟩
  exact ⟨Heap.get?_push_size _ rfl, z, us, r, IsTup.new _ _⟩
/-- t.index(x) and such: t a tuple that holds no dict -/
def tyTup (x : V) (H : Hp) : Prop := ∃ p o xs, x = .ref p ∧ H p = some (.frz o (.tup xs)) ∧ o.dict = none ∧ o.cls = .type "tuple"
theorem ty_tup : TyOk X "tuple" tyTup := by
  intro pins σ H s x v I r ty
  obtain ⟨p, o, xs, rfl, hp, hd, hc⟩ := ty
  cases r
  obtain ⟨h1, _⟩ := (show ObjOk X.prog X.w H s.heap p (.frz o (.tup xs)) from I.hok p _ hp)
  refine ⟨⟨o, h1, hc⟩, fun b e => ?_⟩
  cases e
  exact ⟨o, h1, hd⟩
/-! comprehensions: what grows is a letter -/
/-- what never changes -/
inductive Imm : HO → Prop
  | tup (xs : List V) : Imm (.tup xs)
  | frz (o : Obj) (xs : List V) : Imm (.frz o (.tup xs))
/-- the tuples stand -/
def Ext (H H' : Hp) : Prop := ∀ (b : Addr) (u : HO), H b = some u → Imm u → H' b = some u
theorem Same.ext {H H' : Hp} (e : Same H H') : Ext H H' := fun b xs h _ => e b _ h
theorem Ext.refl (H : Hp) : Ext H H := fun _ _ h _ => h
theorem Ext.trans {H H1 H2 : Hp} (a : Ext H H1) (b : Ext H1 H2) : Ext H H2 := fun x u h i => b x u (a x u h i) i
theorem Ext.put {H : Hp} {l : Addr} {o u : HO} (hl : H l = some u) (hu : ¬ Imm u := by intro h; cases h) : Ext H (upd H l o) := fun b x h i => at_ne h fun e => hu (by rw [e, hl] at h; cases h; exact i)
theorem Rd.ext {H H' : Hp} (e : Ext H H') {p : Addr} {xs : List V} (h : Rd H p (.tup xs)) : Rd H' p (.tup xs) := h.elim (fun z => .inl (e _ _ z (.tup _))) fun ⟨o, z⟩ => .inr ⟨o, e _ _ z (.frz _ _)⟩
theorem Tu.ext {H H' : Hp} (e : Ext H H') {p : Addr} {ns : List Int} (h : Tu H p ns) : Tu H' p ns := Rd.ext e h
theorem TuX.ext {H H' : Hp} (e : Ext H H') {p : Addr} {ns : List Int} (h : TuX H p ns) : TuX H' p ns := e _ _ h (.tup _)
theorem TuD.ext {H H' : Hp} (e : Ext H H') {p : Addr} {ns : List Int} (h : TuD H p ns) : TuD H' p ns := let ⟨o, h1, h2⟩ := h; ⟨o, e _ _ h1 (.frz _ _), h2⟩
theorem Tus.ext {H H' : Hp} (e : Ext H H') : ∀ {ps : List Addr} {nss : List (List Int)}, Tus H ps nss → Tus H' ps nss
  | _, _, .nil => .nil
  | _, _, .cons h t => .cons (h.ext e) (Tus.ext e t)
theorem Paired_mono {α β : Type} {F G : α → β → Prop} (h : ∀ a b, F a b → G a b) : ∀ {xs : List α} {ys : List β}, Paired F xs ys → Paired G xs ys
  | _, _, .nil => .nil
  | _, _, .cons a t => .cons (h _ _ a) (Paired_mono h t)
theorem Paired_app {α β : Type} {F : α → β → Prop} : ∀ {xs xs' : List α} {ys ys' : List β}, Paired F xs ys → Paired F xs' ys' → Paired F (xs ++ xs') (ys ++ ys')
  | _, _, _, _, .nil, h => h
  | _, _, _, _, .cons a t, h => .cons a (Paired_app t h)
theorem Paired_len {α β : Type} {F : α → β → Prop} : ∀ {xs : List α} {ys : List β}, Paired F xs ys → xs.length = ys.length
  | _, _, .nil => rfl
  | _, _, .cons a t => congrArg Nat.succ (Paired_len t)
theorem Paired_map {α β γ : Type} {F : α → β → Prop} {f : γ → α} : ∀ {xs : List γ} {ys : List β}, Paired (fun a b => F (f a) b) xs ys → Paired F (xs.map f) ys
  | _, _, .nil => .nil
  | _, _, .cons a t => .cons a (Paired_map t)
theorem Paired_eq {α β : Type} {f : α → β} : ∀ {xs : List α} {ys : List β}, Paired (fun a b => b = f a) xs ys → ys = xs.map f
  | _, _, .nil => rfl
  | _, _, .cons a t => by rw [a, Paired_eq t]; rfl
/-- one turn of a comprehension -/
def tTurn {δ : Type} (g : TG) (tt : L2.TT) (te : TE) (vs : List Nat) (keep : δ → Bool) (Rel : δ → V → Hp → Prop) (d : δ) (x : V) (σ : L2.St) (H2 H3 : Hp) : Prop :=
  g x (wipe σ vs) H3 fun σ2 H4 => wipe σ2 vs = wipe σ vs ∧ tt σ2 H4 fun b H5 => b = keep d ∧ if b = true then te σ2 H5 fun y H6 => Same H2 H6 ∧ Rel d y H6 else Same H2 H5
/-- [e for .. in .. if ..]: ds stands for what is walked; the list behind is a letter -/
def tLcA (wi : L2.TI) (g : TG) (tt : L2.TT) (te : TE) (vs : List Nat) : TE := fun σ H Q => wi σ H fun J H1 =>
  ∃ (δ : Type) (ds : List δ) (keep : δ → Bool) (Rel : δ → V → Hp → Prop) (G : Hp → Prop) (Y : Nat → Hp → V → Hp → Prop), Walk J ds.length G Y ∧ ds.length < sizeLine ∧ (∀ H', Same H1 H' → G H') ∧ (∀ d y H' H'', Ext H' H'' → Rel d y H' → Rel d y H'') ∧
    (∀ i d x H2 H3, ds[i]? = some d → Same H1 H2 → Y i H2 x H3 → tTurn g tt te vs keep Rel d x σ H2 H3) ∧
    ∀ D ys H7, H1 D = none → Same H1 H7 → H7 D = some (.lst ys) → Paired (fun d y => Rel d y H7) (ds.filter keep) ys → Q (.ref D) H7
theorem take_filter_succ {δ : Type} {ds : List δ} {i : Nat} {d : δ} (keep : δ → Bool) (h : ds[i]? = some d) : (ds.take (i + 1)).filter keep = (ds.take i).filter keep ++ if keep d = true then [d] else [] := by
  rw [List.take_succ, h, List.filter_append]
  congr 1
  cases hk : keep d <;> simp [hk]
theorem lcA {wi : L2.TI} {g : TG} {tt : L2.TT} {te : TE} {vs : List Nat} {σ : L2.St} {H : Hp} {Q : VK} (h : tLcA wi g tt te vs σ H Q) : tLc (upI wi) (upG g) (upT tt) (upE te) vs σ H Q := by
  refine ⟨_, h, fun J H1 hJ D hD => ?_⟩
  obtain ⟨δ, ds, keep, Rel, G, Y, w, hz, hG, hst, step, fin⟩ := hJ
  refine lc_it w (fun i H' => Same H1 H' ∧ ∃ ys, H' D = some (.lst ys) ∧ Paired (fun d y => Rel d y H') ((ds.take i).filter keep) ys) ⟨Same.new hD, [], upd_same, .nil⟩ (fun i H' _ ⟨e, _⟩ => hG H' e) ?_ ?_
  · rintro i x H2 H3 hi ⟨e, ys, hys, hp⟩ hy
    obtain ⟨d, hd⟩ : ∃ d, ds[i]? = some d := ⟨ds[i], by simp [hi]⟩
    have hl : ys.length < sizeLine := by
      rw [← Paired_len hp]
      exact Nat.lt_of_le_of_lt (Nat.le_trans (List.length_filter_le _ _) (by rw [List.length_take]; omega)) hz
    refine ⟨_, step i d x H2 H3 hd e hy, fun σ' H4 ⟨hw, q⟩ => ⟨hw, _, q, fun b H5 ⟨hb, q⟩ => ?_⟩⟩
    cases hk : keep d with
    | true =>
      rw [hk] at hb
      subst hb
      rw [if_pos rfl] at q ⊢
      refine ⟨_, q, fun y H6 ⟨e6, r⟩ => ⟨ys, e6 _ _ hys, hl, Same.mut (e.trans e6) hD, ys ++ [y], upd_same, ?_⟩⟩
      rw [take_filter_succ keep hd, hk, if_pos rfl]
      have ex : Ext H6 (upd H6 D (.lst (ys ++ [y]))) := Ext.put (e6 _ _ hys)
      exact Paired_app (Paired_mono (fun a b z => hst a b _ _ ((Same.ext e6).trans ex) z) hp) (.cons (hst _ _ _ _ ex r) .nil)
    | false =>
      rw [hk] at hb
      subst hb
      rw [if_neg (by simp)] at q ⊢
      refine ⟨e.trans q, ys, q _ _ hys, ?_⟩
      rw [take_filter_succ keep hd, hk, if_neg (by simp), List.append_nil]
      exact Paired_mono (fun a b z => hst a b _ _ (Same.ext q) z) hp
  · rintro H7 ⟨e, ys, hys, hp⟩
    rw [List.take_length] at hp
    exact fin D ys H7 hD e hys hp
theorem pe_lcA {elt tg iter : Expr} {ifs : List Expr} {scope : Scope} {own : List (Str × Nat)} {pos : Pos} {wi : L2.TI} {g : TG} {tt : L2.TT} {te : TE} (hc : X.calm = true) (hN : X.N.Nodup) (hi : PI X tg iter wi) (ok : BlkOk X.N X.env.scope scope own)
    (hg : InBlk X scope fun B => PG B tg g) (ht : InBlk X scope fun B => PTs B ifs tt) (he : InBlk X scope fun B => PE B elt te) (hs : ∀ x, foldedSetIterable iter X.env x = pure x := by intro _; rfl) :
    PE X (.ListComp elt [⟨tg, iter, ifs, 0⟩] scope pos) (tLcA wi g tt te (own.map (·.2))) :=
  PE_imp (pe_lc hc hN (PI_up hi) ok (fun s H C cl fp => PG_up (hg s H C cl fp)) (fun s H C cl fp => PTs_up (ht s H C cl fp)) (fun s H C cl fp => PE_up (he s H C cl fp)) hs) fun _ _ _ h => lcA h
theorem ps_setLcA {i : Nat} {y : Str} {py : Pos} {elt tg iter : Expr} {ifs : List Expr} {scope : Scope} {own : List (Str × Nat)} {pos spos : Pos} {wi : L2.TI} {g : TG} {tt : L2.TT} {te : TE} (hc : X.calm = true) (hN : X.N.Nodup) (hy : X.N[i]? = some y) (hyl : X.env.scope.names.lookup y = some .local)
    (hsw : swapsWith (.ListComp elt [⟨tg, iter, ifs, 0⟩] scope pos) (some (.Name y py)) spos.line X.env = pure true) (hi : PI X tg iter wi) (ok : BlkOk X.N X.env.scope scope own)
    (hg : InBlk X scope fun B => PG B tg g) (ht : InBlk X scope fun B => PTs B ifs tt) (he : InBlk X scope fun B => PE B elt te) (hs : ∀ x, foldedSetIterable iter X.env x = pure x := by intro _; rfl) :
    L2.PS X (.Assign [.Name y py] (.ListComp elt [⟨tg, iter, ifs, 0⟩] scope pos) spos) (tAsg (tLcA wi g tt te (own.map (·.2))) (gName i)) :=
  PS_imp (ps_setLc hc hN hy hyl hsw (PI_up hi) ok (fun s H C cl fp => PG_up (hg s H C cl fp)) (fun s H C cl fp => PTs_up (ht s H C cl fp)) (fun s H C cl fp => PE_up (he s H C cl fp)) hs) fun D σ H h => lcA h
end
end MF
end
section
set_option Elab.async false
set_option linter.all false
set_option maxRecDepth 100000
set_option maxHeartbeats 4000000
namespace MF
open PySem PySem.Spec PyProof.Rows L2
section
variable {P : Program} {w : World} {K : PySem.W.Frag} {mg : Str → Option Value} {base : Heap}
theorem ways_snoc (ls : List Land) (l : Land) : ways (ls ++ [l]) = ways ls ++ ways1 l := by simp [ways]
theorem ways_app (xs ys : List Land) : ways (xs ++ ys) = ways xs ++ ways ys := by simp [ways]
theorem ways_length (ls : List Land) : (ways ls).length = 3 * ls.length := by
  induction ls with
  | nil => rfl
  | cons l ls ih =>
    rw [show ways (l :: ls) = ways1 l ++ ways ls from rfl, List.length_append, ih, List.length_cons]
    show 3 + 3 * ls.length = _
    omega
theorem cut_at {α : Type} {ls : List α} {i : Nat} {l : α} (h : ls[i]? = some l) : ls = ls.take i ++ l :: ls.drop (i + 1) := by
  obtain ⟨hi, e⟩ := List.getElem?_eq_some_iff.mp h
  rw [← e, ← List.drop_eq_getElem_cons hi, List.take_append_drop]
theorem ways_cut {ls : List Land} {i : Nat} {l : Land} (h : ls[i]? = some l) : ways ls = ways (ls.take i) ++ (ways1 l ++ ways (ls.drop (i + 1))) := by
  conv => lhs; rw [cut_at h]
  rw [ways_app]
  rfl
theorem pre_fresh {W A B : List Land} {a b c : Int} (h : (W.map key).Nodup) (e : W = A ++ (a, b, c) :: B) : third A a b = none := by
  rw [e, List.map_append, List.nodup_append] at h
  refine third_none.mpr fun d hd => ?_
  exact h.2.2 (a, b) (key_mem.mpr ⟨d, hd⟩) (a, b) (by simp [key]) rfl
theorem nat_idx {n : Nat} {i : Int} (h : i = (n : Int)) : i = (n : Int) := h
/-- a land's items -/
theorem l3_at0 (l : Land) : atI ((l3 l).map V.int) 0 = some (.int l.1) := by rfl
theorem l3_at1 (l : Land) : atI ((l3 l).map V.int) 1 = some (.int l.2.1) := by rfl
theorem l3_at2 (l : Land) : atI ((l3 l).map V.int) 2 = some (.int l.2.2) := by rfl
theorem nw1 : ¬ (HT.sIx 3 0 (some 1) = 0 ∧ HT.sIx 3 3 none = 3) := by decide
theorem nw2 : ¬ (HT.sIx 3 0 none = 0 ∧ HT.sIx 3 3 (some 2) = 3) := by decide
theorem cut1 (a b c : V) : cutV [a, b, c] (some 1) none = [b, c] := by rfl
theorem cut2 (a b c : V) : cutV [a, b, c] none (some 2) = [a, b] := by rfl
theorem s2 : 2 ≤ sizeLine := by decide
theorem s3 : 3 ≤ sizeLine := by decide
theorem scWaysIn : FnScope ["lands", "found", "land", "one", "other", "third"] ["lands"] (defScope sWaysIn) := ⟨rfl, rfl, rfl, by decide +kernel, rfl, by decide +kernel, by decide +kernel⟩
def spWaysIn : Sp := fun vs H Q _ => ∃ (l : Addr) (ls : List Land), vs = [.ref l] ∧ LsT H l (ls.map l3) ∧ ((ways ls).map key).Nodup ∧ ls.length ≤ 1000 ∧ ∀ H' d, Same H H' → H d = none → WD H' d (ways ls) → Q (.ref d) H'
theorem ok_waysIn (T : Tx K mg) : FnOk P w K mg base CX0 1 T.waysIn.f T.waysIn.fd ["lands"] spWaysIn := by
  refine okN T.waysIn.F scWaysIn (fun vs H Q E h => ?_) (fun cdv A outer s H vs Q E hr h => ?_)
  · obtain ⟨l, ls, rfl, _⟩ := h
    rfl
  · obtain ⟨l, ls, rfl, ⟨ps, hl, ht⟩, hnd, hlen, q⟩ := h
    have hu := hu_of hr
    refine ⟨_, pss_cons (ps_set (i := 1) scWaysIn.nd rfl (.inl rfl) pe_dnewTA)
      (pss_cons (ps_for PassesOwn.never rfl (pi_list (pv 0)) (pg_name (i := 2) scWaysIn.nd rfl (.inl rfl))
        (pss_one (ps_for PassesOwn.never rfl (pi_tup (pe_tupA (pa_cons (pv 2) (pa_cons (pe_tupA (StX.pa_star (pe_slice sl_tupB (pv 2) (po_some pe_int) po_none) (pa_cons (pe_ix ix_tup (pv 2) pe_int (fun _ _ => rfl)) pa_nil)))
            (pa_cons (pe_tupA (pa_cons (pe_ix ix_tup (pv 2) pe_int (fun _ _ => rfl)) (StX.pa_star (pe_slice sl_tupB (pv 2) po_none (po_some pe_int)) pa_nil))) pa_nil)))))
          (pg_tup rfl (pgs_cons (pg_name (i := 3) scWaysIn.nd rfl (.inl rfl)) (pgs_cons (pg_name (i := 4) scWaysIn.nd rfl (.inl rfl)) (pgs_cons (pg_name (i := 5) scWaysIn.nd rfl (.inl rfl)) pgs_nil))))
          (pss_cons (ps_if (pt_cmp (pc_din hu (pe_tupA (pa_cons (pv 3) (pa_cons (pv 4) pa_nil))) (pv 1))) (pss_one (ps_ret pe_non)) pss_nil)
            (pss_one (ps_dput hu (pv 1) (pe_tupA (pa_cons (pv 3) (pa_cons (pv 4) pa_nil))) (pv 5) rfl))))))
      (pss_one (ps_ret (pv 1)))), ?_⟩
    intro d Hd nd ed hd0
    refine ⟨_, rfl, l, rfl, ⟨_, .inl (.inl (ed _ _ hl))⟩, ?_⟩
    refine for_list (K := K) (a := l) (xs := ps.map V.ref) (fun i σ H' => ∃ y2 y3 y4 y5, σ = [some (.ref l), some (.ref d), y2, y3, y4, y5] ∧ Same H H' ∧ WD H' d (ways (ls.take i))) ⟨none, none, none, none, rfl, ed, hd0⟩ (fun i σ H' _ ⟨_, _, _, _, _, e, _⟩ => .inl (.inl (e _ _ hl))) ?_ ?_
    · rintro i y σ H' hi ⟨y2, y3, y4, y5, rfl, e, hd⟩
      obtain ⟨p, el, hp⟩ : ∃ p l', y = .ref p ∧ ls[i]? = some l' ∧ Tu H p (l3 l') := by
        rw [List.getElem?_map] at hi
        obtain ⟨p, hp, rfl⟩ := Option.map_eq_some_iff.mp hi
        obtain ⟨ns, hns, tu⟩ := paired_get ht hp
        rw [List.getElem?_map] at hns
        obtain ⟨l', hl', rfl⟩ := Option.map_eq_some_iff.mp hns
        exact ⟨p, l', rfl, hl', tu⟩
      obtain ⟨rfl, hli, tu⟩ := hp
      obtain ⟨a, b, c⟩ := el
      have tu' : Tu H' p [a, b, c] := tu.mono e
      refine ⟨.ref p, rfl, .ref p, rfl, 1, rfl, p, _, rfl, tu', fun p1 H1 e1 h1 => ?_⟩
      refine ⟨p1, _, rfl, .inl (.inl h1), .ref p, rfl, p, _, 0, .int a, rfl, rfl, (tu'.mono e1).sq, rfl, s3, fun p2 H2 n2 e2 h2 => ?_⟩
      have e12 := e1.trans e2
      refine ⟨.ref p, rfl, p, _, 2, .int c, rfl, rfl, (tu'.mono e12).sq, rfl, .ref p, rfl, 2, rfl, p, _, rfl, tu'.mono e12, fun p3 H3 e3 h3 => ?_⟩
      refine ⟨p3, _, rfl, .inl (.inl h3), s3, fun p4 H4 n4 e4 h4 => ⟨s3, fun t H5 n5 e5 h5 => ?_⟩⟩
      have e05 : Same H' H5 := (e12.trans e3).trans (e4.trans e5)
      have t1 : Tu H5 p [a, b, c] := tu'.mono e05
      have t2 : Tu H5 p2 [b, c, a] := .inl (e5 _ _ (e4 _ _ (e3 _ _ h2)))
      have t3 : Tu H5 p4 [c, a, b] := .inl (e5 _ _ h4)
      refine ⟨t, rfl, ⟨_, .inl (.inl h5)⟩, ?_⟩
      refine for_tup (K := K) (a := t) (xs := [.ref p, .ref p2, .ref p4]) (fun j σ H6 => ∃ y3 y4 y5, σ = [some (.ref l), some (.ref d), some (.ref p), y3, y4, y5] ∧ Same H H6 ∧ Ext H5 H6 ∧ WD H6 d (ways (ls.take i) ++ (ways1 (a, b, c)).take j))
        ⟨y3, y4, y5, rfl, e.trans e05, Ext.refl _, ?_⟩ (fun j σ H6 _ ⟨_, _, _, _, _, ex, _⟩ => .inl (.inl (ex _ _ h5 (.tup _)))) ?_ ?_
      · simpa using (show WD H5 d (ways (ls.take i)) from e05 _ _ hd)
      · rintro j y σ H6 hj ⟨y3, y4, y5, rfl, e6, ex, hd6⟩
        obtain ⟨r, u, v, z, rfl, hw, tr⟩ : ∃ r u v z, y = .ref r ∧ (ways1 (a, b, c))[j]? = some (u, v, z) ∧ Tu H5 r [u, v, z] := by
          match j, hj with
          | 0, hj => cases hj; exact ⟨p, a, b, c, rfl, rfl, t1⟩
          | 1, hj => cases hj; exact ⟨p2, b, c, a, rfl, rfl, t2⟩
          | 2, hj => cases hj; exact ⟨p4, c, a, b, rfl, rfl, t3⟩
        have hlw : ways ls = (ways (ls.take i) ++ (ways1 (a, b, c)).take j) ++ (u, v, z) :: ((ways1 (a, b, c)).drop (j + 1) ++ ways (ls.drop (i + 1))) := by
          rw [ways_cut hli]
          conv => lhs; rw [cut_at hw]
          simp only [List.append_assoc, List.cons_append]
        have hnone := pre_fresh hnd hlw
        have hlen6 : (ways (ls.take i) ++ (ways1 (a, b, c)).take j).length < sizeLine := by
          have := congrArg List.length hlw
          rw [ways_length, List.length_append] at this
          simp only [List.length_cons] at this
          exact sz_lt (by omega)
        refine ⟨r, _, rfl, (tr.ext ex).sq, rfl, _, _, rfl, _, _, rfl, _, _, rfl, rfl, ?_⟩
        refine ⟨_, rfl, _, rfl, s2, fun p7 H7 n7 e7 h7 => ⟨_, rfl, d, none, rfl, ?_, false, rfl, iteF ?_⟩⟩
        · have := WD.get (W := ways (ls.take i) ++ (ways1 (a, b, c)).take j) (show WD H7 d _ from e7 _ _ hd6) h7
          rw [hnone] at this
          exact this
        · refine ⟨_, rfl, _, rfl, _, rfl, _, rfl, s2, fun p8 H8 n8 e8 h8 => ⟨d, _, rfl, WD.put (c := z) (show WD H8 d _ from e8 _ _ (e7 _ _ hd6)) h8 hnone hlen6, ?_⟩⟩
          have h68 : Same H6 H8 := Same.trans e7 e8
          refine ⟨_, _, _, rfl, Same.mut (e6.trans h68) nd, ex.trans ((Same.ext h68).trans (Ext.put (h68 _ _ hd6))), ?_⟩
          show upd H8 d _ d = _
          rw [upd_same, List.take_succ, hw, ← List.append_assoc]
          rfl
      · rintro σ H6 ⟨y3, y4, y5, rfl, e6, ex, hd6⟩
        refine ⟨_, _, _, _, rfl, e6, ?_⟩
        rw [List.take_succ, hli]
        show WD H6 d (ways (ls.take i ++ [(a, b, c)]))
        rw [ways_snoc]
        exact hd6
    · rintro σ H' ⟨y2, y3, y4, y5, rfl, e, hd⟩
      refine ⟨_, rfl, q H' d e nd ?_⟩
      have hz : ls.take (ps.map V.ref).length = ls := List.take_of_length_le (by rw [List.length_map, ht.length, List.length_map]; exact Nat.le_refl _)
      rw [hz] at hd
      exact hd
end
end MF
end
section
set_option Elab.async false
set_option linter.all false
set_option maxRecDepth 100000
set_option maxHeartbeats 4000000
namespace MF
open PySem PySem.Spec PyProof.Rows L2
/-! dict comprehensions over any walk -/
section
variable {J : It} {n : Nat} {G : Hp → Prop} {Y : Nat → Hp → V → Hp → Prop}
theorem dcT_it (w : Walk J n G Y) {g : TG} {tt : L2.TT} {tk tv : TE} {vs : List Nat} {σ : L2.St} {H1 : Hp} {D : Addr} {Qd : Hp → Prop} (Pv : Nat → Hp → Prop) (h0 : Pv 0 (upd H1 D (.dT []))) (hG : ∀ i H, i ≤ n → Pv i H → G H)
    (hs : ∀ i x H H', i < n → Pv i H → Y i H x H' → g x (wipe σ vs) H' fun σ2 H2 => wipe σ2 vs = wipe σ vs ∧ tt σ2 H2 fun b H3 =>
      if b = true then tk σ2 H3 fun y H4 => tv σ2 H4 fun z H5 => ∃ kvs k c, y = .ref c ∧ H5 c = some (.tup (k.map kV)) ∧ H5 D = some (.dT kvs) ∧ kvs.length < sizeLine ∧ Pv (i + 1) (upd H5 D (.dT (putK kvs k z))) else Pv (i + 1) H3) (hd : ∀ H, Pv n H → Qd H) :
    ∃ W : Nat → Nat → Hp → Prop, (∃ m, W 0 m (upd H1 D (.dT []))) ∧ ∀ i m H, W i m H →
      (J.stop i H ∧ Qd H) ∨ (J.go i H ∧ ∃ Nx : Hp → Prop, (∀ H', Nx H' → ∃ m', m' < m ∧ W (i + 1) m' H') ∧ ∀ x H', J.yld i H x H' → g x (wipe σ vs) H' fun σ2 H2 => wipe σ2 vs = wipe σ vs ∧ tt σ2 H2 fun b H3 =>
        if b = true then tk σ2 H3 fun y H4 => tv σ2 H4 fun z H5 => ∃ kvs k c, y = .ref c ∧ H5 c = some (.tup (k.map kV)) ∧ H5 D = some (.dT kvs) ∧ kvs.length < sizeLine ∧ Nx (upd H5 D (.dT (putK kvs k z))) else Nx H3) := by
  refine ⟨fun i m H => m = n - i ∧ i ≤ n ∧ Pv i H, ⟨n, by simp, Nat.zero_le _, h0⟩, ?_⟩
  rintro i m H ⟨rfl, hi, p⟩
  rcases Nat.lt_or_eq_of_le hi with hlt | rfl
  · exact .inr ⟨w.goes i H hlt (hG i H hi p), Pv (i + 1), fun H' p' => ⟨n - (i + 1), by omega, rfl, hlt, p'⟩, fun x H' y => hs i x H H' hlt p (w.yields i H x H' hlt (hG i H hi p) y)⟩
  · exact .inl ⟨w.stops H (hG _ H hi p), hd H p⟩
theorem dcK_it (w : Walk J n G Y) {g : TG} {tt : L2.TT} {tk tv : TE} {vs : List Nat} {σ : L2.St} {H1 : Hp} {D : Addr} {Qd : Hp → Prop} (Pv : Nat → Hp → Prop) (h0 : Pv 0 (upd H1 D (.dK []))) (hG : ∀ i H, i ≤ n → Pv i H → G H)
    (hs : ∀ i x H H', i < n → Pv i H → Y i H x H' → g x (wipe σ vs) H' fun σ2 H2 => wipe σ2 vs = wipe σ vs ∧ tt σ2 H2 fun b H3 =>
      if b = true then tk σ2 H3 fun y H4 => tv σ2 H4 fun z H5 => ∃ kvs k, y = kV k ∧ H5 D = some (.dK kvs) ∧ kvs.length < sizeLine ∧ Pv (i + 1) (upd H5 D (.dK (putK kvs k z))) else Pv (i + 1) H3) (hd : ∀ H, Pv n H → Qd H) :
    ∃ W : Nat → Nat → Hp → Prop, (∃ m, W 0 m (upd H1 D (.dK []))) ∧ ∀ i m H, W i m H →
      (J.stop i H ∧ Qd H) ∨ (J.go i H ∧ ∃ Nx : Hp → Prop, (∀ H', Nx H' → ∃ m', m' < m ∧ W (i + 1) m' H') ∧ ∀ x H', J.yld i H x H' → g x (wipe σ vs) H' fun σ2 H2 => wipe σ2 vs = wipe σ vs ∧ tt σ2 H2 fun b H3 =>
        if b = true then tk σ2 H3 fun y H4 => tv σ2 H4 fun z H5 => ∃ kvs k, y = kV k ∧ H5 D = some (.dK kvs) ∧ kvs.length < sizeLine ∧ Nx (upd H5 D (.dK (putK kvs k z))) else Nx H3) := by
  refine ⟨fun i m H => m = n - i ∧ i ≤ n ∧ Pv i H, ⟨n, by simp, Nat.zero_le _, h0⟩, ?_⟩
  rintro i m H ⟨rfl, hi, p⟩
  rcases Nat.lt_or_eq_of_le hi with hlt | rfl
  · exact .inr ⟨w.goes i H hlt (hG i H hi p), Pv (i + 1), fun H' p' => ⟨n - (i + 1), by omega, rfl, hlt, p'⟩, fun x H' y => hs i x H H' hlt p (w.yields i H x H' hlt (hG i H hi p) y)⟩
  · exact .inl ⟨w.stops H (hG _ H hi p), hd H p⟩
end
/-! keys in the order they came -/
theorem putK_keys {κ : Type} [DecidableEq κ] (kvs : List (κ × V)) (k : κ) (v : V) : (putK kvs k v).map (·.1) = if k ∈ kvs.map (·.1) then kvs.map (·.1) else kvs.map (·.1) ++ [k] := by
  cases h : valV kvs k with
  | none => rw [if_neg (valV_not h), putK_new v h, List.map_append]; rfl
  | some x =>
    rw [if_pos (valV_in h)]
    unfold putK
    rw [valV_any, h]
    simp only [Option.isSome_some, if_true, List.map_map]
    refine List.map_congr_left fun kv _ => ?_
    by_cases e : kv.1 = k <;> simp [e]
/-! heaps locked for a walk -/
theorem Same.locked {H H' : Hp} {d : Addr} {u : HO} {o : Obj} (h : H d = some u) (e : Same (upd H d (.frz o u)) H') : Same H (upd H' d u) := fun b x hb => by
  by_cases z : b = d
  · subst z
    rw [h] at hb
    rw [← hb]
    exact upd_same
  · rw [upd_ne z]
    exact e b x ((upd_ne z).trans hb)
theorem Ext.lock {H : Hp} {d : Addr} {u o : HO} (h : H d = some u) (hu : ¬ Imm u := by intro h; cases h) : Ext H (upd H d o) := Ext.put h hu
/-! the ways, to be read -/
def WR (H : Hp) (d : Addr) (W : List Land) : Prop := Rd H d (.dT (wkv W))
theorem WD.rd {H : Hp} {d : Addr} {W : List Land} (h : WD H d W) : WR H d W := .inl h
theorem WR.mono {H H' : Hp} {d : Addr} {W : List Land} (e : Same H H') (h : WR H d W) : WR H' d W := by
  rcases h with h | ⟨o, h⟩
  · exact .inl (e _ _ h)
  · exact .inr ⟨o, e _ _ h⟩
theorem WD.mono {H H' : Hp} {d : Addr} {W : List Land} (e : Same H H') (h : WD H d W) : WD H' d W := e _ _ h
theorem WR.get {H : Hp} {d p : Addr} {W : List Land} {a b : Int} (h : WR H d W) (hp : TuX H p [a, b]) : DGet H d (.ref p) ((third W a b).map V.int) := by
  rw [← valV_wkv]
  exact .inr ⟨_, _, _, h, rfl, hp.key, rfl⟩
theorem WR.isD {H : Hp} {d : Addr} {W : List Land} (h : WR H d W) : IsD H d := .inr ⟨_, h⟩
/-! dicts with ints as keys -/
def iK (l : List (Int × V)) : List (Key × V) := l.map fun p => (.inl p.1, p.2)
theorem iK_keys (l : List (Int × V)) : (iK l).map (·.1) = (l.map (·.1)).map Sum.inl := by
  unfold iK
  rw [List.map_map, List.map_map]
  rfl
theorem valV_iK (l : List (Int × V)) (a : Int) : valV (iK l) (.inl a) = valV l a := by
  unfold valV iK
  rw [List.find?_map]
  have e : ((fun kv : Key × V => decide (kv.1 = (.inl a : Key))) ∘ fun p : Int × V => ((.inl p.1 : Key), p.2)) = fun p => decide (p.1 = a) := by
    funext p
    exact decide_eq_decide.mpr ⟨fun h => Sum.inl.inj h, fun h => congrArg Sum.inl h⟩
  rw [e]
  cases l.find? fun p => decide (p.1 = a) <;> rfl
theorem putK_iK (l : List (Int × V)) (a : Int) (v : V) : putK (iK l) (.inl a) v = iK (putK l a v) := by
  have h := valV_any (Sum.inl a : Key) (iK l)
  have h' := valV_any a l
  unfold putK
  rw [h, h', valV_iK]
  cases valV l a with
  | none => simp [iK]
  | some x =>
    simp only [Option.isSome_some, if_true, iK, List.map_map]
    refine List.map_congr_left fun p _ => ?_
    by_cases e : p.1 = a <;> simp [e]
/-! while -/
theorem while_m {c : L2.TT} {tb : L2.TS} {D : Ends} {σ : L2.St} {H : Hp} (Pv : Nat → L2.St → Hp → Prop) (m0 : Nat) (h0 : Pv m0 σ H)
    (hs : ∀ m σ H, Pv m σ H → c σ H fun b H1 => if b = true then ∃ N : L2.St → Hp → Prop, (∀ σ' H', N σ' H' → ∃ m', m' < m ∧ Pv m' σ' H') ∧ tb { D with nx := N, ct := N, bk := D.nx } σ H1 else D.nx σ H1) : tWhile c tb D σ H := ⟨Pv, ⟨m0, h0⟩, hs⟩
/-! items of lists of lands -/
theorem tus_at {H : Hp} {ps : List Addr} {α : Type} {f : α → List Int} {xs : List α} (h : Tus H ps (xs.map f)) {i : Nat} {y : V} (hi : (ps.map V.ref)[i]? = some y) : ∃ p x, y = .ref p ∧ xs[i]? = some x ∧ Tu H p (f x) := by
  rw [List.getElem?_map] at hi
  obtain ⟨p, hp, rfl⟩ := Option.map_eq_some_iff.mp hi
  obtain ⟨ns, hns, tu⟩ := paired_get h hp
  rw [List.getElem?_map] at hns
  obtain ⟨l', hl', rfl⟩ := Option.map_eq_some_iff.mp hns
  exact ⟨p, l', rfl, hl', tu⟩
theorem tus_of {H : Hp} {ps : List Addr} {α : Type} {f : α → List Int} {xs : List α} (h : Tus H ps (xs.map f)) {i : Nat} {x : α} (hi : xs[i]? = some x) : ∃ p, ps[i]? = some p ∧ Tu H p (f x) := by
  obtain ⟨p, hp, t⟩ := paired_getR h (b := f x) (i := i) (by rw [List.getElem?_map, hi]; rfl)
  exact ⟨p, hp, t⟩
end MF
end
section
set_option Elab.async false
set_option linter.all false
set_option maxRecDepth 100000
set_option maxHeartbeats 4000000
namespace MF
open PySem PySem.Spec PyProof.Rows L2
open PySem.W (Tup)
/-! rules whose readings name no context: they serve within comprehensions too -/
theorem ifT {b : Bool} {A B : Prop} (h : b = true) (a : A) : if b = true then A else B := by rw [if_pos h]; exact a
theorem ifF {b : Bool} {A B : Prop} (h : b = false) (a : B) : if b = true then A else B := by rw [if_neg (by rw [h]; simp)]; exact a
theorem s1 : 1 ≤ sizeLine := by decide
section
variable {X : Cx}
theorem cr_minTu (hc : X.calm = true) (hu : X.A.units + 1 < cLine) : CallR X (.builtin "min") (fun vs H Q => ∃ (p : Addr) (ns : List Int), vs = [.ref p] ∧ Tu H p ns ∧ ns ≠ [] ∧ ∀ m, Least ns m → Q (.int m) H) := fun pins s σ H vs us Q I r ⟨p, ns, e, h, n, q⟩ => cr_minTup hc hu pins s σ H vs us Q I r ⟨p, ns, e, h.sq, n, q⟩
theorem cr_maxTu (hc : X.calm = true) (hu : X.A.units + 1 < cLine) : CallR X (.builtin "max") (fun vs H Q => ∃ (p : Addr) (ns : List Int), vs = [.ref p] ∧ Tu H p ns ∧ ns ≠ [] ∧ ∀ m, Most ns m → Q (.int m) H) := fun pins s σ H vs us Q I r ⟨p, ns, e, h, n, q⟩ => cr_maxTup hc hu pins s σ H vs us Q I r ⟨p, ns, e, h.sq, n, q⟩
theorem pe_minTu {e : Expr} {t : TA} {p pos : Pos} (hc : X.calm = true) (hu : X.A.units + 1 < cLine) (hm : X.mg "min" = none) (ha : PA X [e] t) (hg : Gl X "min" := by rfl) (hs : starEach [e] X.env = (false, eval e X.env) :: starEach [] X.env := by rfl) :
    PE X (.Call (.Name "min" p) [e] [] pos) (fun σ H Q => t σ H fun vs H1 => ∃ (p : Addr) (ns : List Int), vs = [.ref p] ∧ Tu H1 p ns ∧ ns ≠ [] ∧ ∀ m, Least ns m → Q (.int m) H1) := pe_callB (id := "min") (cr_minTu hc hu) hg hm (by decide +kernel) ha (by decide) (by decide) hs rfl
theorem pe_maxTu {e : Expr} {t : TA} {p pos : Pos} (hc : X.calm = true) (hu : X.A.units + 1 < cLine) (hm : X.mg "max" = none) (ha : PA X [e] t) (hg : Gl X "max" := by rfl) (hs : starEach [e] X.env = (false, eval e X.env) :: starEach [] X.env := by rfl) :
    PE X (.Call (.Name "max" p) [e] [] pos) (fun σ H Q => t σ H fun vs H1 => ∃ (p : Addr) (ns : List Int), vs = [.ref p] ∧ Tu H1 p ns ∧ ns ≠ [] ∧ ∀ m, Most ns m → Q (.int m) H1) := pe_callB (id := "max") (cr_maxTu hc hu) hg hm (by decide +kernel) ha (by decide) (by decide) hs rfl
/-- t[i], l[i] -/
def rIxU : R2 := fun x y H Q => ∃ p xs i v, x = .ref p ∧ y = .int i ∧ (Rd H p (.tup xs) ∨ Rd H p (.lst xs)) ∧ atI xs i = some v ∧ Q v H
theorem ix_u : IxR X rIxU := fun value slice pins s σ H x y v u Q I rx ry ⟨p, xs, i, z, e1, e2, hp, he, q⟩ hs => by
  rcases hp with hp | hp
  · exact ix_tup value slice pins s σ H x y v u Q I rx ry ⟨p, xs, i, z, e1, e2, .inl hp, he, q⟩ hs
  · exact ix_list value slice pins s σ H x y v u Q I rx ry ⟨p, xs, i, z, e1, e2, .inl hp, he, q⟩ hs
/-- i in t, t of ints -/
theorem op_inTu (hu : X.A.units + 1 < cLine) : OpR X (compareOp .In) (fun x y H Q => ∃ (a : Int) (p : Addr) (ns : List Int), x = .int a ∧ y = .ref p ∧ Tu H p ns ∧ Q (.bl (decide (a ∈ ns))) H) := fun pins s σ H x y v u Q I rx ry ⟨a, p, ns, e1, e2, h, q⟩ =>
  op_inTup Int hu pins s σ H x y v u Q I rx ry ⟨a, p, _, ns, e2, h.sq, ints_dvs ns, e1 ▸ .int a, q⟩
theorem op_notInTu (hu : X.A.units + 1 < cLine) : OpR X (compareOp .NotIn) (fun x y H Q => ∃ (a : Int) (p : Addr) (ns : List Int), x = .int a ∧ y = .ref p ∧ Tu H p ns ∧ Q (.bl (decide (a ∉ ns))) H) := fun pins s σ H x y v u Q I rx ry ⟨a, p, ns, e1, e2, h, q⟩ =>
  op_notInTup Int hu pins s σ H x y v u Q I rx ry ⟨a, p, _, ns, e2, h.sq, ints_dvs ns, e1 ▸ .int a, q⟩
/-- t in l, t not in l: l a list or a tuple of tuples of ints -/
theorem tup_inj {a b : List Int} : (Tup.mk a = Tup.mk b) = (a = b) := propext ⟨fun h => by cases h; rfl, fun h => h ▸ rfl⟩
theorem tup_mem {a : List Int} {nss : List (List Int)} : (Tup.mk a ∈ nss.map Tup.mk) = (a ∈ nss) := propext ⟨fun h => by
  obtain ⟨b, hb, e⟩ := List.mem_map.mp h
  cases e
  exact hb, fun h => List.mem_map.mpr ⟨a, h, rfl⟩⟩
theorem op_notInL (hu : X.A.units + 2 < cLine) : OpR X (compareOp .NotIn) (fun x y H Q => ∃ (p l : Addr) (ns : List Int) (ps : List Addr) (nss : List (List Int)), x = .ref p ∧ y = .ref l ∧ Tu H p ns ∧ Rd H l (.lst (ps.map V.ref)) ∧ Tus H ps nss ∧ Q (.bl (decide (ns ∉ nss))) H) := fun pins s σ H x y v u Q I rx ry ⟨p, l, ns, ps, nss, e1, e2, h, hl, ht, q⟩ =>
  op_notInLst (Tup Int) hu pins s σ H x y v u Q I rx ry ⟨.mk ns, l, _, nss.map .mk, e2, .inl hl, ht.dvs, e1 ▸ h.dv, by rw [show decide (Tup.mk ns ∉ nss.map Tup.mk) = decide (ns ∉ nss) by simp only [tup_mem]]; exact q⟩
theorem op_inT (hu : X.A.units + 2 < cLine) : OpR X (compareOp .In) (fun x y H Q => ∃ (p l : Addr) (ns : List Int) (ps : List Addr) (nss : List (List Int)), x = .ref p ∧ y = .ref l ∧ Tu H p ns ∧ Rd H l (.tup (ps.map V.ref)) ∧ Tus H ps nss ∧ Q (.bl (decide (ns ∈ nss))) H) := fun pins s σ H x y v u Q I rx ry ⟨p, l, ns, ps, nss, e1, e2, h, hl, ht, q⟩ =>
  op_inTup (Tup Int) hu pins s σ H x y v u Q I rx ry ⟨.mk ns, l, _, nss.map .mk, e2, .inl hl, ht.dvs, e1 ▸ h.dv, by rw [show decide (Tup.mk ns ∈ nss.map Tup.mk) = decide (ns ∈ nss) by simp only [tup_mem]]; exact q⟩
/-- two tuples of ints: ==, != -/
theorem op_eqTu (hu : X.A.units + 1 < cLine) : OpR X (compareOp .Eq) (fun x y H Q => ∃ (p q : Addr) (a b : List Int), x = .ref p ∧ y = .ref q ∧ Tu H p a ∧ Tu H q b ∧ Q (.bl (decide (a = b))) H) := fun pins s σ H x y v u Q I rx ry ⟨p, q, a, b, e1, e2, h1, h2, k⟩ =>
  op_eqT (Tup Int) hu pins s σ H x y v u Q I rx ry ⟨.mk a, .mk b, e1 ▸ h1.dv, e2 ▸ h2.dv, by rw [show decide (Tup.mk a = Tup.mk b) = decide (a = b) by simp only [tup_inj]]; exact k⟩
theorem op_neTu (hu : X.A.units + 1 < cLine) : OpR X (compareOp .NotEq) (fun x y H Q => ∃ (p q : Addr) (a b : List Int), x = .ref p ∧ y = .ref q ∧ Tu H p a ∧ Tu H q b ∧ Q (.bl (decide (a ≠ b))) H) := fun pins s σ H x y v u Q I rx ry ⟨p, q, a, b, e1, e2, h1, h2, k⟩ =>
  op_neT (Tup Int) hu pins s σ H x y v u Q I rx ry ⟨.mk a, .mk b, e1 ▸ h1.dv, e2 ▸ h2.dv, by rw [show decide (Tup.mk a ≠ Tup.mk b) = decide (a ≠ b) by simp only [ne_eq, tup_inj]]; exact k⟩
/-- len of a list or a tuple -/
theorem pe_lenU {e : Expr} {t : TA} {p pos : Pos} (hm : X.mg "len" = none) (ha : PA X [e] t) (hg : Gl X "len" := by rfl) (hs : starEach [e] X.env = (false, eval e X.env) :: starEach [] X.env := by rfl) :
    PE X (.Call (.Name "len" p) [e] [] pos) (fun σ H Q => t σ H fun vs H1 => ∃ (p : Addr) (xs : List V), vs = [.ref p] ∧ (Rd H1 p (.tup xs) ∨ Rd H1 p (.lst xs)) ∧ Q (.int (xs.length : Nat)) H1) :=
  PE_imp (pe_callB (id := "len") call_len_seq hg hm (by decide +kernel) (PA_up ha) (by decide) (by decide) hs rfl) fun σ H Q q => ⟨_, q, fun vs H1 ⟨p, xs, e, h, q⟩ => ⟨p, xs, e, h.elim (fun z => .inr (.inl z)) fun z => .inl (.inl z), q⟩⟩
/-- tuple(x), list(x) -/
theorem pe_tupleU {e : Expr} {t : TA} {p pos : Pos} (hm : X.mg "tuple" = none) (ha : PA X [e] t) (hg : Gl X "tuple" := by rfl) (hs : starEach [e] X.env = (false, eval e X.env) :: starEach [] X.env := by rfl) :
    PE X (.Call (.Name "tuple" p) [e] [] pos) (fun σ H Q => t σ H fun vs H1 => ∃ p ys, vs = [.ref p] ∧ ((Rd H1 p (.lst ys) ∧ ∀ l H2, Same H1 H2 → H2 l = some (.tup ys) → Q (.ref l) H2) ∨ (Rd H1 p (.tup ys) ∧ Q (.ref p) H1))) :=
  pe_callTy (T := "tuple") call_tupleA hg hm (by decide +kernel) ha (by decide) (by decide) hs rfl
theorem pe_listU {e : Expr} {t : TA} {p pos : Pos} (hm : X.mg "list" = none) (ha : PA X [e] t) (hg : Gl X "list" := by rfl) (hs : starEach [e] X.env = (false, eval e X.env) :: starEach [] X.env := by rfl) :
    PE X (.Call (.Name "list" p) [e] [] pos) (fun σ H Q => t σ H fun vs H1 => ∃ p ys, vs = [.ref p] ∧ (Rd H1 p (.lst ys) ∨ Rd H1 p (.tup ys)) ∧ ∀ l H2, H1 l = none → Same H1 H2 → H2 l = some (.lst ys) → Q (.ref l) H2) :=
  pe_callTy (T := "list") call_listA hg hm (by decide +kernel) ha (by decide) (by decide) hs rfl
/-- o.f, an attribute of an instance of C -/
def tFldU (C : Addr) (ta : TE) (f : Str) : TE := fun σ H Q => ta σ H fun x H1 => ∃ a dx fs v, x = .ref a ∧ H1 a = some (.ins C dx fs) ∧ fs.lookup f = some v ∧ Q v H1
theorem pe_fldU {C : Addr} {e : Expr} {f : Str} {ta : TE} {pos : Pos} (c : Cls X.K C) (n : NoAttr X.K C f) (he : PE X e ta) (hb : attributeBase e f X.env (eval e X.env) = eval e X.env := by rfl) : PE X (.Attribute e f pos) (tFldU C ta f) :=
  PE_imp (pe_fld (PE_up he) hb) fun σ H Q q => ⟨_, q, fun v H1 ⟨a, dx, fs, z, e1, e2, e3, k⟩ => ⟨a, C, dx, fs, z, e1, e2, c, n, e3, k⟩⟩
/-- a, b = t -/
def gTupU (n : Nat) (t : TGs) : TG := fun v σ H Q => ∃ a xs, v = .ref a ∧ Rd H a (.tup xs) ∧ xs.length = n ∧ t xs σ H Q
theorem pg_tupU {es : List Expr} {k : Nat} {t : TGs} {n : Nat} {pos : Pos} (hc : X.calm = true) (h : PGs X es t) (hn : (assignEach es X.env).length = n := by rfl) (hst : (assignEach es X.env).findIdx? (·.1) = none := by rfl) : PG X (.Tuple es k pos) (gTupU n t) :=
  ⟨fun pins s σ H v u Q I r ⟨a, xs, e1, e2, e3, q⟩ => (pg_tup hc h hn hst).run pins s σ H v u Q I r ⟨a, xs, e1, .inl e2, e3, q⟩⟩
/-- t[i] over any of them, as an expression -/
theorem pe_ixU {a b : Expr} {ta tb : TE} {pos : Pos} (ha : PE X a ta) (hb : PE X b tb) (hs : PlainIx b) : PE X (.Subscript a b pos) (tOp rIxU ta tb) := pe_ix ix_u ha hb hs
end
end MF
end
section
set_option linter.all false
set_option maxRecDepth 100000
namespace MF
/-! rounds about a dot -/
theorem nodup_len_le {α : Type} [DecidableEq α] : ∀ {xs ys : List α}, xs.Nodup → (∀ x ∈ xs, x ∈ ys) → xs.length ≤ ys.length
  | [], _, _, _ => Nat.zero_le _
  | x :: xs, ys, hn, h => by
    have hx := h x List.mem_cons_self
    rw [List.nodup_cons] at hn
    have := nodup_len_le (ys := ys.erase x) hn.2 fun y hy => (List.mem_erase_of_ne fun e => hn.1 (by rw [← e]; exact hy)).mpr (h y (List.mem_cons_of_mem _ hy))
    rw [List.length_erase_of_mem hx] at this
    have hp : 0 < ys.length := List.length_pos_of_mem hx
    rw [List.length_cons]
    omega
def InjW (W : List Land) (d : Int) : Prop := ∀ a b c, third W d a = some c → third W d b = some c → a = b
def Chain (W : List Land) (d : Int) (fs : List Int) : Prop := ∀ i a b, fs[i]? = some a → fs[i + 1]? = some b → third W d a = some b
structure Rnd (W : List Land) (d first : Int) (l : List Int) (last : Int) : Prop where
  head : (l ++ [last]).head? = some first
  nd : (l ++ [last]).Nodup
  chain : Chain W d (l ++ [last])
def IsRound (W : List Land) (d first : Int) (fs : List Int) : Prop := ∃ l last, fs = l ++ [last] ∧ Rnd W d first l last ∧ (third W d last = none ∨ third W d last = some first)
theorem Rnd.one {W : List Land} {d first : Int} : Rnd W d first [] first := ⟨rfl, by simp, fun i a b h1 h2 => by simp at h2⟩
theorem Rnd.bound {W : List Land} {d first : Int} {l : List Int} {last : Int} (r : Rnd W d first l last) : l.length ≤ W.length := by
  have h1 : l.Nodup := by
    have := r.nd
    rw [List.nodup_append] at this
    exact this.1
  have h2 : l.length ≤ (W.map fun w => w.2.1).length := by
    refine nodup_len_le h1 fun x hx => ?_
    obtain ⟨i, hi, e⟩ := List.mem_iff_getElem.mp hx
    have hl : (l ++ [last])[i]? = some x := by rw [List.getElem?_append_left hi, List.getElem?_eq_getElem hi, e]
    have hlt : i + 1 < (l ++ [last]).length := by simp; omega
    have := r.chain i x _ hl (List.getElem?_eq_getElem hlt)
    have := third_mem this
    exact List.mem_map.mpr ⟨_, this, rfl⟩
  simpa using h2
theorem Rnd.step {W : List Land} {d first : Int} {l : List Int} {last later : Int} (inj : InjW W d) (r : Rnd W d first l last) (h : third W d last = some later) (hne : later ≠ first) : Rnd W d first (l ++ [last]) later := by
  have hlen : (l ++ [last]).length = l.length + 1 := by simp
  refine ⟨?_, ?_, ?_⟩
  · have := r.head
    rw [List.head?_append, this]
    rfl
  · rw [List.nodup_append]
    refine ⟨r.nd, by simp, fun a ha b hb e => ?_⟩
    rw [List.mem_singleton] at hb
    subst hb
    subst e
    obtain ⟨j, hj, e⟩ := List.mem_iff_getElem.mp ha
    cases j with
    | zero =>
      have h0 := r.head
      rw [List.head?_eq_getElem?, List.getElem?_eq_getElem hj, e] at h0
      exact hne (Option.some.inj h0)
    | succ j =>
      have hj' : j < (l ++ [last]).length := by omega
      have c := r.chain j _ _ (List.getElem?_eq_getElem hj') (List.getElem?_eq_getElem hj)
      rw [e] at c
      have z := inj _ _ _ c h
      have hlast : (l ++ [last])[l.length]? = some last := by simp
      have h1 : (l ++ [last])[j]? = some last := by rw [List.getElem?_eq_getElem hj', z]
      have := (List.getElem?_inj hj' r.nd).mp (h1.trans hlast.symm)
      omega
  · intro i a b h1 h2
    by_cases hi : i + 1 < (l ++ [last]).length
    · rw [List.getElem?_append_left hi] at h2
      rw [List.getElem?_append_left (by omega)] at h1
      exact r.chain i a b h1 h2
    · have hb : i + 1 < (l ++ [last] ++ [later]).length := (List.getElem?_eq_some_iff.mp h2).1
      have hi' : i = l.length := by simp at hi hb; omega
      subst hi'
      rw [List.getElem?_append_left (by simp)] at h1
      simp at h1 h2
      rw [← h1, ← h2]
      exact h
/-! who stands first -/
def IsFirst (W : List Land) (d : Int) (os : List Int) (f : Int) : Prop := f ∈ os ∧ (third W f d = none ∨ ∀ o ∈ os, third W o d ≠ none)
end MF
end
section
set_option linter.all false
set_option maxRecDepth 100000
namespace MF
/-! the walk over the ways -/
abbrev Pr := Int × Int
def Closed (W : List Land) (k : List Pr) (p : Pr) : Prop := (∀ c, (p.1, p.2, c) ∈ W → (p.2, c) ∈ k) ∧ ∀ d, (p.2, p.1, d) ∈ W → (p.2, p.1) ∈ k
structure Hang (W : List Land) (p : Option Pr) (k g : List Pr) : Prop where
  nd : k.Nodup
  sub : ∀ x ∈ k, x ∈ W.map key
  has : ∀ x ∈ g, x ∈ k
  clo : ∀ x ∈ k, x ∈ g ∨ some x = p ∨ Closed W k x
  gl : g.length ≤ k.length
theorem Closed.more {W : List Land} {k k' : List Pr} {p : Pr} (h : Closed W k p) (s : ∀ x ∈ k, x ∈ k') : Closed W k' p := ⟨fun c hc => s _ (h.1 c hc), fun d hd => s _ (h.2 d hd)⟩
theorem Hang.push {W : List Land} {p : Option Pr} {k g : List Pr} {c : Pr} (h : Hang W p k g) (h1 : c ∈ W.map key) (h2 : c ∉ k) : Hang W p (k ++ [c]) (g ++ [c]) where
  nd := by
    rw [List.nodup_append]
    exact ⟨h.nd, by simp, fun a ha b hb e => h2 (by rw [List.mem_singleton] at hb; rw [← hb, ← e]; exact ha)⟩
  sub := fun x hx => by
    rcases List.mem_append.mp hx with hx | hx
    · exact h.sub x hx
    · rw [List.mem_singleton] at hx
      exact hx ▸ h1
  has := fun x hx => by
    rcases List.mem_append.mp hx with hx | hx
    · exact List.mem_append_left _ (h.has x hx)
    · exact List.mem_append_right _ hx
  clo := fun x hx => by
    rcases List.mem_append.mp hx with hx | hx
    · rcases h.clo x hx with z | z | z
      · exact .inl (List.mem_append_left _ z)
      · exact .inr (.inl z)
      · exact .inr (.inr (z.more fun y hy => List.mem_append_left _ hy))
    · exact .inl (List.mem_append_right _ hx)
  gl := by have := h.gl; simp; omega
theorem Hang.pop {W : List Land} {k g : List Pr} {c : Pr} (h : Hang W none k (g ++ [c])) : Hang W (some c) k g where
  nd := h.nd
  sub := h.sub
  has := fun x hx => h.has x (List.mem_append_left _ hx)
  clo := fun x hx => by
    rcases h.clo x hx with z | z | z
    · rcases List.mem_append.mp z with z | z
      · exact .inl z
      · rw [List.mem_singleton] at z
        exact .inr (.inl (by rw [z]))
    · cases z
    · exact .inr (.inr z)
  gl := by have := h.gl; simp at this; omega
theorem Hang.done {W : List Land} {k g : List Pr} {c : Pr} (h : Hang W (some c) k g) (z : Closed W k c) : Hang W none k g where
  nd := h.nd
  sub := h.sub
  has := h.has
  clo := fun x hx => by
    rcases h.clo x hx with y | y | y
    · exact .inl y
    · cases y
      exact .inr (.inr z)
    · exact .inr (.inr y)
  gl := h.gl
theorem Hang.all {W : List Land} {k : List Pr} {f : Pr} (h : Hang W none k []) (C : Conn (Tr W)) (hf : f ∈ k) (hn : (W.map key).Nodup) : k.length = W.length := by
  have hall : ∀ x ∈ W.map key, x ∈ k := by
    rintro ⟨a, b⟩ hx
    obtain ⟨c, hc⟩ := key_mem.mp hx
    obtain ⟨c0, hc0⟩ := key_mem.mp (h.sub f hf)
    have cl : ∀ x ∈ k, Closed W k x := fun x hx => by
      rcases h.clo x hx with z | z | z
      · cases z
      · cases z
      · exact z
    exact C (fun a b => (a, b) ∈ k) (fun a b c t p => (cl _ p).1 c t) (fun a b c d t u p => (cl _ p).2 d u) f.1 f.2 c0 a b c hc0 hc hf
  have h1 := nodup_len_le h.nd h.sub
  have h2 := nodup_len_le hn hall
  rw [List.length_map] at h1 h2
  omega
theorem Hang.len {W : List Land} {p : Option Pr} {k g : List Pr} (h : Hang W p k g) : k.length ≤ W.length := by
  have h1 := nodup_len_le h.nd h.sub
  rwa [List.length_map] at h1
theorem Hang.one {W : List Land} {f : Pr} (h : f ∈ W.map key) : Hang W none [f] [f] := ⟨by simp, fun x hx => by rw [List.mem_singleton] at hx; exact hx ▸ h, fun x hx => hx, fun x hx => .inl hx, Nat.le_refl _⟩
end MF
end
section
set_option linter.all false
set_option maxRecDepth 100000
namespace MF
theorem nodup_back {α : Type} [DecidableEq α] {xs ys : List α} (h1 : xs.Nodup) (h2 : ∀ x ∈ xs, x ∈ ys) (h3 : ys.length ≤ xs.length) : ∀ y ∈ ys, y ∈ xs := fun y hy => by
  refine Decidable.byContradiction fun hn => ?_
  have := nodup_len_le (xs := y :: xs) (ys := ys) (List.nodup_cons.mpr ⟨hn, h1⟩) fun x hx => by
    rcases List.mem_cons.mp hx with rfl | hx
    · exact hy
    · exact h2 x hx
  rw [List.length_cons] at this
  omega
section
variable {W : List Land}
theorem tr_injW (B : Base (Tr W)) (v : Int) : InjW W v := fun a b c h1 h2 => B.inj (T := Tr W) (third_mem h1) (third_mem h2)
/-- all that is tied to a dot is in its round -/
theorem round_outs (B : Base (Tr W)) (hn : (W.map key).Nodup) (L : Link (Tr W)) {v f : Int} {fs : List Int} (hf : IsFirst W v (outs W v) f) (hr : IsRound W v f fs) : ∀ o ∈ outs W v, o ∈ fs := by
  obtain ⟨l, last, rfl, r, he⟩ := hr
  obtain ⟨hfo, hf⟩ := hf
  have hfirst : f ∈ l ++ [last] := List.mem_of_mem_head? (by rw [r.head]; rfl)
  obtain ⟨c0, hc0⟩ := mem_outs.mp hfo
  have fwd : ∀ o t, Tr W v o t → o ∈ l ++ [last] → t ∈ l ++ [last] := by
    intro o t h ho
    obtain ⟨i, hi, rfl⟩ := List.mem_iff_getElem.mp ho
    have h3 := (third_some hn).mpr h
    by_cases hl : i + 1 < (l ++ [last]).length
    · have := r.chain i _ _ (List.getElem?_eq_getElem hi) (List.getElem?_eq_getElem hl)
      rw [h3] at this
      rw [Option.some.inj this]
      exact List.getElem_mem hl
    · have hi' : i = l.length := by simp at hi hl; omega
      subst hi'
      have : (l ++ [last])[l.length] = last := by simp
      rw [this] at h3
      rcases he with he | he
      · rw [he] at h3; cases h3
      · rw [he] at h3
        rw [← Option.some.inj h3]
        exact hfirst
  have inj := tr_injW B v
  intro o ho
  obtain ⟨c, hc⟩ := mem_outs.mp ho
  refine L v (fun x => x ∈ l ++ [last]) (fun o t h => ⟨fwd o t h, fun ht => ?_⟩) f c0 o c hc0 hc hfirst
  obtain ⟨i, hi, e⟩ := List.mem_iff_getElem.mp ht
  have h3 := (third_some hn).mpr h
  cases i with
  | succ i =>
    have hi' : i < (l ++ [last]).length := by omega
    have := r.chain i _ _ (List.getElem?_eq_getElem hi') (List.getElem?_eq_getElem hi)
    rw [e] at this
    rw [← inj _ _ _ this h3]
    exact List.getElem_mem hi'
  | zero =>
    have h0 := r.head
    rw [List.head?_eq_getElem?, List.getElem?_eq_getElem hi, e] at h0
    cases Option.some.inj h0
    -- t is the first
    have hback : Tr W f v o := B.cyc (B.cyc h)
    rcases hf with hf | hf
    · exact absurd hback (third_none.mp hf o)
    · rcases he with he | he
      · exfalso
        -- the thirds of the outs are the outs
        have hsub : ∀ x ∈ outs W v, x ∈ (outs W v).filterMap (third W v) := by
          intro x hx
          have hx' := hf x hx
          cases hz : third W x v with
          | none => exact absurd hz hx'
          | some z =>
            have h1 : Tr W v z x := B.cyc (third_mem hz)
            exact List.mem_filterMap.mpr ⟨z, mem_outs.mpr ⟨x, h1⟩, (third_some hn).mpr h1⟩
        have hall := nodup_back (outs_nodup hn v) hsub (List.length_filterMap_le _ _)
        have hlast : last ∈ outs W v := by
          by_cases hll : l = []
          · subst hll
            have := r.head
            simp at this
            rw [this]
            exact hfo
          · have hpos : 0 < l.length := List.length_pos_iff.mpr hll
            have h1 : (l ++ [last])[l.length - 1]? = some (l[l.length - 1]'(by omega)) := by
              rw [List.getElem?_append_left (by omega), List.getElem?_eq_getElem (by omega)]
            have h2 : (l ++ [last])[l.length - 1 + 1]? = some last := by
              rw [show l.length - 1 + 1 = l.length by omega]
              simp
            have h4 := r.chain _ _ _ h1 h2
            exact hall _ (List.mem_filterMap.mpr ⟨_, mem_outs.mpr ⟨_, third_mem h4⟩, h4⟩)
        obtain ⟨z, hz⟩ := mem_outs.mp hlast
        exact absurd hz (third_none.mp he z)
      · have := inj _ _ _ he h3
        rw [← this]
        simp
/-- the members of a round: the neighbours -/
theorem round_mem (B : Base (Tr W)) (hn : (W.map key).Nodup) (L : Link (Tr W)) {v f : Int} {fs : List Int} (hf : IsFirst W v (outs W v) f) (hr : IsRound W v f fs) (x : Int) : x ∈ fs ↔ (∃ c, Tr W v x c) ∨ ∃ c, Tr W x v c := by
  have hout := round_outs B hn L hf hr
  obtain ⟨l, last, rfl, r, he⟩ := hr
  obtain ⟨hfo, hf⟩ := hf
  constructor
  · intro hx
    obtain ⟨i, hi, rfl⟩ := List.mem_iff_getElem.mp hx
    cases i with
    | zero =>
      have h0 := r.head
      rw [List.head?_eq_getElem?, List.getElem?_eq_getElem hi] at h0
      rw [Option.some.inj h0]
      exact .inl (mem_outs.mp hfo)
    | succ i =>
      have hi' : i < (l ++ [last]).length := by omega
      have := r.chain i _ _ (List.getElem?_eq_getElem hi') (List.getElem?_eq_getElem hi)
      exact .inr ⟨_, B.cyc (B.cyc (third_mem this))⟩
  · rintro (⟨c, h⟩ | ⟨c, h⟩)
    · exact hout _ (mem_outs.mpr ⟨c, h⟩)
    · have h1 : Tr W v c x := B.cyc h
      have h2 := hout _ (mem_outs.mpr ⟨x, h1⟩)
      have h3 := (third_some hn).mpr h1
      obtain ⟨i, hi, e⟩ := List.mem_iff_getElem.mp h2
      by_cases hl : i + 1 < (l ++ [last]).length
      · have := r.chain i _ _ (List.getElem?_eq_getElem hi) (List.getElem?_eq_getElem hl)
        rw [e, h3] at this
        rw [Option.some.inj this]
        exact List.getElem_mem hl
      · have hi' : i = l.length := by simp at hi hl; omega
        subst hi'
        have e2 : (l ++ [last])[l.length] = last := by simp
        rw [e2] at e
        subst e
        rcases he with he | he
        · rw [he] at h3; cases h3
        · rw [he] at h3
          rw [← Option.some.inj h3]
          exact List.mem_of_mem_head? (by rw [r.head]; rfl)
end
end MF
end
section
set_option linter.all false
set_option maxRecDepth 100000
namespace MF
/-! the ring, the ties, the numbers -/
def Rim (W : List Land) (v o : Int) : Prop := (∃ c, (v, o, c) ∈ W) ∧ third W o v = none
structure IsRing (W : List Land) (r : List Int) : Prop where
  ne : r ≠ []
  nd : r.Nodup
  rim : ∀ v o, Rim W v o ↔ ∃ i, r[i]? = some v ∧ r[(i + 1) % r.length]? = some o
  least : ∀ x ∈ r, ∀ y, r[0]? = some y → y ≤ x
def mm (l : Land) : List Int := [min l.1 l.2.1, max l.1 l.2.1]
def ties (W : List Land) : List (List Int) := srt (nub (W.map mm))
def pl (p : Pr) : List Int := [p.1, p.2]
/-- the ways of the rim, the other way about -/
def back (r : List Int) : List Pr := (List.range r.length).map fun i => (r.getD ((i + 1) % r.length) 0, r.getD i 0)
/-- all ways, and those of the rim the other way about -/
def both (W : List Land) (r : List Int) : List Pr := W.map key ++ back r
theorem nodup_of_map {α β : Type} {f : α → β} : ∀ {l : List α}, (l.map f).Nodup → l.Nodup
  | [], _ => List.nodup_nil
  | x :: l, h => by
    rw [List.map_cons, List.nodup_cons] at h
    exact List.nodup_cons.mpr ⟨fun hx => h.1 (List.mem_map.mpr ⟨x, hx, rfl⟩), nodup_of_map h.2⟩
theorem nodup_map_on {α β : Type} {f : α → β} : ∀ {l : List α}, (∀ x ∈ l, ∀ y ∈ l, f x = f y → x = y) → l.Nodup → (l.map f).Nodup
  | [], _, _ => List.nodup_nil
  | x :: l, hf, h => by
    rw [List.nodup_cons] at h
    rw [List.map_cons, List.nodup_cons]
    refine ⟨fun hx => ?_, nodup_map_on (fun a ha b hb => hf a (List.mem_cons_of_mem _ ha) b (List.mem_cons_of_mem _ hb)) h.2⟩
    obtain ⟨y, hy, e⟩ := List.mem_map.mp hx
    rw [hf x List.mem_cons_self y (List.mem_cons_of_mem _ hy) e.symm] at h
    exact h.1 hy
theorem back_length (r : List Int) : (back r).length = r.length := by simp [back]
theorem back_snd (r : List Int) : (back r).map (·.2) = r := by
  unfold back
  rw [List.map_map]
  apply List.ext_getElem
  · simp
  · intro i h1 h2
    simp [List.getD, List.getElem?_eq_getElem h2]
theorem mem_back {r : List Int} {o v : Int} : (o, v) ∈ back r ↔ ∃ i, r[i]? = some v ∧ r[(i + 1) % r.length]? = some o := by
  unfold back
  rw [List.mem_map]
  constructor
  · rintro ⟨i, hi, e⟩
    rw [List.mem_range] at hi
    have hm : (i + 1) % r.length < r.length := Nat.mod_lt _ (by omega)
    refine ⟨i, ?_, ?_⟩
    · have := congrArg Prod.snd e
      simp only [List.getD, List.getElem?_eq_getElem hi, Option.getD_some] at this
      rw [List.getElem?_eq_getElem hi, this]
    · have := congrArg Prod.fst e
      simp only [List.getD, List.getElem?_eq_getElem hm, Option.getD_some] at this
      rw [List.getElem?_eq_getElem hm, this]
  · rintro ⟨i, h1, h2⟩
    exact ⟨i, List.mem_range.mpr (List.getElem?_eq_some_iff.mp h1).1, by simp [List.getD, h1, h2]⟩
section
variable {W : List Land} {r : List Int}
theorem IsRing.back (h : IsRing W r) {o v : Int} : (o, v) ∈ MF.back r ↔ Rim W v o := by rw [mem_back, h.rim]
theorem mem_both (h : IsRing W r) {a b : Int} : (a, b) ∈ both W r ↔ (∃ c, (a, b, c) ∈ W) ∨ ∃ c, (b, a, c) ∈ W := by
  unfold both
  rw [List.mem_append, key_mem, h.back]
  constructor
  · rintro (z | z)
    · exact .inl z
    · exact .inr z.1
  · rintro (z | z)
    · exact .inl z
    · by_cases y : third W a b = none
      · exact .inr ⟨z, y⟩
      · cases e : third W a b with
        | none => exact absurd e y
        | some c => exact .inl ⟨c, third_mem e⟩
theorem both_nodup (h : IsRing W r) (hn : (W.map key).Nodup) : (both W r).Nodup := by
  unfold both
  rw [List.nodup_append]
  refine ⟨hn, nodup_of_map (f := (·.2)) (by rw [back_snd]; exact h.nd), ?_⟩
  rintro ⟨a, b⟩ ha ⟨c, d⟩ hb e
  cases e
  obtain ⟨z, hz⟩ := key_mem.mp ha
  exact absurd hz (third_none.mp (h.back.mp hb).2 z)
theorem both_length : (both W r).length = W.length + r.length := by simp [both, back_length]
theorem both_comm (h : IsRing W r) {a b : Int} : (a, b) ∈ both W r ↔ (b, a) ∈ both W r := by rw [mem_both h, mem_both h]; exact Or.comm
theorem both_ne (h : IsRing W r) (B : Base (Tr W)) {a b : Int} (m : (a, b) ∈ both W r) : a ≠ b := by
  rcases (mem_both h).mp m with ⟨c, z⟩ | ⟨c, z⟩
  · exact B.ne z
  · exact (B.ne z).symm
theorem srt_length (nss : List (List Int)) : (srt nss).length = nss.length := by simp [srt]
theorem mem_srt {nss : List (List Int)} {ns : List Int} : ns ∈ srt nss ↔ ns ∈ nss := (List.mergeSort_perm _ _).mem_iff
theorem srt_perm (nss : List (List Int)) : (srt nss).Perm nss := List.mergeSort_perm _ _
/-- a tie: least dot first -/
theorem mem_tie (h : IsRing W r) (B : Base (Tr W)) {ns : List Int} : ns ∈ nub (W.map mm) ↔ ∃ a b, ns = [a, b] ∧ a < b ∧ (a, b) ∈ both W r := by
  rw [mem_nub, List.mem_map]
  constructor
  · rintro ⟨⟨a, b, c⟩, hw, rfl⟩
    have hne := B.ne hw
    by_cases hlt : a < b
    · exact ⟨a, b, by simp only [mm]; rw [Int.min_eq_left (by omega), Int.max_eq_right (by omega)], hlt, (mem_both h).mpr (.inl ⟨c, hw⟩)⟩
    · exact ⟨b, a, by simp only [mm]; rw [Int.min_eq_right (by omega), Int.max_eq_left (by omega)], by omega, (mem_both h).mpr (.inr ⟨c, hw⟩)⟩
  · rintro ⟨a, b, rfl, hlt, hm⟩
    rcases (mem_both h).mp hm with ⟨c, z⟩ | ⟨c, z⟩
    · exact ⟨(a, b, c), z, by simp only [mm]; rw [Int.min_eq_left (by omega), Int.max_eq_right (by omega)]⟩
    · exact ⟨(b, a, c), z, by simp only [mm]; rw [Int.min_eq_right (by omega), Int.max_eq_left (by omega)]⟩
theorem len_of_mem' {α : Type} [DecidableEq α] {xs ys : List α} (h1 : xs.Nodup) (h2 : ys.Nodup) (h : ∀ a, a ∈ xs ↔ a ∈ ys) : xs.length = ys.length :=
  Nat.le_antisymm (nodup_len_le h1 fun x hx => (h x).mp hx) (nodup_len_le h2 fun x hx => (h x).mpr hx)
theorem filter_split {α : Type} (p : α → Bool) : ∀ l : List α, l.length = (l.filter p).length + (l.filter fun x => !p x).length
  | [] => rfl
  | x :: l => by
    have := filter_split p l
    cases h : p x <;> simp [h] <;> omega
theorem ties_length (h : IsRing W r) (B : Base (Tr W)) (hn : (W.map key).Nodup) : 2 * (ties W).length = W.length + r.length := by
  have hb := both_nodup h hn
  have e0 : (ties W).length = (nub (W.map mm)).length := srt_length _
  have e1 : ((both W r).filter fun p => decide (p.1 < p.2)).length = (nub (W.map mm)).length := by
    rw [← List.length_map (f := pl)]
    refine len_of_mem' (nodup_map_on (fun x _ y _ e => ?_) (hb.sublist List.filter_sublist)) (nub_nodup _) fun ns => ?_
    · simp only [pl, List.cons.injEq, and_true] at e
      exact Prod.ext e.1 e.2
    · rw [mem_tie h B, List.mem_map]
      constructor
      · rintro ⟨⟨a, b⟩, hm, rfl⟩
        rw [List.mem_filter] at hm
        exact ⟨a, b, rfl, of_decide_eq_true hm.2, hm.1⟩
      · rintro ⟨a, b, rfl, hlt, hm⟩
        exact ⟨(a, b), List.mem_filter.mpr ⟨hm, decide_eq_true hlt⟩, rfl⟩
  have e2 : ((both W r).filter fun p => !decide (p.1 < p.2)).length = (nub (W.map mm)).length := by
    rw [← List.length_map (f := fun p : Pr => pl (p.2, p.1))]
    refine len_of_mem' (nodup_map_on (fun x _ y _ e => ?_) (hb.sublist List.filter_sublist)) (nub_nodup _) fun ns => ?_
    · simp only [pl, List.cons.injEq, and_true] at e
      exact Prod.ext e.2 e.1
    · rw [mem_tie h B, List.mem_map]
      constructor
      · rintro ⟨⟨a, b⟩, hm, rfl⟩
        rw [List.mem_filter] at hm
        have hne := both_ne h B hm.1
        simp at hm
        exact ⟨b, a, rfl, by omega, (both_comm h).mp hm.1⟩
      · rintro ⟨a, b, rfl, hlt, hm⟩
        exact ⟨(b, a), List.mem_filter.mpr ⟨(both_comm h).mp hm, by simp; omega⟩, rfl⟩
  have e3 := filter_split (fun p : Pr => decide (p.1 < p.2)) (both W r)
  rw [both_length] at e3
  omega
end
/-! a whole map -/
structure Good (ls : List Land) (n : Nat) (r : List Int) : Prop where
  nd : ((ways ls).map key).Nodup
  B : Base (Tr (ways ls))
  C : Conn (Tr (ways ls))
  L : Link (Tr (ways ls))
  dots : ∀ x, (∃ b c, (x, b, c) ∈ ways ls) ↔ 0 ≤ x ∧ x < n
  ring : IsRing (ways ls) r
  num : ls.length + r.length + 2 = 2 * n
  r3 : 3 ≤ r.length
  n59 : n ≤ 59
theorem range_length {l : List Int} {n : Nat} (hn : l.Nodup) (h : ∀ x, x ∈ l ↔ 0 ≤ x ∧ x < n) : l.length = n := by
  have h1 : ((List.range n).map fun i : Nat => (i : Int)).Nodup := nodup_map_on (fun x _ y _ e => by have e' : (x : Int) = (y : Int) := e; omega) List.nodup_range
  have := len_of_mem' hn h1 fun a => by
    rw [h, List.mem_map]
    constructor
    · rintro ⟨z, y⟩
      exact ⟨a.toNat, List.mem_range.mpr (by omega), by omega⟩
    · rintro ⟨i, hi, rfl⟩
      rw [List.mem_range] at hi
      omega
  rw [this]
  simp
theorem Good.n_pos {ls : List Land} {n : Nat} {r : List Int} (g : Good ls n r) : 0 < n := by
  have := g.num
  have := g.r3
  omega
theorem Good.firsts {ls : List Land} {n : Nat} {r : List Int} (g : Good ls n r) : (nub ((ways ls).map (·.1))).length = n :=
  range_length (nub_nodup _) fun x => by
    rw [mem_nub, ← g.dots, List.mem_map]
    exact ⟨fun ⟨⟨a, b, c⟩, h, e⟩ => ⟨b, c, e ▸ h⟩, fun ⟨b, c, h⟩ => ⟨_, h, rfl⟩⟩
theorem Good.mem_firsts {ls : List Land} {n : Nat} {r : List Int} (g : Good ls n r) {x : Int} : x ∈ nub ((ways ls).map (·.1)) ↔ 0 ≤ x ∧ x < n := by
  rw [mem_nub, ← g.dots, List.mem_map]
  exact ⟨fun ⟨⟨a, b, c⟩, h, e⟩ => ⟨b, c, e ▸ h⟩, fun ⟨b, c, h⟩ => ⟨_, h, rfl⟩⟩
theorem ways_len (ls : List Land) : (ways ls).length = 3 * ls.length := by
  induction ls with
  | nil => rfl
  | cons l ls ih =>
    rw [show ways (l :: ls) = ways1 l ++ ways ls from rfl, List.length_append, ih, List.length_cons]
    show 3 + 3 * ls.length = _
    omega
theorem Good.euler {ls : List Land} {n : Nat} {r : List Int} (g : Good ls n r) : (ties (ways ls)).length + 1 = ls.length + n := by
  have h1 := ties_length g.ring g.B g.nd
  rw [ways_len] at h1
  have := g.num
  omega
theorem Good.small {ls : List Land} {n : Nat} {r : List Int} (g : Good ls n r) : ls.length ≤ 118 := by
  have := g.num
  have := g.n59
  omega
end MF
end
section
set_option linter.all false
set_option maxRecDepth 100000
namespace MF
/-! the same map, its lands in another order, each turned -/
def rot (l : Land) : Land := if l.1 ≤ l.2.1 ∧ l.1 ≤ l.2.2 then l else if l.2.1 ≤ l.1 ∧ l.2.1 ≤ l.2.2 then (l.2.1, l.2.2, l.1) else (l.2.2, l.1, l.2.1)
theorem third_perm {W W' : List Land} (p : W.Perm W') (hn : (W.map key).Nodup) (a b : Int) : third W a b = third W' a b := by
  have hn' : (W'.map key).Nodup := (p.map key).nodup_iff.mp hn
  cases h : third W a b with
  | none =>
    symm
    exact third_none.mpr fun c hc => third_none.mp h c (p.mem_iff.mpr hc)
  | some c =>
    symm
    exact (third_some hn').mpr (p.mem_iff.mp (third_mem h))
theorem IsRing.perm {W W' : List Land} {r : List Int} (p : W.Perm W') (hn : (W.map key).Nodup) (h : IsRing W r) : IsRing W' r where
  ne := h.ne
  nd := h.nd
  rim := fun v o => by
    rw [← h.rim]
    unfold Rim
    rw [third_perm p hn]
    simp only [p.mem_iff]
  least := h.least
theorem Good.perm {ls ls' : List Land} {n : Nat} {r : List Int} (p : (ways ls).Perm (ways ls')) (g : Good ls n r) : Good ls' n r := by
  have e : Tr (ways ls) = Tr (ways ls') := by
    funext a b c
    exact propext p.mem_iff
  have hl := p.length_eq
  rw [ways_len, ways_len] at hl
  exact {
    nd := (p.map key).nodup_iff.mp g.nd
    B := e ▸ g.B
    C := e ▸ g.C
    L := e ▸ g.L
    dots := fun x => by
      rw [← g.dots]
      simp only [p.mem_iff]
    ring := g.ring.perm p g.nd
    num := by have := g.num; omega
    r3 := g.r3
    n59 := g.n59 }
theorem perm3 (a b c : Land) : [a, b, c].Perm [b, c, a] := (List.perm_append_comm (l₁ := [a]) (l₂ := [b, c]))
theorem ways1_rot (l : Land) : (ways1 l).Perm (ways1 (rot l)) := by
  obtain ⟨a, b, c⟩ := l
  unfold rot
  split
  · exact .refl _
  · split
    · exact perm3 _ _ _
    · exact (perm3 _ _ _).trans (perm3 _ _ _)
theorem ways_rot : ∀ ls : List Land, (ways ls).Perm (ways (ls.map rot))
  | [] => .refl _
  | l :: ls => (ways1_rot l).append (ways_rot ls)
theorem ways_perm {ls ls' : List Land} (p : ls.Perm ls') : (ways ls).Perm (ways ls') := List.Perm.flatMap_right _ p
def canon (ls : List Land) : List Land := (ls.map rot).mergeSort fun a b => decide (l3 a ≤ l3 b)
theorem canon_perm (ls : List Land) : (canon ls).Perm (ls.map rot) := List.mergeSort_perm _ _
theorem ways_canon (ls : List Land) : (ways ls).Perm (ways (canon ls)) := (ways_rot ls).trans (ways_perm (canon_perm ls).symm)
theorem Good.canon {ls : List Land} {n : Nat} {r : List Int} (g : Good ls n r) : Good (canon ls) n r := g.perm (ways_canon ls)
theorem l3_inj {a b : Land} (h : l3 a = l3 b) : a = b := by
  obtain ⟨a1, a2, a3⟩ := a
  obtain ⟨b1, b2, b3⟩ := b
  simp only [l3, List.cons.injEq, and_true] at h
  obtain ⟨rfl, rfl, rfl⟩ := h
  rfl
theorem srt_canon (ls : List Land) : srt ((ls.map rot).map l3) = (canon ls).map l3 := by
  unfold srt canon
  exact (PySem.W.sort_maps l3 fun a _ b _ => rfl).symm
/-- the dots of the lands -/
theorem mem_dot {ls : List Land} {x : Int} : (∃ b c, (x, b, c) ∈ ways ls) ↔ ∃ l ∈ ls, x ∈ l3 l := by
  unfold ways
  simp only [List.mem_flatMap, ways1, l3]
  constructor
  · rintro ⟨b, c, ⟨l1, l2, l3⟩, hl, h⟩
    refine ⟨_, hl, ?_⟩
    simp only [List.mem_cons, Prod.mk.injEq, List.not_mem_nil, or_false] at h ⊢
    rcases h with ⟨rfl, _⟩ | ⟨rfl, _⟩ | ⟨rfl, _⟩ <;> simp
  · rintro ⟨⟨l1, l2, l3⟩, hl, h⟩
    simp only [List.mem_cons, List.not_mem_nil, or_false] at h
    rcases h with rfl | rfl | rfl
    · exact ⟨l2, l3, _, hl, by simp⟩
    · exact ⟨l3, l1, _, hl, by simp⟩
    · exact ⟨l1, l2, _, hl, by simp⟩
theorem mem_ways_of {ls : List Land} {l : Land} (h : l ∈ ls) : l ∈ ways ls := List.mem_flatMap.mpr ⟨l, h, by simp [ways1]⟩
theorem mem_ways {ls : List Land} {a b c : Int} : (a, b, c) ∈ ways ls ↔ (a, b, c) ∈ ls ∨ (c, a, b) ∈ ls ∨ (b, c, a) ∈ ls := by
  unfold ways
  rw [List.mem_flatMap]
  constructor
  · rintro ⟨⟨x, y, z⟩, hl, h⟩
    simp only [ways1, List.mem_cons, Prod.mk.injEq, List.not_mem_nil, or_false] at h
    rcases h with ⟨rfl, rfl, rfl⟩ | ⟨rfl, rfl, rfl⟩ | ⟨rfl, rfl, rfl⟩
    · exact .inl hl
    · exact .inr (.inl hl)
    · exact .inr (.inr hl)
  · rintro (h | h | h)
    · exact ⟨_, h, by simp [ways1]⟩
    · exact ⟨_, h, by simp [ways1]⟩
    · exact ⟨_, h, by simp [ways1]⟩
def Dis (l : Land) : Prop := l.1 ≠ l.2.1 ∧ l.1 ≠ l.2.2 ∧ l.2.1 ≠ l.2.2
def Ok3 (l : Land) : Prop := Dis l ∧ (0 ≤ l.1 ∧ l.1 ≤ 59) ∧ (0 ≤ l.2.1 ∧ l.2.1 ≤ 59) ∧ 0 ≤ l.2.2 ∧ l.2.2 ≤ 59
theorem Good.ok3 {ls : List Land} {n : Nat} {r : List Int} (g : Good ls n r) : ∀ l ∈ ls, Ok3 l := by
  rintro ⟨a, b, c⟩ hl
  have h1 := mem_ways_of hl
  have h2 := g.B.cyc h1
  have h3 := g.B.cyc h2
  have d1 := (g.dots a).mp ⟨_, _, h1⟩
  have d2 := (g.dots b).mp ⟨_, _, h2⟩
  have d3 := (g.dots c).mp ⟨_, _, h3⟩
  have := g.n59
  exact ⟨⟨g.B.ne h1, (g.B.ne h3).symm, g.B.ne h2⟩, by simp only; omega, by simp only; omega, by simp only; omega, by simp only; omega⟩
theorem Good.len1 {ls : List Land} {n : Nat} {r : List Int} (g : Good ls n r) : 1 ≤ ls.length := by
  rcases ls with _ | ⟨l, ls⟩
  · have h := (g.dots 0).mpr ⟨by omega, by have := g.n_pos; omega⟩
    obtain ⟨_, _, h⟩ := h
    cases h
  · simp
def inner (n : Nat) (r : List Int) : List Int := ((List.range n).map fun i : Nat => (i : Int)).filter fun d => decide (d ∉ r)
end MF
end
section
set_option Elab.async false
set_option linter.all false
set_option maxRecDepth 100000
set_option maxHeartbeats 4000000
namespace MF
open PySem PySem.Spec PyProof.Rows L2
section
variable {P : Program} {w : World} {K : PySem.W.Frag} {mg : Str → Option Value} {base : Heap}
/-! from_least -/
theorem scFromLeast : FnScope ["land", "at"] ["land"] (defScope sFromLeast) := ⟨rfl, rfl, rfl, by decide +kernel, rfl, by decide +kernel, by decide +kernel⟩
theorem rot_idx (l : Land) (m : Int) (h : Least (l3 l) m) (h12 : l.1 ≠ l.2.1) (h13 : l.1 ≠ l.2.2) (h23 : l.2.1 ≠ l.2.2) : ((l3 l).idxOf m = 0 ∧ rot l = l) ∨ ((l3 l).idxOf m = 1 ∧ rot l = (l.2.1, l.2.2, l.1)) ∨ ((l3 l).idxOf m = 2 ∧ rot l = (l.2.2, l.1, l.2.1)) := by
  obtain ⟨a, b, c⟩ := l
  obtain ⟨hm, hl⟩ := h
  simp only [l3, List.mem_cons, List.not_mem_nil, or_false, forall_eq_or_imp, forall_eq] at hm hl
  simp only [l3, rot] at *
  rcases hm with rfl | rfl | rfl
  · left
    exact ⟨by simp, by rw [if_pos ⟨hl.2.1, hl.2.2⟩]⟩
  · right; left
    refine ⟨by simp [List.idxOf_cons, beq_eq_false_iff_ne.mpr h12], ?_⟩
    rw [if_neg (by omega), if_pos (by omega)]
  · right; right
    refine ⟨by simp [List.idxOf_cons, beq_eq_false_iff_ne.mpr h13, beq_eq_false_iff_ne.mpr h23], ?_⟩
    rw [if_neg (by omega), if_neg (by omega)]
theorem rot_cut (l : Land) (m : Int) (h : Least (l3 l) m) (d : Dis l) : cutV ((l3 l).map V.int) (some ((l3 l).idxOf m : Nat)) none ++ (cutV ((l3 l).map V.int) none (some ((l3 l).idxOf m : Nat)) ++ []) = (l3 (rot l)).map V.int := by
  rcases rot_idx l m h d.1 d.2.1 d.2.2 with ⟨e, r⟩ | ⟨e, r⟩ | ⟨e, r⟩ <;> (rw [e, r]; rfl)
def spFromLeast : Sp := fun vs H Q _ => ∃ (p : Addr) (l : Land), vs = [.ref p] ∧ TuD H p (l3 l) ∧ Dis l ∧ ∀ H' q, Same H H' → TuD H' q (l3 (rot l)) → Q (.ref q) H'
theorem ok_fromLeast (T : Tx K mg) : FnOk P w K mg base CX0 1 T.fromLeast.f T.fromLeast.fd ["land"] spFromLeast := by
  refine okN T.fromLeast.F scFromLeast (fun vs H Q E h => ?_) (fun cdv A outer s H vs Q E hr h => ?_)
  · obtain ⟨p, l, rfl, _⟩ := h
    rfl
  · obtain ⟨p, l, rfl, hD, hd, q⟩ := h
    have hu := hu_of hr
    have hu64 := hr.units
    have hp := hD.tu
    refine ⟨_, pss_cons (ps_set (i := 1) scFromLeast.nd rfl (.inl rfl) (pe_mG ty_tup PySem.F.plainAttrs_tuple PySem.F.slot_tuple_index PySem.F.type_tuple_index (mt_tupIndex Int hu) (pv 0) (pa_cons (pe_callB (cr_minTup rfl hu) (by rfl) T.min_ (by decide +kernel) (pa_cons (pv 0) pa_nil)) pa_nil)))
      (pss_one (ps_ret (pe_tupD (StX.pa_star (pe_slice sl_tupB (pv 0) (po_some (pv 1)) po_none) (StX.pa_star (pe_slice sl_tupB (pv 0) po_none (po_some (pv 1))) pa_nil))))), ?_⟩
    refine ⟨_, rfl, ?_, ?_⟩
    · obtain ⟨o, h1, h2, h3⟩ := hD
      exact ⟨p, o, _, rfl, h1, h2, h3⟩
    refine ⟨_, rfl, p, l3 l, rfl, hp.sq, by simp [l3], fun m hm => ?_⟩
    refine ⟨p, _, l3 l, .int m, m, rfl, rfl, hp.sq, ints_dvs _, .int m, hm.1, ?_⟩
    refine ⟨_, rfl, _, rfl, _, rfl, p, _, rfl, hp, fun p1 H1 e1 h1 => ?_⟩
    refine ⟨p1, _, rfl, .inl (.inl h1), _, rfl, _, rfl, _, rfl, p, _, rfl, hp.mono e1, fun p2 H2 e2 h2 => ?_⟩
    refine ⟨p2, _, rfl, .inl (.inl h2), ?_, fun p3 o H3 n3 e3 ho hc h3 => q H3 p3 (e1.trans (e2.trans e3)) ⟨o, ?_, ho, hc⟩⟩
    · rw [rot_cut l m hm hd, List.length_map]
      exact s3
    · rw [rot_cut l m hm hd] at h3
      exact h3
/-! ties_in -/
theorem scTiesIn : FnScope ["ways", "way"] ["ways"] (defScope sTiesIn) := ⟨rfl, rfl, rfl, by decide +kernel, rfl, by decide +kernel, by decide +kernel⟩
def spTiesIn : Sp := fun vs H Q _ => ∃ (d : Addr) (W : List Land), vs = [.ref d] ∧ WD H d W ∧ W.length ≤ 1000 ∧ ∀ H' t, Same H H' → TsT H' t (ties W) → Q (.ref t) H'
theorem wkv_at {W : List Land} {i : Nat} {k : List Key} {v : V} (h : (wkv W)[i]? = some (k, v)) : ∃ l, W[i]? = some l ∧ k = kI [l.1, l.2.1] ∧ v = .int l.2.2 := by
  unfold wkv at h
  rw [List.getElem?_map] at h
  obtain ⟨l, h1, h2⟩ := Option.map_eq_some_iff.mp h
  cases h2
  exact ⟨l, h1, rfl, rfl⟩
theorem wkv_length (W : List Land) : (wkv W).length = W.length := by simp [wkv]
theorem take_map_succ {α β : Type} {f : α → β} {xs : List α} {i : Nat} {x : α} (h : xs[i]? = some x) : (xs.take (i + 1)).map f = (xs.take i).map f ++ [f x] := by
  rw [List.take_succ, h, List.map_append]
  rfl
theorem nub_step {α : Type} [DecidableEq α] (l : List α) (x : α) : nub (l ++ [x]) = if x ∈ nub l then nub l else nub l ++ [x] := nub_snoc l x
theorem kI_mem {nss : List (List Int)} {ns : List Int} : kI ns ∈ nss.map kI ↔ ns ∈ nss := by
  rw [List.mem_map]
  exact ⟨fun ⟨m, h, e⟩ => kI_inj e ▸ h, fun h => ⟨ns, h, rfl⟩⟩
theorem nub_length {α : Type} [DecidableEq α] (l : List α) : (nub l).length ≤ l.length := by
  have h : ∀ (l acc : List α), (l.foldl nubStep acc).length ≤ acc.length + l.length := by
    intro l
    induction l with
    | nil => intro acc; simp
    | cons x l ih =>
      intro acc
      refine Nat.le_trans (ih _) ?_
      unfold nubStep
      by_cases e : x ∈ acc <;> simp [e] <;> omega
  have := h l []
  rw [List.length_nil, Nat.zero_add] at this
  exact this
theorem least_min (a b m : Int) (h : Least [a, b] m) : m = min a b := by
  obtain ⟨h1, h2⟩ := h
  simp only [List.mem_cons, List.not_mem_nil, or_false, forall_eq_or_imp, forall_eq] at h1 h2
  omega
theorem most_max (a b m : Int) (h : Most [a, b] m) : m = max a b := by
  obtain ⟨h1, h2⟩ := h
  simp only [List.mem_cons, List.not_mem_nil, or_false, forall_eq_or_imp, forall_eq] at h1 h2
  omega
theorem ok_tiesIn (T : Tx K mg) : FnOk P w K mg base CX0 1 T.tiesIn.f T.tiesIn.fd ["ways"] spTiesIn := by
  refine okN T.tiesIn.F scTiesIn (fun vs H Q E h => ?_) (fun cdv A outer s H vs Q E hr h => ?_)
  · obtain ⟨d, W, rfl, _⟩ := h
    rfl
  · obtain ⟨d, W, rfl, hd, hl, q⟩ := h
    have hu := hu_of hr
    have hu64 := hr.units
    have hu4 : (A.deeper (envOfC (Str.ofString "ties_in") (defScope sTiesIn) s.heap.objs.size T.tiesIn.f cdv)).units + 4 < cLine := by omega
    refine ⟨_, pss_one (ps_ret (pe_callTy call_tupleA (by rfl) T.tuple_ (by decide +kernel) (pa_cons (pe_callB (cr_sortDT rfl hu4) (by rfl) T.sorted_ (by decide +kernel) (pa_cons
      (pe_lock (pe_dcT (own := [("way", 1)]) (g := gName 1) (tt := tYes) (Nat.lt_of_succ_lt hu) rfl scTiesIn.nd (pi_keys (pv 0)) (blkOk_by (N := ["ways", "way"]) (sc := defScope sTiesIn) (by decide +kernel)) (fun _ _ _ _ _ => pg_name (i := 1) scTiesIn.nd rfl (.inl rfl)) (fun _ _ _ _ _ => pts_nil)
        (fun _ _ _ _ _ => pe_tupA (pa_cons (pe_minTu rfl hu T.min_ (pa_cons (pv 1) pa_nil)) (pa_cons (pe_maxTu rfl hu T.max_ (pa_cons (pv 1) pa_nil)) pa_nil)))
        (fun _ _ _ _ _ => pe_bl))) pa_nil)) pa_nil))), ?_⟩
    refine ⟨d, _, hd, trivial, fun od => ?_⟩
    refine ⟨_, rfl, d, od, rfl, .inr ⟨_, upd_same, fun D hD => ?_⟩⟩
    refine dcT_it walk_keysT (fun i H' => Same (upd H d (.frz od (.dT (wkv W)))) H' ∧ ∃ kvs, H' D = some (.dT kvs) ∧ kvs.map (·.1) = (nub ((W.take i).map mm)).map kI) ⟨Same.new hD, [], upd_same, rfl⟩ (fun i H' _ ⟨e, _⟩ => e _ _ upd_same) ?_ ?_
    · rintro i x H2 H3 hi ⟨e, kvs, hk, hkeys⟩ ⟨rfl, k, v, p, hkv, rfl, hp⟩
      obtain ⟨l, hli, rfl, rfl⟩ := wkv_at hkv
      rw [kI_kV] at hp
      have hT : Tu H3 p [l.1, l.2.1] := .inl hp
      refine ⟨rfl, .ref p, rfl, p, [l.1, l.2.1], rfl, hT, by simp, fun m hm => ?_⟩
      refine ⟨.ref p, rfl, p, [l.1, l.2.1], rfl, hT, by simp, fun m2 hm2 => ⟨s2, fun c H4 n4 e4 h4 => ?_⟩⟩
      have em := least_min _ _ _ hm
      have em2 := most_max _ _ _ hm2
      have hlen : kvs.length ≤ W.length := by
        have := congrArg List.length hkeys
        rw [List.length_map, List.length_map] at this
        rw [this]
        refine Nat.le_trans (nub_length _) ?_
        rw [List.length_map, List.length_take]
        omega
      refine ⟨kvs, kI (mm l), c, rfl, ?_, e4 _ _ hk, sz_lt (by omega), Same.mut (Same.trans e e4) hD, _, upd_same, ?_⟩
      · rw [kI_kV, h4, em, em2]
        rfl
      · rw [putK_keys, hkeys, take_map_succ hli, nub_step]
        by_cases z : mm l ∈ nub ((W.take i).map mm)
        · rw [if_pos (kI_mem.mpr z), if_pos z]
        · rw [if_neg (fun y => z (kI_mem.mp y)), if_neg z, List.map_append]
          rfl
    · rintro H' ⟨e, kvs, hk, hkeys⟩
      rw [wkv_length, List.take_of_length_le (Nat.le_refl _)] at hkeys
      have hDd : D ≠ d := fun z => by rw [z] at hD; rw [upd_same] at hD; cases hD
      have e' : Same H (upd H' d (.dT (wkv W))) := Same.locked hd e
      refine ⟨e _ _ upd_same, D, kvs, _, rfl, .inl ((upd_ne hDd).trans hk), hkeys, fun ns hns => ?_, fun p ps np ht => ?_⟩
      · have := mem_nub.mp hns
        obtain ⟨l, _, rfl⟩ := List.mem_map.mp this
        simp [mm]
      · refine ⟨p, _, rfl, .inl ⟨.inl upd_same, fun t H2 e2 h2 => q H2 t ?_ ?_⟩⟩
        · exact (Same.add e' np).trans e2
        · exact ⟨ps, h2, (ht.mono (Same.new np)).mono e2⟩
end
end MF
end
section
set_option Elab.async false
set_option linter.all false
set_option maxRecDepth 100000
set_option maxHeartbeats 4000000
namespace MF
open PySem PySem.Spec PyProof.Rows L2
section
variable {P : Program} {w : World} {K : PySem.W.Frag} {mg : Str → Option Value} {base : Heap}
theorem atI_last {α : Type} {l : List α} {a : α} : atI (l ++ [a]) (-1) = some a := by
  unfold atI
  have e : ixN (l ++ [a]).length (-1) = some l.length := by
    unfold ixN
    rw [if_neg (by omega)]
    simp only [List.length_append, List.length_singleton]
    rw [if_pos (by omega)]
    congr 1
    omega
  rw [e]
  simp
theorem atI_lastM {l : List Int} {a : Int} : atI ((l ++ [a]).map V.int) (-1) = some (.int a) := by
  rw [List.map_append]
  exact atI_last
/-! first_of -/
theorem scFirstOf : FnScope ["ways", "dot", "tied", "other"] ["ways", "dot", "tied"] (defScope sFirstOf) := ⟨rfl, rfl, rfl, by decide +kernel, rfl, by decide +kernel, by decide +kernel⟩
def spFirstOf : Sp := fun vs H Q _ => ∃ (d t : Addr) (W : List Land) (dot : Int) (os : List Int), vs = [.ref d, .int dot, .ref t] ∧ WR H d W ∧ Rd H t (.lst (os.map V.int)) ∧ os ≠ [] ∧ ∀ f H', Same H H' → IsFirst W dot os f → Q (.int f) H'
theorem ok_firstOf (T : Tx K mg) : FnOk P w K mg base CX0 1 T.firstOf.f T.firstOf.fd ["ways", "dot", "tied"] spFirstOf := by
  refine okN T.firstOf.F scFirstOf (fun vs H Q E h => ?_) (fun cdv A outer s H vs Q E hr h => ?_)
  · obtain ⟨d, t, W, dot, os, rfl, _⟩ := h
    rfl
  · obtain ⟨d, t, W, dot, os, rfl, hW, ht, hne, q⟩ := h
    have hu := hu_of hr
    refine ⟨_, pss_cons (ps_for PassesOwn.never rfl (pi_list (pv 2)) (pg_name (i := 3) scFirstOf.nd rfl (.inl rfl))
      (pss_one (ps_if (pt_cmp (pc_dnotin hu (pe_tupA (pa_cons (pv 3) (pa_cons (pv 1) pa_nil))) (pv 0))) (pss_one (ps_ret (pv 3))) pss_nil)))
      (pss_one (ps_ret (pe_callB (cr_min rfl) (by rfl) T.min_ (by decide +kernel) (pa_cons (pv 2) pa_nil)))), ?_⟩
    refine ⟨_, rfl, t, rfl, ⟨_, .inl ht⟩, ?_⟩
    refine for_list (K := K) (a := t) (xs := os.map V.int) (fun i σ H' => ∃ y, σ = [some (.ref d), some (.int dot), some (.ref t), y] ∧ Same H H' ∧ ∀ o ∈ os.take i, third W o dot ≠ none) ⟨none, rfl, Same.refl H, by simp⟩ (fun i σ H' _ ⟨_, _, e, _⟩ => .inl (Rd.mono e ht)) ?_ ?_
    · rintro i x σ H' hi ⟨y, rfl, e, ha⟩
      rw [List.getElem?_map] at hi
      obtain ⟨o, ho, rfl⟩ := Option.map_eq_some_iff.mp hi
      refine ⟨_, rfl, _, rfl, s2, fun p H2 n2 e2 h2 => ⟨_, rfl, d, _, rfl, WR.get (WR.mono (e.trans e2) hW) h2, _, rfl, ?_⟩⟩
      cases hz : third W o dot with
      | none => exact iteT ⟨_, rfl, q o H2 (e.trans e2) ⟨List.mem_of_getElem? ho, .inl hz⟩⟩
      | some z =>
        refine iteF ⟨_, rfl, e.trans e2, fun a ha' => ?_⟩
        rw [List.take_succ, ho, List.mem_append] at ha'
        rcases ha' with h | h
        · exact ha a h
        · simp at h
          subst h
          rw [hz]
          simp
    · rintro σ H' ⟨y, rfl, e, ha⟩
      rw [List.length_map, List.take_of_length_le (Nat.le_refl _)] at ha
      exact ⟨_, rfl, t, os, rfl, .inl (Rd.mono e ht), List.length_pos_iff.mpr hne, fun m h1 h2 => q m H' e ⟨h1, .inr ha⟩⟩
/-! round_from -/
theorem scRoundFrom : FnScope ["ways", "dot", "first", "found", "later"] ["ways", "dot", "first"] (defScope sRoundFrom) := ⟨rfl, rfl, rfl, by decide +kernel, rfl, by decide +kernel, by decide +kernel⟩
def spRoundFrom : Sp := fun vs H Q _ => ∃ (d : Addr) (W : List Land) (dot first : Int), vs = [.ref d, .int dot, .int first] ∧ WR H d W ∧ InjW W dot ∧ W.length ≤ 1000 ∧ ∀ p H' rd, Same H H' → TuX H' p rd → IsRound W dot first rd → Q (.ref p) H'
theorem ok_roundFrom (T : Tx K mg) : FnOk P w K mg base CX0 1 T.roundFrom.f T.roundFrom.fd ["ways", "dot", "first"] spRoundFrom := by
  refine okN T.roundFrom.F scRoundFrom (fun vs H Q E h => ?_) (fun cdv A outer s H vs Q E hr h => ?_)
  · obtain ⟨d, W, dot, first, rfl, _⟩ := h
    rfl
  · obtain ⟨d, W, dot, first, rfl, hW, inj, hl, q⟩ := h
    have hu := hu_of hr
    refine ⟨_, pss_cons (ps_set (i := 3) scRoundFrom.nd rfl (.inl rfl) (pe_lstA (pa_cons (pv 2) pa_nil)))
      (pss_cons (ps_while PassesOwn.never (pt_cmp (pc_din hu (pe_tupA (pa_cons (pv 1) (pa_cons (pe_ixU (pv 3) (pe_un un_neg pe_int) (fun _ _ => rfl)) pa_nil))) (pv 0)))
        (pss_cons (ps_set (i := 4) scRoundFrom.nd rfl (.inl rfl) (pe_dget hu (pv 0) (pe_tupA (pa_cons (pv 1) (pa_cons (pe_ixU (pv 3) (pe_un un_neg pe_int) (fun _ _ => rfl)) pa_nil))) (fun _ _ => rfl)))
        (pss_cons (ps_if (pt_cmp (pc_eqI (pv 4) (pv 2))) (pss_one ps_break) pss_nil)
        (pss_one (ps_expr (pe_bm PySem.F.plainAttrs_list PySem.F.slot_list_append PySem.F.type_list_append mt_append (pv 3) (pa_cons (pv 4) pa_nil)))))))
      (pss_one (ps_ret (pe_tupleU T.tuple_ (pa_cons (pv 3) pa_nil))))), ?_⟩
    refine ⟨_, rfl, s1, fun fl H1 n1 e1 h1 => ?_⟩
    have fin : ∀ {σ H' l last y}, σ = [some (.ref d), some (.int dot), some (.int first), some (.ref fl), y] → Same H H' → H' fl = some (.lst ((l ++ [last]).map V.int)) → Rnd W dot first l last → (third W dot last = none ∨ third W dot last = some first) → tRet (fun σ H Q => tCons (tVar 3) tNil σ H fun vs H1 => ∃ p ys, vs = [.ref p] ∧ ((Rd H1 p (.lst ys) ∧ ∀ l H2, Same H1 H2 → H2 l = some (.tup ys) → Q (.ref l) H2) ∨ (Rd H1 p (.tup ys) ∧ Q (.ref p) H1))) { nx := fun _ H' => Q .non H', rt := Q } σ H' := by
      rintro σ H' l last y rfl e hf r he
      exact ⟨_, rfl, fl, _, rfl, .inl ⟨.inl hf, fun t H2 e2 h2 => q t H2 _ (e.trans e2) h2 ⟨l, last, rfl, r, he⟩⟩⟩
    refine while_m (fun m σ H' => ∃ l last y, σ = [some (.ref d), some (.int dot), some (.int first), some (.ref fl), y] ∧ Same H H' ∧ H' fl = some (.lst ((l ++ [last]).map V.int)) ∧ Rnd W dot first l last ∧ m = W.length + 1 - l.length) (W.length + 1) ⟨[], first, none, rfl, e1, h1, .one, rfl⟩ ?_
    rintro m σ H' ⟨l, last, y, rfl, e, hf, r, rfl⟩
    have hb := r.bound
    refine ⟨_, rfl, _, rfl, 1, rfl, fl, _, _, _, rfl, rfl, .inr (.inl hf), atI_lastM, s2, fun p H2 n2 e2 h2 => ⟨_, rfl, d, _, rfl, WR.get (WR.mono (e.trans e2) hW) h2, _, rfl, ?_⟩⟩
    cases hz : third W dot last with
    | none => exact iteF (fin rfl (e.trans e2) (e2 _ _ hf) r (.inl hz))
    | some later =>
      refine iteT ⟨fun σ' H' => ∃ m' < W.length + 1 - l.length, ∃ l last y, σ' = [some (.ref d), some (.int dot), some (.int first), some (.ref fl), y] ∧ Same H H' ∧ H' fl = some (.lst ((l ++ [last]).map V.int)) ∧ Rnd W dot first l last ∧ m' = W.length + 1 - l.length, fun σ' H' ⟨m', h1, h2⟩ => ⟨m', h1, h2⟩, ?_⟩
      refine ⟨_, rfl, _, rfl, _, rfl, 1, rfl, fl, _, _, _, rfl, rfl, .inr (.inl (e2 _ _ hf)), atI_lastM, s2, fun p3 H3 n3 e3 h3 => ⟨d, .int later, rfl, ?_, ?_⟩⟩
      · have := WR.get (WR.mono ((e.trans e2).trans e3) hW) h3
        rw [hz] at this
        exact this
      refine ⟨_, rfl, _, rfl, later, first, rfl, rfl, _, rfl, ?_⟩
      have e03 := (e.trans e2).trans e3
      have hf3 := e3 _ _ (e2 _ _ hf)
      by_cases hc : later = first
      · exact ifT (decide_eq_true hc) (fin rfl e03 hf3 r (.inr (hc ▸ hz)))
      · refine ifF (decide_eq_false hc) ⟨_, rfl, .inl ⟨rfl, _, .inl (.inl hf3)⟩, _, rfl, fl, _, _, rfl, rfl, hf3, ?_, ?_⟩
        · rw [List.length_map, List.length_append, List.length_singleton]
          exact sz_lt (by omega)
        · refine ⟨W.length + 1 - (l.length + 1), by omega, l ++ [last], later, _, rfl, Same.mut e03 n1, ?_, r.step inj hz hc, by simp⟩
          rw [upd_same, List.map_append (l₁ := l ++ [last])]
          rfl
end
end MF
end
section
set_option Elab.async false
set_option linter.all false
set_option maxRecDepth 100000
set_option maxHeartbeats 4000000
namespace MF
open PySem PySem.Spec PyProof.Rows L2
section
variable {P : Program} {w : World} {K : PySem.W.Frag} {mg : Str → Option Value} {base : Heap}
/-! tied_from -/
def TDl (H : Hp) (W : List Land) (l : List (Int × V)) : Prop := l.map (·.1) = nub (W.map (·.1)) ∧ ∀ v x, valV l v = some x → ∃ p, x = .ref p ∧ Rd H p (.lst ((outs W v).map V.int))
def TD (H : Hp) (d : Addr) (W : List Land) : Prop := ∃ l, H d = some (.dK (iK l)) ∧ TDl H W l
theorem TDl.mono {H H' : Hp} (e : Same H H') {W : List Land} {l : List (Int × V)} (h : TDl H W l) : TDl H' W l := ⟨h.1, fun v x hv => let ⟨p, h1, h2⟩ := h.2 v x hv; ⟨p, h1, Rd.mono e h2⟩⟩
theorem TD.mono {H H' : Hp} (e : Same H H') {d : Addr} {W : List Land} (h : TD H d W) : TD H' d W := let ⟨l, h1, h2⟩ := h; ⟨l, e _ _ h1, h2.mono e⟩
theorem outs_snoc (W : List Land) (w : Land) (v : Int) : outs (W ++ [w]) v = outs W v ++ if w.1 = v then [w.2.1] else [] := by
  unfold outs
  rw [List.filter_append, List.map_append]
  congr 1
  by_cases h : w.1 = v <;> simp [h]
theorem take_snoc {α : Type} {xs : List α} {i : Nat} {x : α} (h : xs[i]? = some x) : xs.take (i + 1) = xs.take i ++ [x] := by
  rw [List.take_succ, h]
  rfl
theorem valV_some {κ : Type} [DecidableEq κ] {kvs : List (κ × V)} {k : κ} (h : k ∈ kvs.map (·.1)) : ∃ v, valV kvs k = some v := by
  cases e : valV kvs k with
  | none => exact absurd h (valV_not e)
  | some v => exact ⟨v, rfl⟩
theorem scTiedFrom : FnScope ["ways", "found", "one", "other"] ["ways"] (defScope sTiedFrom) := ⟨rfl, rfl, rfl, by decide +kernel, rfl, by decide +kernel, by decide +kernel⟩
def spTiedFrom : Sp := fun vs H Q _ => ∃ (d : Addr) (W : List Land), vs = [.ref d] ∧ WD H d W ∧ W.length ≤ 1000 ∧ ∀ H' f, Same H H' → TD H' f W → Q (.ref f) H'
theorem ok_tiedFrom (T : Tx K mg) : FnOk P w K mg base CX0 1 T.tiedFrom.f T.tiedFrom.fd ["ways"] spTiedFrom := by
  refine okN T.tiedFrom.F scTiedFrom (fun vs H Q E h => ?_) (fun cdv A outer s H vs Q E hr h => ?_)
  · obtain ⟨d, W, rfl, _⟩ := h
    rfl
  · obtain ⟨d, W, rfl, hd, hl, q⟩ := h
    have hu := hu_of hr
    refine ⟨_, pss_cons (ps_set (i := 1) scTiedFrom.nd rfl (.inl rfl) pe_dnewKA)
      (pss_cons (ps_lock (ps_for PassesOwn.never rfl (pi_keys (pv 0)) (pg_tup rfl (pgs_cons (pg_name (i := 2) scTiedFrom.nd rfl (.inl rfl)) (pgs_cons (pg_name (i := 3) scTiedFrom.nd rfl (.inl rfl)) pgs_nil)))
        (pss_one (ps_dput hu (pv 1) (pv 2) (pe_lstA (StX.pa_star (pe_dget2 hu (pv 1) (pv 2) (pe_lstA pa_nil) ⟨rfl, rfl, rfl, rfl⟩) (pa_cons (pv 3) pa_nil))) rfl))))
      (pss_one (ps_ret (pv 1)))), ?_⟩
    intro f H1 nf e1 hf
    have hd1 := e1 _ _ hd
    have hfd : f ≠ d := fun z => by rw [z] at nf; rw [hd] at nf; cases nf
    refine ⟨d, _, hd1, trivial, fun od => ?_⟩
    refine ⟨_, rfl, d, od, rfl, .inr ⟨_, upd_same, ?_⟩⟩
    refine for_it walk_keysT (fun i σ H' => ∃ y2 y3, σ = [some (.ref d), some (.ref f), y2, y3] ∧ Same (upd H d (.frz od (.dT (wkv W)))) H' ∧ ∃ l, H' f = some (.dK (iK l)) ∧ TDl H' (W.take i) l)
      ⟨none, none, rfl, fun b x hb => ?_, [], (upd_ne hfd).trans hf, rfl, fun v x hv => by cases hv⟩ (fun i σ H' _ ⟨_, _, _, e, _⟩ => e _ _ upd_same) ?_ ?_
    · by_cases z : b = d
      · subst z
        rw [upd_same] at hb ⊢
        exact hb
      · rw [upd_ne z] at hb ⊢
        exact e1 _ _ hb
    · rintro i x σ H2 H3 hi ⟨y2, y3, rfl, e, l, hl2, hk, hv⟩ ⟨rfl, k, v, p, hkv, rfl, hp⟩
      obtain ⟨w, hwi, rfl, rfl⟩ := wkv_at hkv
      rw [kI_kV] at hp
      have hlen : (iK l).length < sizeLine := by
        have h1 := congrArg List.length hk
        rw [List.length_map] at h1
        have h2 := nub_length ((W.take i).map (·.1))
        rw [List.length_map, List.length_take] at h2
        have : (iK l).length = l.length := by simp [iK]
        exact sz_lt (by omega)
      have hput : ∀ {H4 H5 : Hp} {t : Addr} {o : Option V}, Same H3 H4 → (valV l w.1 = o) → H4 t = none → Same H4 H5 → H5 t = some (.lst (((outs (W.take i) w.1).map V.int) ++ [.int w.2.1])) → Same (upd H d (.frz od (.dT (wkv W)))) (upd H5 f (.dK (putK (iK l) (.inl w.1) (.ref t)))) ∧ ∃ l', upd H5 f (.dK (putK (iK l) (.inl w.1) (.ref t))) f = some (.dK (iK l')) ∧ TDl (upd H5 f (.dK (putK (iK l) (.inl w.1) (.ref t)))) (W.take (i + 1)) l' := by
        intro H4 H5 t o e34 hval nt e45 ht
        have nf' : upd H d (.frz od (.dT (wkv W))) f = none := by rw [upd_ne hfd]; exact nf
        refine ⟨Same.mut (Same.trans e (Same.trans e34 e45)) nf', putK l w.1 (.ref t), by rw [upd_same, putK_iK], ?_, fun v x hx => ?_⟩
        · rw [putK_keys, hk, take_map_succ hwi, nub_step]
        · rw [valV_put] at hx
          rw [take_snoc hwi, outs_snoc]
          have hf5 : H5 f = some (.dK (iK l)) := e45 _ _ (e34 _ _ hl2)
          by_cases hvw : v = w.1
          · rw [if_pos hvw] at hx
            cases hx
            subst hvw
            refine ⟨t, rfl, .inl ?_⟩
            rw [upd_ne (fun z => by rw [z, hf5] at ht; cases ht), ht, if_pos rfl, List.map_append]
            rfl
          · rw [if_neg hvw] at hx
            obtain ⟨p', rfl, hp'⟩ := hv v x hx
            rw [if_neg (fun z => hvw z.symm), List.append_nil]
            refine ⟨p', rfl, ?_⟩
            have hp5 := Rd.mono (Same.trans e34 e45) hp'
            rcases hp5 with h | ⟨o, h⟩
            · exact .inl (at_ne h fun z => by rw [z, hf5] at h; cases h)
            · exact .inr ⟨o, at_ne h fun z => by rw [z, hf5] at h; cases h⟩
      refine ⟨p, _, rfl, .inl (.inl hp), rfl, _, _, rfl, _, _, rfl, rfl, ?_⟩
      refine ⟨_, rfl, f, rfl, .inl ⟨_, .inl hl2⟩, _, rfl, by decide, fun em H4 n4 e4 h4 => ?_⟩
      refine ⟨valV (iK l) (.inl w.1), .inl ⟨_, .inl w.1, .inl (e4 _ _ hl2), rfl, rfl⟩, ?_⟩
      rw [valV_iK]
      cases hval : valV l w.1 with
      | none =>
        have ho : outs (W.take i) w.1 = [] := by
          have h1 := valV_not hval
          rw [hk, mem_nub] at h1
          rw [outs]
          rw [List.filter_eq_nil_iff.mpr]
          · rfl
          · intro a ha z
            exact h1 (List.mem_map.mpr ⟨a, ha, of_decide_eq_true z⟩)
        refine ⟨em, [], rfl, .inr (.inl (.inl h4)), _, rfl, s1, fun t H5 n5 e5 h5 => ?_⟩
        refine ⟨_, rfl, _, rfl, f, _, rfl, .inl ⟨_, .inl w.1, e5 _ _ (e4 _ _ hl2), rfl, hlen, rfl⟩, _, _, rfl, ?_⟩
        exact hput e4 hval n5 e5 (by rw [ho]; exact h5)
      | some x =>
        obtain ⟨p', rfl, hp'⟩ := hv _ _ hval
        refine ⟨p', _, rfl, .inr (.inl (Rd.mono e4 hp')), _, rfl, ?_, fun t H5 n5 e5 h5 => ?_⟩
        · rw [List.length_append, List.length_map]
          have h2 : (outs (W.take i) w.1).length ≤ (W.take i).length := by
            unfold outs
            rw [List.length_map]
            exact List.length_filter_le _ _
          rw [List.length_take] at h2
          exact sz_of (by simp; omega)
        refine ⟨_, rfl, _, rfl, f, _, rfl, .inl ⟨_, .inl w.1, e5 _ _ (e4 _ _ hl2), rfl, hlen, rfl⟩, _, _, rfl, ?_⟩
        exact hput e4 hval n5 e5 h5
    · rintro σ H' ⟨y2, y3, rfl, e, l, hl2, ht⟩
      rw [wkv_length, List.take_of_length_le (Nat.le_refl _)] at ht
      refine ⟨e _ _ upd_same, _, rfl, q _ f (Same.locked hd e) ⟨l, (upd_ne hfd).trans hl2, ht.1, fun v x hx => ?_⟩⟩
      obtain ⟨p', rfl, hp'⟩ := ht.2 v x hx
      have hdd := e _ _ upd_same
      refine ⟨p', rfl, hp'.elim (fun z => .inl (at_ne z fun k => by rw [k, hdd] at z; cases z)) fun ⟨o, z⟩ => .inr ⟨o, at_ne z fun k => by rw [k, hdd] at z; cases z⟩⟩
end
end MF
end
section
set_option Elab.async false
set_option linter.all false
set_option maxRecDepth 100000
set_option maxHeartbeats 4000000
namespace MF
open PySem PySem.Spec PyProof.Rows L2
section
variable {X : Cx}
theorem swD_true {kx vx : Expr} {gs : List Comprehension} {scope : Scope} {pos py : Pos} {y : Str} {l : Nat} {env : Env} (h1 : env.scope.kind = .function) (h2 : env.scope.names.lookup y = some .local) (h3 : (py.line == pos.line) = true)
    (h4 : (scope.names.any fun (n, k) => n == y && (k == .local || k == .cell)) = false) : swapsWith (.DictComp kx vx gs scope pos) (some (.Name y py)) l env = pure true := by
  have e1 : env.kindOf y = some .local := h2
  have e2 : env.blockKind = .function := by
    unfold Env.blockKind
    rw [h1]
    rfl
  unfold swapsWith
  simp only [e1, e2, h4, h3, Expr.pos]
  rfl
/-- y = {k: v for ..}, ints and texts as keys, y a local -/
theorem ps_setDc {i : Nat} {y : Str} {py : Pos} {kx vx tg iter : Expr} {ifs : List Expr} {scope : Scope} {own : List (Str × Nat)} {pos spos : Pos} {wi : L2.TI} {g : TG} {tt : L2.TT} {tk tv : TE} (calm : X.calm = true) (nd : X.N.Nodup) (at_i : X.N[i]? = some y) (loc : X.env.scope.names.lookup y = some .local)
    (sw : swapsWith (.DictComp kx vx [⟨tg, iter, ifs, 0⟩] scope pos) (some (.Name y py)) spos.line X.env = pure true) (hi : PI X tg iter wi) (ok : BlkOk X.N X.env.scope scope own)
    (hg : InBlk X scope fun B => PG B tg g) (ht : InBlk X scope fun B => PTs B ifs tt) (hk : InBlk X scope fun B => PE B kx tk) (hv : InBlk X scope fun B => PE B vx tv) (hs : ∀ x, foldedSetIterable iter X.env x = pure x := by intro _; rfl) :
    L2.PS X (.Assign [.Name y py] (.DictComp kx vx [⟨tg, iter, ifs, 0⟩] scope pos) spos) (tAsg (tDc wi g tt tk tv (own.map (·.2))) (gName i)) := by
  constructor
  intro pins s σ H D I q
  rw [exec_Assign_Name_used _ _ _ _ sw]
  refine wpAny_bind (wpAny_standAt (wpAny_bind ?_))
  show wpAny _ X.A (do
    let _ ← comprehension (.DictComp kx vx [⟨tg, iter, ifs, 0⟩] scope pos) scope X.env (firstIterPos [⟨tg, iter, ifs, 0⟩] pos) newDict false (eval iter X.env) (some (assign (.Name y py) X.env))) _ _ s
  have q' : tDc wi g tt tk tv (own.map (·.2)) σ H (fun v H1 => gName i v σ H1 D.nx) := q
  refine wpAny_bind (thn (dc_core (Qf := fun _ s' => SP X pins D .next s') calm nd I hi ok hg ht hk hv hs q' fun L C s' m H' I' ql ns fp => ?_) fun _ s' z => wpAny_pure (wpAny_pure z))
  obtain ⟨f0, f1, f2, f3, f4, f5⟩ := fp
  refine wpAny_assign_Name (store_ok2 (v := V.ref L) I' nd at_i (.inl loc) rfl (fun s2 I2 ⟨a, sb, ha⟩ => ?_) (.inr loc))
  have ne : C ≠ a := ha.elim (fun z => z ▸ f1) fun z e => f4 y a z e.symm
  exact ⟨m, ns.sameBut sb ne, fun h3 sb3 => ⟨_, H', I2.turned (t' := s2.toks) (fun b o hb e => (sb3.2 b hb).trans e) f0 f1 f3 f4 f5, ql⟩⟩
end
end MF
end
section
set_option Elab.async false
set_option linter.all false
set_option maxRecDepth 100000
set_option maxHeartbeats 4000000
namespace MF
open PySem PySem.Spec PyProof.Rows L2
section
variable {P : Program} {w : World} {K : PySem.W.Frag} {mg : Str → Option Value} {base : Heap}
/-! frame_in -/
theorem putK_most {κ : Type} [DecidableEq κ] (l : List (κ × V)) (a : κ) (x : V) : (putK l a x).length ≤ l.length + 1 := by
  have h := congrArg List.length (putK_keys l a x)
  rw [List.length_map] at h
  rw [h]
  by_cases z : a ∈ l.map (·.1)
  · rw [if_pos z, List.length_map]; exact Nat.le_succ _
  · rw [if_neg z, List.length_append, List.length_map]; exact Nat.le_refl _
theorem scFrameIn : FnScope ["ways", "after", "found", "one", "other"] ["ways"] (defScope sFrameIn) := ⟨rfl, rfl, rfl, by decide +kernel, rfl, by decide +kernel, by decide +kernel⟩
def spFrameIn : Sp := fun vs H Q _ => ∃ (d : Addr) (W : List Land) (r : List Int), vs = [.ref d] ∧ WD H d W ∧ W.length ≤ 1000 ∧ IsRing W r ∧ ∀ H' p, Same H H' → TuX H' p r → Q (.ref p) H'
theorem ok_frameIn (T : Tx K mg) : FnOk P w K mg base CX0 1 T.frameIn.f T.frameIn.fd ["ways"] spFrameIn := by
  refine okN T.frameIn.F scFrameIn (fun vs H Q E h => ?_) (fun cdv A outer s H vs Q E hr h => ?_)
  · obtain ⟨d, W, r, rfl, _⟩ := h
    rfl
  · obtain ⟨d, W, r, rfl, hd, hl, hr', q⟩ := h
    have hu := hu_of hr
    refine ⟨_, pss_cons (ps_lock (ps_setDc (i := 1) (own := [("one", 3), ("other", 4)]) rfl scFrameIn.nd rfl rfl (swD_true rfl rfl rfl (by decide +kernel)) (pi_keys (pv 0)) (blkOk_by (N := ["ways", "after", "found", "one", "other"]) (sc := defScope sFrameIn) (by decide +kernel))
          (fun _ _ _ _ _ => pg_tupU (n := 2) rfl (pgs_cons (pg_name (i := 3) scFrameIn.nd rfl (.inl rfl)) (pgs_cons (pg_name (i := 4) scFrameIn.nd rfl (.inl rfl)) pgs_nil))) (fun _ _ _ _ _ => pts_one (pt_cmp (pc_dnotin hu (pe_tupA (pa_cons (pv 4) (pa_cons (pv 3) pa_nil))) (pv 0))))
          (fun _ _ _ _ _ => pv 3) (fun _ _ _ _ _ => pv 4)))
      (pss_cons (ps_set (i := 2) scFrameIn.nd rfl (.inl rfl) (pe_lstA (pa_cons (pe_callB (cr_minKI rfl hu) (by rfl) T.min_ (by decide +kernel) (pa_cons (pv 1) pa_nil)) pa_nil)))
      (pss_cons (ps_while PassesOwn.never (pt_cmp (pc_neI (pe_dget hu (pv 1) (pe_ixU (pv 2) (pe_un un_neg pe_int) (fun _ _ => rfl)) (fun _ _ => rfl)) (pe_ixU (pv 2) pe_int (fun _ _ => rfl))))
        (pss_one (ps_expr (pe_bm PySem.F.plainAttrs_list PySem.F.slot_list_append PySem.F.type_list_append mt_append (pv 2) (pa_cons (pe_dget hu (pv 1) (pe_ixU (pv 2) (pe_un un_neg pe_int) (fun _ _ => rfl)) (fun _ _ => rfl)) pa_nil)))))
      (pss_one (ps_ret (pe_tupleU T.tuple_ (pa_cons (pv 2) pa_nil)))))), ?_⟩
    refine ⟨d, _, hd, trivial, fun od => ?_⟩
    refine ⟨_, rfl, d, od, rfl, .inr ⟨_, upd_same, fun D hD => ?_⟩⟩
    have hDd : D ≠ d := fun z => by rw [z, upd_same] at hD; cases hD
    have nD : H D = none := by rw [upd_ne hDd] at hD; exact hD
    refine dcK_it walk_keysT (fun i H' => Same (upd H d (.frz od (.dT (wkv W)))) H' ∧ ∃ l, H' D = some (.dK (iK l)) ∧ (∀ v x, valV l v = some x → ∃ o, x = .int o ∧ Rim W v o) ∧ (∀ v o c, (v, o, c) ∈ W.take i → Rim W v o → v ∈ l.map (·.1)) ∧ l.length ≤ i)
      ⟨Same.new hD, [], upd_same, fun v x hx => (by cases hx), fun v o c hm => (by simp at hm), Nat.le_refl _⟩ (fun i H' _ ⟨e, _⟩ => e _ _ upd_same) ?_ ?_
    · rintro i x H2 H3 hi ⟨e, l, hl2, hv, hk, hz⟩ ⟨rfl, k, v, p, hkv, rfl, hp⟩
      obtain ⟨⟨a, b, c⟩, hwi, rfl, rfl⟩ := wkv_at hkv
      rw [wkv_length] at hi
      rw [kI_kV] at hp
      refine ⟨p, _, rfl, .inl hp, rfl, _, _, rfl, _, _, rfl, rfl, rfl, ?_⟩
      refine ⟨_, rfl, _, rfl, s2, fun p2 H4 n4 e4 h4 => ⟨_, rfl, d, _, rfl, WR.get (.inr ⟨od, e4 _ _ (e _ _ upd_same)⟩) h4, _, rfl, ?_⟩⟩
      cases hth : third W b a with
      | none =>
        have hrim : Rim W a b := ⟨⟨c, List.mem_of_getElem? hwi⟩, hth⟩
        have hmem := putK_keys l a (.int b)
        refine iteT ⟨_, rfl, _, rfl, iK l, .inl a, rfl, e4 _ _ hl2, by rw [show (iK l).length = l.length by simp [iK]]; exact sz_lt (by omega), Same.mut (Same.trans e e4) hD, putK l a (.int b), by rw [upd_same, putK_iK], fun v x hx => ?_, fun v o c' hm hr => ?_, Nat.le_trans (putK_most l a (.int b)) (by omega)⟩
        · rw [valV_put] at hx
          by_cases hva : v = a
          · rw [if_pos hva] at hx
            cases hx
            exact ⟨b, rfl, hva ▸ hrim⟩
          · rw [if_neg hva] at hx
            exact hv v x hx
        · rw [take_snoc hwi, List.mem_append] at hm
          rw [hmem]
          rcases hm with hm | hm
          · have := hk v o c' hm hr
            by_cases z : a ∈ l.map (·.1)
            · rw [if_pos z]; exact this
            · rw [if_neg z]; exact List.mem_append_left _ this
          · simp at hm
            obtain ⟨rfl, rfl, rfl⟩ := hm
            by_cases z : v ∈ l.map (·.1)
            · rw [if_pos z]; exact z
            · rw [if_neg z]; exact List.mem_append_right _ (by simp)
      | some z =>
        refine iteF ⟨Same.trans e e4, l, e4 _ _ hl2, hv, fun v o c' hm hr => ?_, by omega⟩
        rw [take_snoc hwi, List.mem_append] at hm
        rcases hm with hm | hm
        · exact hk v o c' hm hr
        · simp at hm
          obtain ⟨rfl, rfl, rfl⟩ := hm
          have := hr.2
          rw [hth] at this
          cases this
    · rintro H2 ⟨e, l, hl2, hv, hk, hz⟩
      rw [wkv_length, List.take_of_length_le (Nat.le_refl _)] at hk
      have e2 : Same H (upd H2 d (.dT (wkv W))) := Same.locked hd e
      have hl3 : upd H2 d (.dT (wkv W)) D = some (.dK (iK l)) := (upd_ne hDd).trans hl2
      refine ⟨e _ _ upd_same, ?_⟩
      generalize upd H2 d (.dT (wkv W)) = H3 at e2 hl3 ⊢
      -- what the dict says
      have nxt : ∀ {i : Nat} {v : Int}, r[i]? = some v → ∃ o, valV l v = some (.int o) ∧ r[(i + 1) % r.length]? = some o := by
        intro i v hi
        have hlt : (i + 1) % r.length < r.length := Nat.mod_lt _ (List.length_pos_iff.mpr hr'.ne)
        obtain ⟨o, ho⟩ : ∃ o, r[(i + 1) % r.length]? = some o := ⟨_, List.getElem?_eq_getElem hlt⟩
        have hrim := (hr'.rim v o).mpr ⟨i, hi, ho⟩
        obtain ⟨c, hc⟩ := hrim.1
        obtain ⟨x, hx⟩ := valV_some (hk v o c hc hrim)
        obtain ⟨o', rfl, hr2⟩ := hv v x hx
        obtain ⟨j, hj, hj2⟩ := (hr'.rim v o').mp hr2
        have hij : i = j := (List.getElem?_inj (List.getElem?_eq_some_iff.mp hi).1 hr'.nd).mp (hi.trans hj.symm)
        subst hij
        exact ⟨o', hx, hj2⟩
      have keys : ∀ v, v ∈ l.map (·.1) → ∃ i, r[i]? = some v := fun v hm => by
        obtain ⟨x, hx⟩ := valV_some hm
        obtain ⟨o, rfl, hr2⟩ := hv v x hx
        obtain ⟨i, hi, _⟩ := (hr'.rim v o).mp hr2
        exact ⟨i, hi⟩
      have keys' : ∀ {i v}, r[i]? = some v → v ∈ l.map (·.1) := fun {i v} hi => by
        obtain ⟨o, ho, _⟩ := nxt hi
        exact valV_in ho
      obtain ⟨r0, rt, hr0⟩ : ∃ r0 rt, r = r0 :: rt := by
        cases r with
        | nil => exact absurd rfl hr'.ne
        | cons a b => exact ⟨a, b, rfl⟩
      have h00 : r[0]? = some r0 := by rw [hr0]; rfl
      refine ⟨_, rfl, D, iK l, l.map (·.1), rfl, .inl hl3, iK_keys l, List.ne_nil_of_mem (keys' h00), fun m hm => ⟨s1, fun fl H4 n4 e4 h4 => ?_⟩⟩
      have hm0 : m = r0 := by
        obtain ⟨i, hi⟩ := keys m hm.1
        have h1 := hr'.least m (List.mem_of_getElem? hi) r0 h00
        have h2 := hm.2 r0 (keys' h00)
        omega
      subst hm0
      refine while_m (fun n σ H' => ∃ k last, r[k]? = some last ∧ σ = [some (.ref d), some (.ref D), some (.ref fl), none, none] ∧ Same H3 H' ∧ H' fl = some (.lst ((r.take k ++ [last]).map V.int)) ∧ n = r.length - k) r.length ⟨0, m, h00, rfl, e4, h4, rfl⟩ ?_
      rintro n σ H' ⟨k, last, hk0, rfl, e', hf, rfl⟩
      have hkl := (List.getElem?_eq_some_iff.mp hk0).1
      have htk : r.take k ++ [last] = r.take (k + 1) := (take_snoc hk0).symm
      have hfirst : atI ((r.take k ++ [last]).map V.int) 0 = some (.int m) := by
        rw [htk, hr0]
        exact atI_nat (j := 0) rfl
      obtain ⟨o, ho, ho2⟩ := nxt hk0
      have hgD : ∀ {H5 : Hp}, Same H' H5 → DGet H5 D (.int last) (some (.int o)) := fun {H5} e5 => .inl ⟨iK l, .inl last, .inl (e5 _ _ (e' _ _ hl3)), rfl, by rw [valV_iK, ho]⟩
      refine ⟨_, rfl, _, rfl, 1, rfl, fl, _, _, _, rfl, rfl, .inr (.inl hf), atI_lastM, D, .int o, rfl, hgD (Same.refl _), ?_⟩
      refine ⟨_, rfl, fl, _, 0, .int m, rfl, rfl, .inr (.inl hf), hfirst, o, m, rfl, rfl, _, rfl, ?_⟩
      by_cases hc : o = m
      · refine ifF (by simp [hc]) ⟨_, rfl, fl, _, rfl, .inl ⟨.inl hf, fun t H5 e5 h5 => q H5 t ((e2.trans e').trans e5) ?_⟩⟩
        show H5 t = some (.tup (r.map V.int))
        rw [h5, htk]
        have hkk : k + 1 = r.length := by
          have hlt : (k + 1) % r.length < r.length := Nat.mod_lt _ (by omega)
          have h0 : r[(k + 1) % r.length]? = r[0]? := by rw [ho2, h00, hc]
          have := (List.getElem?_inj hlt hr'.nd).mp h0
          rcases Nat.lt_or_ge (k + 1) r.length with h | h
          · rw [Nat.mod_eq_of_lt h] at this
            omega
          · omega
        rw [hkk, List.take_length]
      · refine ifT (by simp [hc]) ⟨fun σ' H' => ∃ n' < r.length - k, ∃ k last, r[k]? = some last ∧ σ' = [some (.ref d), some (.ref D), some (.ref fl), none, none] ∧ Same H3 H' ∧ H' fl = some (.lst ((r.take k ++ [last]).map V.int)) ∧ n' = r.length - k, fun σ' H' ⟨n', h1, h2⟩ => ⟨n', h1, h2⟩, ?_⟩
        refine ⟨_, rfl, .inl ⟨rfl, _, .inl (.inl hf)⟩, _, rfl, _, rfl, 1, rfl, fl, _, _, _, rfl, rfl, .inr (.inl hf), atI_lastM, D, .int o, rfl, hgD (Same.refl _), fl, _, _, rfl, rfl, hf, ?_, ?_⟩
        · rw [List.length_map, htk, List.length_take]
          have : r.length ≤ W.length := by
            have h1 := nodup_len_le (ys := W.map (·.1)) hr'.nd fun x hx => by
              obtain ⟨i, hi, rfl⟩ := List.mem_iff_getElem.mp hx
              obtain ⟨o, ho, _⟩ := nxt (List.getElem?_eq_getElem hi)
              obtain ⟨o', _, hr2⟩ := hv _ _ ho
              obtain ⟨c, hc⟩ := hr2.1
              exact List.mem_map.mpr ⟨_, hc, rfl⟩
            rwa [List.length_map] at h1
          exact sz_lt (by omega)
        · have hkk : k + 1 < r.length := by
            rcases Nat.lt_or_ge (k + 1) r.length with h | h
            · exact h
            · have : k + 1 = r.length := by omega
              rw [this, Nat.mod_self, h00] at ho2
              exact absurd (Option.some.inj ho2).symm hc
          rw [Nat.mod_eq_of_lt hkk] at ho2
          refine ⟨r.length - (k + 1), by omega, k + 1, o, ho2, rfl, Same.mut e' n4, ?_, rfl⟩
          rw [upd_same, htk, List.map_append]
          rfl
end
end MF
end
section
set_option Elab.async false
set_option linter.all false
set_option maxRecDepth 100000
set_option maxHeartbeats 4000000
namespace MF
open PySem PySem.Spec PyProof.Rows L2
open PySem.W (Tup)
section
variable {X : Cx}
theorem tups_inj : ∀ {a b : List (List Int)}, (a.map Tup.mk = b.map Tup.mk) = (a = b) := fun {a b} => propext ⟨fun h => by
  induction a generalizing b with
  | nil => cases b with
    | nil => rfl
    | cons _ _ => cases h
  | cons x xs ih => cases b with
    | nil => cases h
    | cons y ys =>
      simp only [List.map_cons, List.cons.injEq] at h
      obtain ⟨h1, h2⟩ := h
      cases h1
      rw [ih h2], fun h => h ▸ rfl⟩
/-- two lists of tuples of ints: ==, != -/
theorem op_eqLT (hu : X.A.units + 2 < cLine) : OpR X (compareOp .Eq) (fun x y H Q => ∃ (p q : Addr) (as bs : List Addr) (a b : List (List Int)), x = .ref p ∧ y = .ref q ∧ Rd H p (.lst (as.map V.ref)) ∧ Tus H as a ∧ Rd H q (.lst (bs.map V.ref)) ∧ Tus H bs b ∧ Q (.bl (decide (a = b))) H) := fun pins s σ H x y v u Q I rx ry ⟨p, q, as, bs, a, b, e1, e2, h1, t1, h2, t2, k⟩ =>
  op_eqT (List (Tup Int)) hu pins s σ H x y v u Q I rx ry ⟨a.map .mk, b.map .mk, e1 ▸ Dp.lst (.inl h1) t1.dvs, e2 ▸ Dp.lst (.inl h2) t2.dvs, by rw [show decide (a.map Tup.mk = b.map Tup.mk) = decide (a = b) by simp only [tups_inj]]; exact k⟩
theorem op_neLT (hu : X.A.units + 2 < cLine) : OpR X (compareOp .NotEq) (fun x y H Q => ∃ (p q : Addr) (as bs : List Addr) (a b : List (List Int)), x = .ref p ∧ y = .ref q ∧ Rd H p (.lst (as.map V.ref)) ∧ Tus H as a ∧ Rd H q (.lst (bs.map V.ref)) ∧ Tus H bs b ∧ Q (.bl (decide (a ≠ b))) H) := fun pins s σ H x y v u Q I rx ry ⟨p, q, as, bs, a, b, e1, e2, h1, t1, h2, t2, k⟩ =>
  op_neT (List (Tup Int)) hu pins s σ H x y v u Q I rx ry ⟨a.map .mk, b.map .mk, e1 ▸ Dp.lst (.inl h1) t1.dvs, e2 ▸ Dp.lst (.inl h2) t2.dvs, by rw [show decide (a.map Tup.mk ≠ b.map Tup.mk) = decide (a ≠ b) by simp only [ne_eq, tups_inj]]; exact k⟩
/-- two lists of ints: ==, != -/
theorem op_eqLI (hu : X.A.units + 1 < cLine) : OpR X (compareOp .Eq) (fun x y H Q => ∃ (p q : Addr) (a b : List Int), x = .ref p ∧ y = .ref q ∧ Rd H p (.lst (a.map V.int)) ∧ Rd H q (.lst (b.map V.int)) ∧ Q (.bl (decide (a = b))) H) := fun pins s σ H x y v u Q I rx ry ⟨p, q, a, b, e1, e2, h1, h2, k⟩ =>
  op_eqT (List Int) hu pins s σ H x y v u Q I rx ry ⟨a, b, e1 ▸ Dp.lst (.inl h1) (ints_dvs a), e2 ▸ Dp.lst (.inl h2) (ints_dvs b), k⟩
theorem op_neLI (hu : X.A.units + 1 < cLine) : OpR X (compareOp .NotEq) (fun x y H Q => ∃ (p q : Addr) (a b : List Int), x = .ref p ∧ y = .ref q ∧ Rd H p (.lst (a.map V.int)) ∧ Rd H q (.lst (b.map V.int)) ∧ Q (.bl (decide (a ≠ b))) H) := fun pins s σ H x y v u Q I rx ry ⟨p, q, a, b, e1, e2, h1, h2, k⟩ =>
  op_neT (List Int) hu pins s σ H x y v u Q I rx ry ⟨a, b, e1 ▸ Dp.lst (.inl h1) (ints_dvs a), e2 ▸ Dp.lst (.inl h2) (ints_dvs b), k⟩
/-- a is the word True or False of a test: the branch by a Bool -/
theorem ifB {b c : Bool} {A B : Prop} (e : b = c) (h1 : c = true → A) (h2 : c = false → B) : if b = true then A else B := by
  subst e
  cases b with
  | true => exact h1 rfl
  | false => exact ifF rfl (h2 rfl)
end
end MF
end
section
set_option Elab.async false
set_option linter.all false
set_option maxRecDepth 100000
set_option maxHeartbeats 4000000
namespace MF
open PySem PySem.Spec PyProof.Rows L2
section
variable {P : Program} {w : World} {K : PySem.W.Frag} {mg : Str → Option Value} {base : Heap}
/-! hang_together -/
def kkv (k : List Pr) : List (List Key × V) := k.map fun p => (kI (pl p), .bl true)
theorem kkv_keys (k : List Pr) : (kkv k).map (·.1) = (k.map pl).map kI := by simp [kkv]
theorem pl_inj {p q : Pr} (h : pl p = pl q) : p = q := by
  simp only [pl, List.cons.injEq, and_true] at h
  exact Prod.ext h.1 h.2
theorem kkv_mem {k : List Pr} {p : Pr} : kI (pl p) ∈ (kkv k).map (·.1) ↔ p ∈ k := by
  rw [kkv_keys, kI_mem, List.mem_map]
  exact ⟨fun ⟨q, h, e⟩ => pl_inj e ▸ h, fun h => ⟨p, h, rfl⟩⟩
theorem kkv_val {k : List Pr} {p : Pr} : (valV (kkv k) (kI (pl p))).isSome = decide (p ∈ k) := by
  cases h : valV (kkv k) (kI (pl p)) with
  | none =>
    have h1 : p ∉ k := fun z => valV_not h (kkv_mem.mpr z)
    rw [decide_eq_false h1]
    rfl
  | some v => simp [kkv_mem.mp (valV_in h)]
theorem kkv_put {k : List Pr} {p : Pr} (h : p ∉ k) : putK (kkv k) (kI (pl p)) (.bl true) = kkv (k ++ [p]) := by
  have : valV (kkv k) (kI (pl p)) = none := by
    cases z : valV (kkv k) (kI (pl p)) with
    | none => rfl
    | some v => exact absurd (kkv_mem.mp (valV_in z)) h
  rw [putK_new _ this]
  simp [kkv]
theorem wkv_keys (W : List Land) : (wkv W).map (·.1) = (W.map fun w => [w.1, w.2.1]).map kI := by simp [wkv]
abbrev TuXs (H : Hp) : List Addr → List Pr → Prop := Paired fun p q => TuX H p (pl q)
theorem TuXs.ext {H H' : Hp} (e : Ext H H') {ps : List Addr} {g : List Pr} (h : TuXs H ps g) : TuXs H' ps g := Paired_mono (fun _ _ z => TuX.ext e z) h
theorem TuXs.tus {H : Hp} : ∀ {ps : List Addr} {g : List Pr}, TuXs H ps g → Tus H ps (g.map pl)
  | _, _, .nil => .nil
  | _, _, .cons h t => .cons h.tu (TuXs.tus t)
theorem paired_last {α β : Type} {F : α → β → Prop} {xs : List α} {ys : List β} {y : β} (h : Paired F xs (ys ++ [y])) : ∃ xs' x, xs = xs' ++ [x] ∧ Paired F xs' ys ∧ F x y := by
  induction ys generalizing xs with
  | nil =>
    cases h with
    | cons a t => cases t; exact ⟨[], _, rfl, .nil, a⟩
  | cons b ys ih =>
    cases h with
    | cons a t =>
      obtain ⟨xs', x, rfl, h1, h2⟩ := ih t
      exact ⟨_ :: xs', x, rfl, .cons a h1, h2⟩
theorem scHangTogether : FnScope ["ways", "first", "known", "going", "one", "other", "way"] ["ways"] (defScope sHangTogether) := ⟨rfl, rfl, rfl, by decide +kernel, rfl, by decide +kernel, by decide +kernel⟩
def spHangTogether : Sp := fun vs H Q _ => ∃ (d : Addr) (W : List Land), vs = [.ref d] ∧ WD H d W ∧ W ≠ [] ∧ W.length ≤ 1000 ∧ (W.map key).Nodup ∧ Conn (Tr W) ∧ (∀ a b c, (a, b, c) ∈ W → (b, c, a) ∈ W) ∧ ∀ H', Same H H' → Q (.bl true) H'
theorem ok_hangTogether (T : Tx K mg) : FnOk P w K mg base CX0 1 T.hangTogether.f T.hangTogether.fd ["ways"] spHangTogether := by
  refine okN T.hangTogether.F scHangTogether (fun vs H Q E h => ?_) (fun cdv A outer s H vs Q E hr h => ?_)
  · obtain ⟨d, W, rfl, _⟩ := h
    rfl
  · obtain ⟨d, W, rfl, hd, hne, hl, hnd, hC, hcyc, q⟩ := h
    have hu := hu_of hr
    have hu64 := hr.units
    have hu2 : (A.deeper (envOfC (Str.ofString "hang_together") (defScope sHangTogether) s.heap.objs.size T.hangTogether.f cdv)).units + 2 < cLine := by omega
    refine ⟨_, pss_cons (ps_set (i := 1) scHangTogether.nd rfl (.inl rfl) (pe_callB (cr_minT rfl hu2) (by rfl) T.min_ (by decide +kernel) (pa_cons (pv 0) pa_nil)))
      (pss_cons (ps_par (i := 2) (j := 3) rfl scHangTogether.nd rfl rfl (by decide) rfl rfl (pa_cons (pe_dict1T (Nat.lt_of_succ_lt hu) (pv 1) pe_bl) (pa_cons (pe_lstA (pa_cons (pv 1) pa_nil)) pa_nil)) (by rfl))
      (pss_cons (ps_while PassesOwn.never (pt_cmpR (op_neLT hu2) (pv 3) (pe_lstA pa_nil) (nomark _))
        (pss_cons (ps_asg (pe_bm0 PySem.F.plainAttrs_list PySem.F.slot_list_pop PySem.F.type_list_pop mt_pop (pv 3)) (pg_tupU (n := 2) rfl (pgs_cons (pg_name (i := 4) scHangTogether.nd rfl (.inl rfl)) (pgs_cons (pg_name (i := 5) scHangTogether.nd rfl (.inl rfl)) pgs_nil))))
        (pss_one (ps_for PassesOwn.never rfl (pi_tup (pe_tupA (pa_cons (pe_tupA (pa_cons (pv 5) (pa_cons (pe_dget hu (pv 0) (pe_tupA (pa_cons (pv 4) (pa_cons (pv 5) pa_nil))) (fun _ _ => rfl)) pa_nil))) (pa_cons (pe_tupA (pa_cons (pv 5) (pa_cons (pv 4) pa_nil))) pa_nil)))) (pg_name (i := 6) scHangTogether.nd rfl (.inl rfl))
          (pss_one (ps_if (PW.pt (pw_and (pt_cmp (pc_din hu (pv 6) (pv 0))) (pw_and1 (pt_cmp (pc_dnotin hu (pv 6) (pv 2)))))) (pss_cons (ps_dput hu (pv 2) (pv 6) pe_bl rfl) (pss_one (ps_expr (pe_bm PySem.F.plainAttrs_list PySem.F.slot_list_append PySem.F.type_list_append mt_append (pv 3) (pa_cons (pv 6) pa_nil))))) pss_nil))))))
      (pss_one (ps_ret (pe_cmpR op_eq (pe_callB call_len_dT (by rfl) T.len_ (by decide +kernel) (pa_cons (pv 2) pa_nil)) (pe_callB call_len_dT (by rfl) T.len_ (by decide +kernel) (pa_cons (pv 0) pa_nil)) (nomark _)))))), ?_⟩
    refine ⟨_, rfl, d, _, _, rfl, .inl hd, wkv_keys W, by simpa using hne, fun p0 ns hns hp0 => ?_⟩
    obtain ⟨⟨a0, b0, c0⟩, hw0, rfl⟩ := List.mem_map.mp hns
    have hf0 : ((a0, b0) : Pr) ∈ W.map key := key_mem.mpr ⟨c0, hw0⟩
    intro kd nkd
    refine ⟨_, rfl, p0, kI (pl (a0, b0)), rfl, ?_, upd_same, _, rfl, s1, fun gl H2 n2 e2 h2 => ?_⟩
    · rw [kI_kV]
      exact at_new hp0 nkd
    rw [upd_upd] at e2 n2
    have hkd2 : H2 kd = some (.dT (kkv [(a0, b0)])) := e2 _ _ upd_same
    have hgk : gl ≠ kd := fun z => by rw [z, upd_same] at n2; cases n2
    have ngl : H gl = none := by rw [upd_ne hgk] at n2; exact n2
    have e02 : Same H H2 := (Same.new nkd).trans e2
    refine ⟨_, _, rfl, ?_⟩
    refine while_m (fun m σ H' => ∃ k g ps y4 y5 y6, σ = [some (.ref d), some (.ref p0), some (.ref kd), some (.ref gl), y4, y5, y6] ∧ Same H H' ∧ H' kd = some (.dT (kkv k)) ∧ H' gl = some (.lst (ps.map V.ref)) ∧ TuXs H' ps g ∧ Hang W none k g ∧ ((a0, b0) : Pr) ∈ k ∧ m = 3 * (W.length - k.length) + g.length) _
      ⟨[(a0, b0)], [(a0, b0)], [p0], none, none, none, rfl, e02, hkd2, h2, .cons (e2 _ _ (at_new hp0 nkd)) .nil, .one hf0, by simp, rfl⟩ ?_
    rintro m σ H' ⟨k, g, ps, y4, y5, y6, rfl, e, hk, hg, ht, hh, hfk, rfl⟩
    refine ⟨_, rfl, by decide, fun em H3 n3 e3 h3 => ⟨gl, em, ps, [], g.map pl, [], rfl, rfl, .inl (e3 _ _ hg), (ht.ext (Same.ext e3)).tus, .inl h3, .nil, _, rfl, ?_⟩⟩
    refine ifB rfl (fun hc => ?_) (fun hc => ?_)
    · have hgne : g ≠ [] := fun z => by rw [z] at hc; simp at hc
      obtain ⟨g', ⟨a, b⟩, rfl⟩ : ∃ g' c, g = g' ++ [c] := ⟨g.dropLast, g.getLast hgne, (List.dropLast_concat_getLast hgne).symm⟩
      have ht3 := ht.ext (Same.ext e3)
      obtain ⟨ps', p, rfl, ht', hp⟩ := paired_last ht3
      have hg3 := e3 _ _ hg
      have hk3 := e3 _ _ hk
      have hh' := hh.pop
      have hab := hh.sub (a, b) (hh.has _ (by simp))
      obtain ⟨c, hc⟩ := key_mem.mp hab
      have hbc := hcyc a b c hc
      refine ⟨fun σ' H' => ∃ m' < 3 * (W.length - k.length) + (g' ++ [(a, b)]).length, ∃ k g ps y4 y5 y6, σ' = [some (.ref d), some (.ref p0), some (.ref kd), some (.ref gl), y4, y5, y6] ∧ Same H H' ∧ H' kd = some (.dT (kkv k)) ∧ H' gl = some (.lst (ps.map V.ref)) ∧ TuXs H' ps g ∧ Hang W none k g ∧ ((a0, b0) : Pr) ∈ k ∧ m' = 3 * (W.length - k.length) + g.length, fun σ' H' ⟨m', h1, h2⟩ => ⟨m', h1, h2⟩, ?_⟩
      have e03 := e.trans e3
      refine ⟨_, rfl, .inl ⟨rfl, _, .inl (.inl hg3)⟩, gl, _, .ref p, rfl, rfl, hg3, by simp, ?_⟩
      have e4 : Same H (upd H3 gl (.lst ((ps' ++ [p]).map V.ref).dropLast)) := Same.mut e03 ngl
      have x4 : Ext H3 (upd H3 gl (.lst ((ps' ++ [p]).map V.ref).dropLast)) := Ext.put hg3
      have hk4 : upd H3 gl (.lst ((ps' ++ [p]).map V.ref).dropLast) kd = some (.dT (kkv k)) := (upd_ne hgk.symm).trans hk3
      have hg4 : upd H3 gl (.lst ((ps' ++ [p]).map V.ref).dropLast) gl = some (.lst (ps'.map V.ref)) := by rw [upd_same]; simp
      generalize upd H3 gl (.lst ((ps' ++ [p]).map V.ref).dropLast) = H4 at e4 x4 hk4 hg4 ⊢
      have hp4 : TuX H4 p [a, b] := hp.ext x4
      refine ⟨p, _, rfl, .inl hp4, rfl, _, _, rfl, _, _, rfl, rfl, ?_⟩
      refine ⟨_, rfl, _, rfl, _, rfl, _, rfl, s2, fun p5 H5 n5 e5 h5 => ⟨d, .int c, rfl, ?_, s2, fun p6 H6 n6 e6 h6 => ?_⟩⟩
      · have := WR.get (WR.mono (e4.trans e5) hd.rd) h5
        rw [(third_some hnd).mpr hc] at this
        exact this
      refine ⟨_, rfl, _, rfl, s2, fun p7 H7 n7 e7 h7 => ⟨s2, fun t H8 n8 e8 h8 => ?_⟩⟩
      have e48 := (Same.trans e5 e6).trans (Same.trans e7 e8)
      have t6 : TuX H8 p6 (pl (b, c)) := e8 _ _ (e7 _ _ h6)
      have t7 : TuX H8 p7 (pl (b, a)) := e8 _ _ h7
      refine ⟨t, rfl, ⟨_, .inl (.inl h8)⟩, ?_⟩
      refine for_tup (K := K) (a := t) (xs := [.ref p6, .ref p7]) (fun j σ H' => ∃ k1 g1 ps1 y6, σ = [some (.ref d), some (.ref p0), some (.ref kd), some (.ref gl), some (.int a), some (.int b), y6] ∧ Same H H' ∧ Ext H8 H' ∧ H' kd = some (.dT (kkv k1)) ∧ H' gl = some (.lst (ps1.map V.ref)) ∧ TuXs H' ps1 g1 ∧ Hang W (some (a, b)) k1 g1 ∧ ((a0, b0) : Pr) ∈ k1 ∧
          (0 < j → ((b, c) : Pr) ∈ k1) ∧ (1 < j → ((b, a) : Pr) ∈ W.map key → ((b, a) : Pr) ∈ k1) ∧ 3 * (W.length - k1.length) + g1.length ≤ 3 * (W.length - k.length) + g'.length)
        ⟨k, g', ps', y6, rfl, e4.trans e48, Ext.refl _, e48 _ _ hk4, e48 _ _ hg4, TuXs.ext (x4.trans (Same.ext e48)) ht', hh', hfk, fun z => absurd z (by omega), fun z => absurd z (by omega), Nat.le_refl _⟩
        (fun j σ H' _ ⟨_, _, _, _, _, _, x, _⟩ => .inl (.inl (x _ _ h8 (.tup _)))) ?_ ?_
      · rintro j y σ H' hj ⟨k1, g1, ps1, y6, rfl, e', x, hk', hg', ht1, hh1, hfk1, hin1, hin2, hm⟩
        obtain ⟨r, u, v, rfl, tr, hj0, hj1⟩ : ∃ r u v, y = .ref r ∧ TuX H8 r (pl (u, v)) ∧ (j = 0 → u = b ∧ v = c) ∧ (j = 0 ∨ (j = 1 ∧ u = b ∧ v = a)) := by
          match j, hj with
          | 0, hj => cases hj; exact ⟨p6, b, c, rfl, t6, fun _ => ⟨rfl, rfl⟩, .inl rfl⟩
          | 1, hj => cases hj; exact ⟨p7, b, a, rfl, t7, fun z => absurd z (by omega), .inr ⟨rfl, rfl, rfl⟩⟩
        have tr' : TuX H' r [u, v] := tr.ext x
        have hmt : (Option.map V.int (third W u v)).isSome = decide (((u, v) : Pr) ∈ W.map key) := by
          rw [Option.isSome_map, Bool.eq_iff_iff, third_isSome, decide_eq_true_eq, key_mem]
        refine ⟨_, rfl, _, rfl, d, _, rfl, WR.get (WR.mono e' hd.rd) tr', _, rfl, ?_⟩
        refine ifB hmt (fun hin => ?_) (fun hin => ?_)
        · have hin' := of_decide_eq_true hin
          refine ⟨_, rfl, _, rfl, kd, valV (kkv k1) (kI (pl (u, v))), rfl, .inr ⟨_, _, r, .inl hk', rfl, by rw [kI_kV]; exact tr', rfl⟩, _, rfl, ?_⟩
          refine ifB (by rw [kkv_val]) (fun hno => ?_) (fun hno => ?_)
          · have hno' : ((u, v) : Pr) ∉ k1 := by simpa using hno
            have hlen := hh1.len
            refine ⟨_, rfl, _, rfl, kd, _, rfl, .inr ⟨_, kI (pl (u, v)), r, hk', rfl, by rw [kI_kV]; exact tr', ?_, rfl⟩, ?_⟩
            · rw [show (kkv k1).length = k1.length by simp [kkv]]
              exact sz_lt (by omega)
            have nkd' : H kd = none := nkd
            have e9 : Same H (upd H' kd (.dT (putK (kkv k1) (kI (pl (u, v))) (.bl true)))) := Same.mut e' nkd
            have x9 : Ext H' (upd H' kd (.dT (putK (kkv k1) (kI (pl (u, v))) (.bl true)))) := Ext.put hk'
            have hk9 : upd H' kd (.dT (putK (kkv k1) (kI (pl (u, v))) (.bl true))) kd = some (.dT (kkv (k1 ++ [(u, v)]))) := by rw [upd_same, kkv_put hno']
            have hg9 : upd H' kd (.dT (putK (kkv k1) (kI (pl (u, v))) (.bl true))) gl = some (.lst (ps1.map V.ref)) := (upd_ne hgk).trans hg'
            generalize upd H' kd (.dT (putK (kkv k1) (kI (pl (u, v))) (.bl true))) = H9 at e9 x9 hk9 hg9 ⊢
            have hh2 := hh1.push hin' hno'
            have hln2 := hh2.len
            have hgl1 := hh1.gl
            refine ⟨_, rfl, .inl ⟨rfl, _, .inl (.inl hg9)⟩, _, rfl, gl, _, _, rfl, rfl, hg9, ?_, ?_⟩
            · rw [List.length_map, Paired_len ht1]
              exact sz_lt (by omega)
            have x10 : Ext H9 (upd H9 gl (.lst (ps1.map V.ref ++ [.ref r]))) := Ext.put hg9
            refine ⟨k1 ++ [(u, v)], g1 ++ [(u, v)], ps1 ++ [r], _, rfl, Same.mut e9 ngl, x.trans (x9.trans x10), (upd_ne hgk.symm).trans hk9, ?_, Paired_app (TuXs.ext (x9.trans x10) ht1) (.cons (TuX.ext (x9.trans x10) tr') .nil), hh2, List.mem_append_left _ hfk1, fun _ => ?_, fun hz _ => ?_, ?_⟩
            · rw [upd_same, List.map_append]
              rfl
            · rcases hj1 with rfl | ⟨rfl, _, _⟩
              · obtain ⟨rfl, rfl⟩ := hj0 rfl
                simp
              · exact List.mem_append_left _ (hin1 (by omega))
            · rcases hj1 with rfl | ⟨rfl, rfl, rfl⟩
              · omega
              · simp
            · simp at hln2 ⊢
              omega
          · have hyes : ((u, v) : Pr) ∈ k1 := by simpa using hno
            refine ⟨k1, g1, ps1, _, rfl, e', x, hk', hg', ht1, hh1, hfk1, fun _ => ?_, fun hz _ => ?_, hm⟩
            · rcases hj1 with rfl | ⟨rfl, _, _⟩
              · obtain ⟨rfl, rfl⟩ := hj0 rfl
                exact hyes
              · exact hin1 (by omega)
            · rcases hj1 with rfl | ⟨rfl, rfl, rfl⟩
              · omega
              · exact hyes
        · have hout : ((u, v) : Pr) ∉ W.map key := of_decide_eq_false hin
          refine ifF rfl ⟨k1, g1, ps1, _, rfl, e', x, hk', hg', ht1, hh1, hfk1, fun _ => ?_, fun hz hin => ?_, hm⟩
          · rcases hj1 with rfl | ⟨rfl, _, _⟩
            · obtain ⟨rfl, rfl⟩ := hj0 rfl
              exact absurd (key_mem.mpr ⟨a, hbc⟩) hout
            · exact hin1 (by omega)
          · rcases hj1 with rfl | ⟨rfl, rfl, rfl⟩
            · omega
            · exact absurd hin hout
      · rintro σ H' ⟨k1, g1, ps1, y6, rfl, e', x, hk', hg', ht1, hh1, hfk1, hin1, hin2, hm⟩
        refine ⟨_, ?_, k1, g1, ps1, _, _, _, rfl, e', hk', hg', ht1, hh1.done ⟨fun c' hc' => ?_, fun d' hd' => hin2 (Nat.lt_succ_self 1) (key_mem.mpr ⟨d', hd'⟩)⟩, hfk1, rfl⟩
        · simp
          omega
        · rw [show c' = c from nodup_fn hnd hc' hc]
          exact hin1 (Nat.succ_pos 1)
    · have hge : g = [] := by simpa using hc
      subst hge
      have hall := hh.all hC hfk hnd
      refine ⟨_, rfl, kd, _, rfl, e3 _ _ hk, _, rfl, d, _, rfl, (e.trans e3) _ _ hd, rfl, ?_⟩
      have : ((kkv k).length : Int) = (wkv W).length := by rw [wkv_length, show (kkv k).length = k.length by simp [kkv], hall]
      rw [this]
      rw [show decide (V.int ((wkv W).length : Int) = V.int ((wkv W).length : Int)) = true by simp]
      exact q _ (e.trans e3)
end
end MF
end
section
set_option Elab.async false
set_option linter.all false
set_option maxRecDepth 100000
set_option maxHeartbeats 4000000
namespace MF
open PySem PySem.Spec PyProof.Rows L2
section
variable {P : Program} {w : World} {K : PySem.W.Frag} {mg : Str → Option Value} {base : Heap}
/-! hang_round -/
theorem iK_at {l : List (Int × V)} {i : Nat} {k : Key} {v : V} (h : (iK l)[i]? = some (k, v)) : ∃ a, l[i]? = some (a, v) ∧ k = .inl a := by
  unfold iK at h
  rw [List.getElem?_map] at h
  obtain ⟨⟨a, x⟩, h1, h2⟩ := Option.map_eq_some_iff.mp h
  cases h2
  exact ⟨a, h1, rfl⟩
theorem valV_at {κ : Type} [DecidableEq κ] : ∀ {l : List (κ × V)} {i : Nat} {a : κ} {v : V}, (l.map (·.1)).Nodup → l[i]? = some (a, v) → valV l a = some v
  | p :: l, 0, a, v, hn, h => by
    cases h
    exact valV_pos rfl
  | p :: l, i + 1, a, v, hn, h => by
    rw [List.map_cons, List.nodup_cons] at hn
    have h' : l[i]? = some (a, v) := by simpa using h
    rw [valV_neg (fun e => hn.1 (by rw [e]; exact List.mem_map.mpr ⟨_, List.mem_of_getElem? h', rfl⟩))]
    exact valV_at hn.2 h'
theorem scHangRound : FnScope ["ways", "tied", "dot", "others", "found", "other"] ["ways", "tied"] (defScope sHangRound) := ⟨rfl, rfl, rfl, by decide +kernel, rfl, by decide +kernel, by decide +kernel⟩
def spHangRound : Sp := fun vs H Q _ => ∃ (d t : Addr) (W : List Land), vs = [.ref d, .ref t] ∧ WD H d W ∧ TD H t W ∧ W.length ≤ 1000 ∧ (W.map key).Nodup ∧ Base (Tr W) ∧ Link (Tr W) ∧ ∀ H', Same H H' → Q (.bl true) H'
theorem ok_hangRound (T : Tx K mg) : FnOk P w K mg base CX0 2 T.hangRound.f T.hangRound.fd ["ways", "tied"] spHangRound := by
  refine okN T.hangRound.F scHangRound (fun vs H Q E h => ?_) (fun cdv A outer s H vs Q E hr h => ?_)
  · obtain ⟨d, t, W, rfl, _⟩ := h
    rfl
  · obtain ⟨d, t, W, rfl, hd, ⟨l, ht, hT⟩, hl, hnd, B, L, q⟩ := h
    have hu := hu_of hr
    refine ⟨_, pss_cons (ps_lock (ps_for PassesOwn.never rfl (pi_items (pv 1)) (pg_tupU (n := 2) rfl (pgs_cons (pg_name (i := 2) scHangRound.nd rfl (.inr rfl)) (pgs_cons (pg_name (i := 3) scHangRound.nd rfl (.inl rfl)) pgs_nil)))
        (pss_cons (ps_set (i := 4) scHangRound.nd rfl (.inl rfl) (pcall T.roundFrom (ok_roundFrom T) hr (pa_cons (pv 0) (pa_cons (pv 2) (pa_cons (pcall T.firstOf (ok_firstOf T) hr (pa_cons (pv 0) (pa_cons (pv 2) (pa_cons (pv 3) pa_nil)))) pa_nil)))))
        (pss_one (ps_if (pt_cmp (pc_lt (pe_lenU T.len_ (pa_cons (pe_lcA (own := [("other", 5)]) (g := gName 5) rfl scHangRound.nd (pi_tup (pv 4)) (blkOk_by (N := ["ways", "tied", "dot", "others", "found", "other"]) (sc := defScope sHangRound) (by decide +kernel)) (fun _ _ _ _ _ => pg_name (i := 5) scHangRound.nd rfl (.inl rfl))
            (fun _ _ _ _ _ => pts_one (pt_cmp (pc_din hu (pe_tupA (pa_cons (pv 2) (pa_cons (pv 5) pa_nil))) (pv 0)))) (fun _ _ _ _ _ => pv 5)) pa_nil)) (pe_lenU T.len_ (pa_cons (pv 3) pa_nil)))) (pss_one (ps_ret pe_bl)) pss_nil)))))
      (pss_one (ps_ret pe_bl)), ?_⟩
    have htd : t ≠ d := fun z => by rw [z] at ht; rw [hd] at ht; cases ht
    refine ⟨t, _, ht, trivial, fun od => ?_⟩
    have hdl : upd H t (.frz od (.dK (iK l))) d = some (.dT (wkv W)) := (upd_ne htd.symm).trans hd
    have hll : ∀ v x, valV l v = some x → ∃ p, x = .ref p ∧ Rd (upd H t (.frz od (.dK (iK l)))) p (.lst ((outs W v).map V.int)) := fun v x hx => by
      obtain ⟨p, h1, h2⟩ := hT.2 v x hx
      exact ⟨p, h1, h2.elim (fun z => .inl (at_ne z fun e => by rw [e, ht] at z; cases z)) fun ⟨o, z⟩ => .inr ⟨o, at_ne z fun e => by rw [e, ht] at z; cases z⟩⟩
    have hfz : upd H t (.frz od (.dK (iK l))) t = some (.frz od (.dK (iK l))) := upd_same
    have hback : ∀ H', Same (upd H t (.frz od (.dK (iK l)))) H' → Same H (upd H' t (.dK (iK l))) := fun H' e => Same.locked ht e
    generalize upd H t (.frz od (.dK (iK l))) = Hl at hdl hll hfz hback ⊢
    refine ⟨_, rfl, t, od, _, rfl, hfz, ?_⟩
    refine for_it walk_items (fun i σ H' => ∃ y2 y3 y4 y5, σ = [some (.ref d), some (.ref t), y2, y3, y4, y5] ∧ Same Hl H') ⟨none, none, none, none, rfl, Same.refl _⟩ (fun i σ H' _ ⟨_, _, _, _, _, e⟩ => e _ _ hfz) ?_ ?_
    · rintro i x σ H1 H2 hi ⟨y2, y3, y4, y5, rfl, e⟩ ⟨p, xk, xv, rfl, np, rfl, hk, hv⟩
      obtain ⟨⟨k, v⟩, hkv, rfl⟩ := Option.map_eq_some_iff.mp hk
      obtain ⟨kv2, hkv2, rfl⟩ := Option.map_eq_some_iff.mp hv
      rw [hkv] at hkv2
      cases hkv2
      obtain ⟨a, ha, rfl⟩ := iK_at hkv
      have hkn : (l.map (·.1)).Nodup := by rw [hT.1]; exact nub_nodup _
      have hval := valV_at hkn ha
      obtain ⟨po, rfl, hpo⟩ := hll a v hval
      have e2 : Same Hl (upd H1 p (.tup [.int a, .ref po])) := Same.add e np
      have hp2 : upd H1 p (.tup [.int a, .ref po]) p = some (.tup [.int a, .ref po]) := upd_same
      have hane : outs W a ≠ [] := by
        have : a ∈ l.map (·.1) := List.mem_map.mpr ⟨_, List.mem_of_getElem? ha, rfl⟩
        rw [hT.1, mem_nub] at this
        obtain ⟨⟨b, o, c⟩, hw, rfl⟩ := List.mem_map.mp this
        exact List.ne_nil_of_mem (mem_outs.mpr ⟨c, hw⟩)
      refine ⟨p, _, rfl, .inl hp2, rfl, _, _, rfl, _, _, rfl, rfl, ?_⟩
      refine ⟨_, rfl, _, rfl, _, rfl, _, rfl, _, rfl, d, po, W, a, outs W a, rfl, WR.mono e2 (WD.rd hdl), Rd.mono e2 hpo, hane, fun f H4 e4 hf => ?_⟩
      refine ⟨d, W, a, f, rfl, WR.mono (Same.trans e2 e4) (WD.rd hdl), tr_injW B a, hl, fun pr H5 rd e5 hrd hround => ?_⟩
      have e05 := (e2.trans e4).trans e5
      refine ⟨_, rfl, pr, rfl, ⟨_, .inl (.inl hrd)⟩, ?_⟩
      refine ⟨Int, rd, fun o => (third W a o).isSome, fun o y _ => y = .int o, fun H => SqT K H pr (rd.map V.int), YAt (rd.map V.int), ?_, ?_, fun H' e' => .inl (.inl (e' _ _ hrd)), fun _ _ _ _ _ h => h, ?_, ?_⟩
      · have := walk_tup (K := K) (a := pr) (xs := rd.map V.int)
        rw [List.length_map] at this
        exact this
      · obtain ⟨l1, la, rfl, r, _⟩ := hround
        have := r.bound
        rw [List.length_append, List.length_singleton]
        exact sz_lt (by omega)
      · rintro j o x H6 H7 hj e6 ⟨rfl, hx⟩
        rw [List.getElem?_map, hj] at hx
        cases hx
        refine ⟨rfl, ?_⟩
        refine ⟨_, rfl, _, rfl, s2, fun p8 H8 n8 e8 h8 => ⟨_, rfl, d, _, rfl, WR.get (WR.mono (Same.trans e05 (Same.trans e6 e8)) (WD.rd hdl)) h8, _, rfl, by rw [Option.isSome_map], ?_⟩⟩
        refine ifB (by rw [Option.isSome_map]) (fun _ => ⟨_, rfl, e8, rfl⟩) (fun _ => e8)
      · intro D ys H7 nD e7 hD hp
        have hys : ys = (rd.filter fun o => (third W a o).isSome).map V.int := Paired_eq hp
        have e07 := e05.trans e7
        refine ⟨D, _, rfl, .inr (.inl hD), _, rfl, po, _, rfl, .inr (Rd.mono e07 hpo), _, _, rfl, rfl, _, rfl, ?_⟩
        refine ifF ?_ ⟨_, _, _, _, rfl, e07⟩
        rw [hys, List.length_map, List.length_map]
        have hout := round_outs B hnd L hf hround
        have := nodup_len_le (ys := rd.filter fun o => (third W a o).isSome) (outs_nodup hnd a) fun o ho => List.mem_filter.mpr ⟨hout o ho, third_isSome.mpr (mem_outs.mp ho)⟩
        simp
        omega
    · rintro σ H' ⟨y2, y3, y4, y5, rfl, e⟩
      exact ⟨e _ _ hfz, q _ (hback _ e)⟩
end
end MF
end
section
set_option Elab.async false
set_option linter.all false
set_option maxRecDepth 100000
set_option maxHeartbeats 4000000
namespace MF
open PySem PySem.Spec PyProof.Rows L2
section
variable {P : Program} {w : World} {K : PySem.W.Frag} {mg : Str → Option Value} {base : Heap}
/-! is_map -/
theorem scIsMap : FnScope ["lands", "ways", "tied", "dots"] ["lands"] (defScope sIsMap) := ⟨rfl, rfl, rfl, by decide +kernel, rfl, by decide +kernel, by decide +kernel⟩
def spIsMap : Sp := fun vs H Q _ => ∃ (l : Addr) (ls : List Land) (n : Nat) (r : List Int), vs = [.ref l] ∧ LsT H l (ls.map l3) ∧ Good ls n r ∧ ∀ H', Same H H' → Q (.bl true) H'
theorem ok_isMap (T : Tx K mg) : FnOk P w K mg base CX0 3 T.isMap.f T.isMap.fd ["lands"] spIsMap := by
  refine okN T.isMap.F scIsMap (fun vs H Q E h => ?_) (fun cdv A outer s H vs Q E hr h => ?_)
  · obtain ⟨l, ls, n, r, rfl, _⟩ := h
    rfl
  · obtain ⟨l, ls, n, r, rfl, hl, g, q⟩ := h
    have hu := hu_of hr
    have hsm := g.small
    have hwl := ways_len ls
    have hpos := g.n_pos
    refine ⟨_, pss_cons (ps_set (i := 1) scIsMap.nd rfl (.inl rfl) (pcall T.waysIn ((ok_waysIn T).mono (k := 2) (by decide)) hr (pa_cons (pv 0) pa_nil)))
      (pss_cons (ps_if (pt_cmpR op_isN (pv 1) pe_non (nomark _)) (pss_one (ps_ret pe_bl)) pss_nil)
      (pss_cons (ps_set (i := 2) scIsMap.nd rfl (.inl rfl) (pcall T.tiedFrom ((ok_tiedFrom T).mono (k := 2) (by decide)) hr (pa_cons (pv 1) pa_nil)))
      (pss_cons (ps_set (i := 3) scIsMap.nd rfl (.inl rfl) (pe_callB call_lenD (by rfl) T.len_ (by decide +kernel) (pa_cons (pv 2) pa_nil)))
      (pss_cons (ps_if (PW.pt (pw_or (pt_cmp (pc_neI (pe_callB (cr_maxK rfl hu) (by rfl) T.max_ (by decide +kernel) (pa_cons (pv 2) pa_nil)) (pe_sub (pv 3) pe_int)))
          (pw_or1 (pt_cmp (pc_neI (pe_add (pe_sub (pv 3) (pe_lenU T.len_ (pa_cons (pcall T.tiesIn ((ok_tiesIn T).mono (k := 2) (by decide)) hr (pa_cons (pv 1) pa_nil)) pa_nil))) (pe_lenU T.len_ (pa_cons (pv 0) pa_nil))) pe_int))))) (pss_one (ps_ret pe_bl)) pss_nil)
      (pss_one (ps_ret (pe_and (pcall T.hangTogether ((ok_hangTogether T).mono (k := 2) (by decide)) hr (pa_cons (pv 1) pa_nil)) (pe_one (pcall T.hangRound (ok_hangRound T) hr (pa_cons (pv 1) (pa_cons (pv 2) pa_nil))))))))))), ?_⟩
    refine ⟨_, rfl, l, ls, rfl, hl, g.nd, by omega, fun H1 d e1 nd hd => ?_⟩
    refine ⟨_, rfl, rfl, _, rfl, ifF rfl ?_⟩
    refine ⟨_, rfl, d, _, rfl, hd, by omega, fun H2 t e2 ht => ?_⟩
    obtain ⟨tl, ht2, hT⟩ := ht
    have hd2 := WD.mono e2 hd
    refine ⟨_, rfl, t, _, rfl, ht2, ?_⟩
    have hlen : (iK tl).length = n := by
      have h1 := congrArg List.length hT.1
      rw [List.length_map, g.firsts] at h1
      simpa [iK] using h1
    rw [hlen]
    refine ⟨_, rfl, t, _, tl.map (·.1), rfl, .inl ht2, iK_keys tl, ?_, fun m hm => ?_⟩
    · rw [hT.1]
      exact List.ne_nil_of_length_pos (by rw [g.firsts]; exact hpos)
    rw [hT.1] at hm
    have hm1 := g.mem_firsts.mp hm.1
    have hm2 := hm.2 ((n : Int) - 1) (g.mem_firsts.mpr (by omega))
    have hmn : m = (n : Int) - 1 := by omega
    subst hmn
    refine ⟨_, rfl, _, 1, rfl, rfl, _, _, rfl, rfl, _, rfl, ?_⟩
    refine ifF (by simp) ?_
    refine ⟨_, rfl, _, rfl, d, _, rfl, hd2, by omega, fun H3 tt e3 htt => ?_⟩
    obtain ⟨tps, htt1, htt2⟩ := htt
    refine ⟨tt, _, rfl, .inl (.inl htt1), _, _, rfl, rfl, ?_⟩
    have e03 := (e1.trans e2).trans e3
    obtain ⟨lps, hl1, hl2⟩ := hl
    refine ⟨_, rfl, l, _, rfl, .inr (.inl (e03 _ _ hl1)), _, _, rfl, rfl, _, 1, rfl, rfl, _, rfl, ?_⟩
    have hz : ((n : Int) - ((tps.map V.ref).length : Nat) + ((lps.map V.ref).length : Nat)) = 1 := by
      have h1 := htt2.length
      have h2 := hl2.length
      have h3 := g.euler
      rw [List.length_map] at h2
      rw [List.length_map, List.length_map, h1, h2]
      omega
    refine ifF (by rw [hz]; simp) ?_
    have hd3 := WD.mono e3 hd2
    have hne : ways ls ≠ [] := by
      intro z
      have := (g.dots 0).mpr (by omega)
      rw [z] at this
      obtain ⟨_, _, h⟩ := this
      cases h
    refine ⟨_, rfl, d, _, rfl, hd3, hne, by omega, g.nd, g.C, fun a b c h => g.B.cyc h, fun H4 e4 => ⟨true, rfl, iteT ?_⟩⟩
    refine ⟨_, rfl, _, rfl, d, t, _, rfl, WD.mono e4 hd3, TD.mono (e3.trans e4) ⟨tl, ht2, hT⟩, by omega, g.nd, g.B, g.L, fun H5 e5 => q H5 ((e03.trans e4).trans e5)⟩
end
end MF
end
section
set_option Elab.async false
set_option linter.all false
set_option maxRecDepth 100000
set_option maxHeartbeats 4000000
namespace MF
open PySem PySem.Spec PyProof.Rows L2
/-! lists of lands -/
def LsD (H : Hp) (l : Addr) (ls : List Land) : Prop := ∃ ps : List Addr, H l = some (.lst (ps.map V.ref)) ∧ Paired (TuD H) ps (ls.map l3)
def TsD (H : Hp) (l : Addr) (ls : List Land) : Prop := ∃ ps : List Addr, Rd H l (.tup (ps.map V.ref)) ∧ Paired (TuD H) ps (ls.map l3)
theorem LsD.mono {H H' : Hp} (e : Same H H') {l : Addr} {ls : List Land} (h : LsD H l ls) : LsD H' l ls := let ⟨ps, h1, h2⟩ := h; ⟨ps, e _ _ h1, Paired_mono (fun _ _ z => TuD.mono e z) h2⟩
theorem TsD.mono {H H' : Hp} (e : Same H H') {l : Addr} {ls : List Land} (h : TsD H l ls) : TsD H' l ls := let ⟨ps, h1, h2⟩ := h; ⟨ps, Rd.mono e h1, Paired_mono (fun _ _ z => TuD.mono e z) h2⟩
theorem tuD_tus {H : Hp} {ps : List Addr} {nss : List (List Int)} (h : Paired (TuD H) ps nss) : Tus H ps nss := Paired_mono (fun _ _ z => TuD.tu z) h
theorem LsD.lsT {H : Hp} {l : Addr} {ls : List Land} (h : LsD H l ls) : LsT H l (ls.map l3) := let ⟨ps, h1, h2⟩ := h; ⟨ps, h1, tuD_tus h2⟩
/-- an item of such a list -/
theorem tuD_at {H : Hp} {ps : List Addr} {α : Type} {f : α → List Int} {xs : List α} (h : Paired (TuD H) ps (xs.map f)) {i : Nat} {y : V} (hi : (ps.map V.ref)[i]? = some y) : ∃ p x, y = .ref p ∧ xs[i]? = some x ∧ TuD H p (f x) := by
  rw [List.getElem?_map] at hi
  obtain ⟨p, hp, rfl⟩ := Option.map_eq_some_iff.mp hi
  obtain ⟨ns, hns, tu⟩ := paired_get h hp
  rw [List.getElem?_map] at hns
  obtain ⟨x, hx, rfl⟩ := Option.map_eq_some_iff.mp hns
  exact ⟨p, x, rfl, hx, tu⟩
theorem tuD_of {H : Hp} {ps : List Addr} {α : Type} {f : α → List Int} {xs : List α} (h : Paired (TuD H) ps (xs.map f)) {i : Nat} {x : α} (hi : xs[i]? = some x) : ∃ p, ps[i]? = some p ∧ (ps.map V.ref)[i]? = some (.ref p) ∧ TuD H p (f x) := by
  obtain ⟨p, hp, t⟩ := paired_getR h (b := f x) (i := i) (by rw [List.getElem?_map, hi]; rfl)
  exact ⟨p, hp, by rw [List.getElem?_map, hp]; rfl, t⟩
theorem tuD_refs {H : Hp} {α : Type} {f : α → List Int} : ∀ {xs : List α} {ys : List V}, Paired (fun x y => ∃ q, y = V.ref q ∧ TuD H q (f x)) xs ys → ∃ qs : List Addr, ys = qs.map V.ref ∧ Paired (TuD H) qs (xs.map f)
  | _, _, .nil => ⟨[], rfl, .nil⟩
  | _, _, .cons ⟨q, e, h⟩ t => by
    obtain ⟨qs, e1, h1⟩ := tuD_refs t
    exact ⟨q :: qs, by rw [e, e1]; rfl, .cons h h1⟩
theorem tuD_len {H : Hp} {ps : List Addr} {α : Type} {f : α → List Int} {xs : List α} (h : Paired (TuD H) ps (xs.map f)) : (ps.map V.ref).length = xs.length := by
  have := Paired_len h
  simpa using this
theorem call_isiSeqU {X : Cx} : CallR X (.builtin "isinstance") (fun vs H Q => ∃ (p t : Addr), vs = [.ref p, .ref t] ∧ H t = some (.tup [.ty "list", .ty "tuple"]) ∧ ((∃ xs, Rd H p (.lst xs)) ∨ ∃ xs, Rd H p (.tup xs)) ∧ Q (.bl true) H) := fun pins s σ H vs us Q I r h => by
  obtain ⟨p, t, rfl, ht, hp, q⟩ := h
  have cs : Paired ClsV [.ty "list", .ty "tuple"] [.type "list", .type "tuple"] := .cons (.ty _) (.cons (.ty _) .nil)
  rcases hp with ⟨xs, hp | ⟨o, hp⟩⟩ | ⟨xs, hp | ⟨o, hp⟩⟩
  · exact call_isiT pins s σ H _ us Q I r ⟨.ref p, t, _, .type "list", _, true, rfl, ht, cs, .base (.lst hp), by rfl, q⟩
  · exact call_isiT pins s σ H _ us Q I r ⟨.ref p, t, _, .type "list", _, true, rfl, ht, cs, .base (.frz hp), by rfl, q⟩
  · exact call_isiT pins s σ H _ us Q I r ⟨.ref p, t, _, .type "tuple", _, true, rfl, ht, cs, .base (.tup hp), by rfl, q⟩
  · exact call_isiT pins s σ H _ us Q I r ⟨.ref p, t, _, .type "tuple", _, true, rfl, ht, cs, .fTuple hp, by rfl, q⟩
section
variable {P : Program} {w : World} {K : PySem.W.Frag} {mg : Str → Option Value} {base : Heap}
/-! is_three -/
theorem scIsThree : FnScope ["value", "dot"] ["value"] (defScope sIsThree) := ⟨rfl, rfl, rfl, by decide +kernel, rfl, by decide +kernel, by decide +kernel⟩
def spIsThree : Sp := fun vs H Q _ => ∃ (p : Addr) (l : Land), vs = [.ref p] ∧ Tu H p (l3 l) ∧ Ok3 l ∧ ∀ H', Same H H' → Q (.bl true) H'
theorem ok_isThree (T : Tx K mg) : FnOk P w K mg base CX0 3 T.isThree.f T.isThree.fd ["value"] spIsThree := by
  refine okN T.isThree.F scIsThree (fun vs H Q E h => ?_) (fun cdv A outer s H vs Q E hr h => ?_)
  · obtain ⟨p, l, rfl, _⟩ := h
    rfl
  · obtain ⟨p, l, rfl, hp, ok, q⟩ := h
    have hu := hu_of hr
    obtain ⟨tk, hMD⟩ := T.MOST_DOT
    refine ⟨_, pss_cons (ps_if (PW.pt (pw_or (pt_not (pt_val (pe_callB call_isiSeqU (by rfl) T.isinstance_ (by decide +kernel) (pa_cons (pv 0) (pa_cons (pe_tupA (pa_cons (pe_bltn (v := .ty "list") (by rfl) T.list_ (by decide +kernel) rfl) (pa_cons (pe_bltn (v := .ty "tuple") (by rfl) T.tuple_ (by decide +kernel) rfl) pa_nil))) pa_nil)))))
        (pw_or1 (pt_cmp (pc_neI (pe_lenU T.len_ (pa_cons (pv 0) pa_nil)) pe_int))))) (pss_one (ps_ret pe_bl)) pss_nil)
      (pss_one (ps_ret (pe_and (pe_callB (cr_all rfl) (by rfl) T.all_ (by decide +kernel) (pa_cons (pe_lcA (own := [("dot", 1)]) (g := gName 1) (tt := tYes) rfl scIsThree.nd (pi_tup (pv 0)) (blkOk_by (N := ["value", "dot"]) (sc := defScope sIsThree) (by decide +kernel)) (fun _ _ _ _ _ => pg_name (i := 1) scIsThree.nd rfl (.inl rfl))
          (fun _ _ _ _ _ => pts_nil) (fun _ _ _ _ _ => pcall T.isWithin (ok_isWithin T) hr (pa_cons (pv 1) (pa_cons pe_int (pa_cons (pe_glob (v := .int 59) (by rfl) hMD ⟨_, rfl⟩) pa_nil))))) pa_nil))
        (pe_one (pe_cmp (pc_eqI (pe_lenSetT rfl (by rfl) T.len_ (by rfl) T.set_ (pv 0)) pe_int)))))), ?_⟩
    refine ⟨_, rfl, s2, fun t H1 n1 e1 h1 => ⟨p, t, rfl, h1, .inr ⟨_, Rd.mono e1 hp⟩, true, rfl, iteF ⟨_, rfl, p, _, rfl, .inl (Rd.mono e1 hp), _, 3, rfl, rfl, _, rfl, iteF ?_⟩⟩⟩
    refine ⟨_, rfl, p, rfl, ⟨_, .inl (Rd.mono e1 hp)⟩, ?_⟩
    refine ⟨Int, l3 l, fun _ => true, fun d y _ => y = .bl true, fun H' => SqT K H' p ((l3 l).map V.int), YAt ((l3 l).map V.int), ?_, (show 3 < sizeLine by decide), fun H' e' => .inl (Rd.mono (e1.trans e') hp), fun _ _ _ _ _ h => h, ?_, ?_⟩
    · have := walk_tup (K := K) (a := p) (xs := (l3 l).map V.int)
      rw [List.length_map] at this
      exact this
    · rintro i d x H2 H3 hd e2 ⟨rfl, hx⟩
      rw [List.getElem?_map, hd] at hx
      cases hx
      refine ⟨rfl, rfl, ?_⟩
      refine ⟨_, rfl, d, 0, 59, rfl, Same.refl _, ?_⟩
      have hin : 0 ≤ d ∧ d ≤ 59 := by
        have hm := List.mem_of_getElem? hd
        simp only [l3, List.mem_cons, List.not_mem_nil, or_false] at hm
        obtain ⟨_, h1, h2, h3⟩ := ok
        rcases hm with rfl | rfl | rfl
        · exact h1
        · exact h2
        · exact h3
      rw [decide_eq_true hin]
    · intro D ys H7 nD e7 hD hpr
      have hys : ys = ((l3 l).map fun _ => true).map V.bl := by
        rw [List.filter_eq_self.mpr (fun _ _ => rfl)] at hpr
        rw [Paired_eq hpr, List.map_map]
        rfl
      rw [hys] at hD
      refine ⟨D, _, rfl, .inl (.inl hD), true, rfl, iteT ⟨_, rfl, p, l3 l, rfl, .inl (Rd.mono (e1.trans e7) hp), (show 3 < 64 by decide), ?_, _, 3, rfl, rfl, ?_⟩⟩
      · obtain ⟨⟨d1, d2, d3⟩, _⟩ := ok
        simp [l3, d1, d2, d3]
      · exact q H7 (e1.trans e7)
/-! need_lands -/
theorem scNeedLands : FnScope ["value", "each"] ["value"] (defScope sNeedLands) := ⟨rfl, rfl, rfl, by decide +kernel, rfl, by decide +kernel, by decide +kernel⟩
def spNeedLands : Sp := fun vs H Q _ => ∃ (p : Addr) (ls : List Land), vs = [.ref p] ∧ LsD H p ls ∧ (∀ l ∈ ls, Ok3 l) ∧ 1 ≤ ls.length ∧ ls.length ≤ 120 ∧ ∀ H' q, Same H H' → H q = none → LsD H' q (ls.map rot) → Q (.ref q) H'
theorem ok_needLands (T : Tx K mg) : FnOk P w K mg base CX0 4 T.needLands.f T.needLands.fd ["value"] spNeedLands := by
  refine okN T.needLands.F scNeedLands (fun vs H Q E h => ?_) (fun cdv A outer s H vs Q E hr h => ?_)
  · obtain ⟨p, ls, rfl, _⟩ := h
    rfl
  · obtain ⟨p, ls, rfl, ⟨ps, hl, ht⟩, hok, h1, h120, q⟩ := h
    have hu := hu_of hr
    obtain ⟨tk, hML⟩ := T.MOST_LANDS
    refine ⟨_, pss_cons (ps_if (PW.pt (pw_or (pt_not (pt_val (pe_callB call_isiSeqU (by rfl) T.isinstance_ (by decide +kernel) (pa_cons (pv 0) (pa_cons (pe_tupA (pa_cons (pe_bltn (v := .ty "list") (by rfl) T.list_ (by decide +kernel) rfl) (pa_cons (pe_bltn (v := .ty "tuple") (by rfl) T.tuple_ (by decide +kernel) rfl) pa_nil))) pa_nil)))))
        (pw_or1 (pt_not (pt_chain op_le op_le pe_int (pe_lenU T.len_ (pa_cons (pv 0) pa_nil)) (pe_glob (v := .int 120) (by rfl) hML ⟨_, rfl⟩)))))) pss_never pss_nil)
      (pss_cons (ps_if (pt_not (pt_val (pe_callB (cr_all rfl) (by rfl) T.all_ (by decide +kernel) (pa_cons (pe_lcA (own := [("each", 1)]) (g := gName 1) (tt := tYes) rfl scNeedLands.nd (pi_list (pv 0)) (blkOk_by (N := ["value", "each"]) (sc := defScope sNeedLands) (by decide +kernel)) (fun _ _ _ _ _ => pg_name (i := 1) scNeedLands.nd rfl (.inl rfl))
          (fun _ _ _ _ _ => pts_nil) (fun _ _ _ _ _ => pcall T.isThree (ok_isThree T) hr (pa_cons (pv 1) pa_nil))) pa_nil)))) pss_never pss_nil)
      (pss_one (ps_ret (pe_lcA (own := [("each", 1)]) (g := gName 1) (tt := tYes) rfl scNeedLands.nd (pi_list (pv 0)) (blkOk_by (N := ["value", "each"]) (sc := defScope sNeedLands) (by decide +kernel)) (fun _ _ _ _ _ => pg_name (i := 1) scNeedLands.nd rfl (.inl rfl))
          (fun _ _ _ _ _ => pts_nil) (fun _ _ _ _ _ => pcall T.fromLeast ((ok_fromLeast T).mono (k := 3) (by decide)) hr (pa_cons (pe_tupleU T.tuple_ (pa_cons (pv 1) pa_nil)) pa_nil)))))), ?_⟩
    have hlen := tuD_len ht
    refine ⟨_, rfl, s2, fun t H1 n1 e1 ht1 => ⟨p, t, rfl, ht1, .inl ⟨_, .inl (e1 _ _ hl)⟩, true, rfl, iteF ?_⟩⟩
    refine ⟨_, rfl, p, _, rfl, .inr (.inl (e1 _ _ hl)), 1, _, rfl, rfl, _, rfl, ?_⟩
    rw [hlen]
    refine ifT (by simp; omega) ⟨_, 120, rfl, rfl, _, rfl, ifF (by simp; omega) ?_⟩
    have hz : ls.length < sizeLine := sz_lt (by omega)
    have hwalk : Walk (Itl K p) ls.length (fun H' => SqL K H' p (ps.map V.ref)) (YAt (ps.map V.ref)) := by
      have := walk_list (K := K) (a := p) (xs := ps.map V.ref)
      rw [hlen] at this
      exact this
    refine ⟨_, rfl, p, rfl, ⟨_, .inl (.inl (e1 _ _ hl))⟩, ?_⟩
    refine ⟨Land, ls, fun _ => true, fun d y _ => y = .bl true, _, _, hwalk, hz, fun H' e' => .inl (.inl ((e1.trans e') _ _ hl)), fun _ _ _ _ _ h => h, ?_, ?_⟩
    · rintro i d x H2 H3 hd e2 ⟨rfl, hx⟩
      obtain ⟨r, l, rfl, hli, tr⟩ := tuD_at ht hx
      rw [hd] at hli
      cases hli
      refine ⟨rfl, rfl, ?_⟩
      exact ⟨_, rfl, r, d, rfl, (tr.mono (e1.trans e2)).tu, hok d (List.mem_of_getElem? hd), fun H4 e4 => ⟨e4, rfl⟩⟩
    · intro D ys H7 nD e7 hD hpr
      have hys : ys = (ls.map fun _ => true).map V.bl := by
        rw [List.filter_eq_self.mpr (fun _ _ => rfl)] at hpr
        rw [Paired_eq hpr, List.map_map]
        rfl
      rw [hys] at hD
      have e17 := e1.trans e7
      refine ⟨D, _, rfl, .inl (.inl hD), true, by simp, iteF ?_⟩
      refine ⟨_, rfl, p, rfl, ⟨_, .inl (.inl (e17 _ _ hl))⟩, ?_⟩
      refine ⟨Land, ls, fun _ => true, fun d y H' => ∃ q, y = V.ref q ∧ TuD H' q (l3 (rot d)), _, _, hwalk, hz, fun H' e' => .inl (.inl ((e17.trans e') _ _ hl)), fun d y H' H'' ex ⟨q, h1, h2⟩ => ⟨q, h1, h2.ext ex⟩, ?_, ?_⟩
      · rintro i d x H2 H3 hd e2 ⟨rfl, hx⟩
        obtain ⟨r, l, rfl, hli, tr⟩ := tuD_at ht hx
        rw [hd] at hli
        cases hli
        have tr' := tr.mono (e17.trans e2)
        refine ⟨rfl, rfl, ?_⟩
        exact ⟨_, rfl, r, _, rfl, .inr ⟨tr'.tu, r, d, rfl, tr', (hok d (List.mem_of_getElem? hd)).1, fun H4 q e4 hq => ⟨e4, q, rfl, hq⟩⟩⟩
      · intro D2 ys H8 nD2 e8 hD2 hpr
        rw [List.filter_eq_self.mpr (fun _ _ => rfl)] at hpr
        obtain ⟨qs, rfl, hq⟩ := tuD_refs (f := fun d => l3 (rot d)) hpr
        exact q H8 D2 (e17.trans e8) (Same.none e17 nD2) ⟨qs, hD2, by rw [List.map_map]; exact hq⟩
end
end MF
end
section
set_option Elab.async false
set_option linter.all false
set_option maxRecDepth 100000
set_option maxHeartbeats 4000000
namespace MF
open PySem PySem.Spec PyProof.Rows L2
/-! all stands but the object at m -/
def SameX (m : Addr) (H H' : Hp) : Prop := ∀ b x, b ≠ m → H b = some x → H' b = some x
theorem SameX.refl (m : Addr) (H : Hp) : SameX m H H := fun _ _ _ h => h
theorem SameX.trans {m : Addr} {H H1 H2 : Hp} (a : SameX m H H1) (b : SameX m H1 H2) : SameX m H H2 := fun x o n h => b x o n (a x o n h)
theorem Same.x {m : Addr} {H H' : Hp} (e : Same H H') : SameX m H H' := fun b x _ h => e b x h
theorem SameX.put {m : Addr} {H : Hp} {o : HO} : SameX m H (upd H m o) := fun b x n h => (upd_ne n).trans h
theorem SameX.rd {m : Addr} {H H' : Hp} (e : SameX m H H') {p : Addr} {u : HO} (n : p ≠ m) (h : Rd H p u) : Rd H' p u := h.elim (fun z => .inl (e _ _ n z)) fun ⟨o, z⟩ => .inr ⟨o, e _ _ n z⟩
theorem SameX.ext {m : Addr} {H H' : Hp} (e : SameX m H H') {u : HO} (hm : H m = some u) (hu : ¬ Imm u := by intro h; cases h) : Ext H H' := fun b x h i => e b x (fun z => by subst z; rw [hm] at h; cases h; exact hu i) h
theorem SameX.same {m : Addr} {H H' : Hp} (e : SameX m H H') (h : H m = none) : Same H H' := fun b x hb => e b x (fun z => by subst z; rw [h] at hb; cases hb) hb
theorem int_map_inj {a b : List Int} (h : a.map V.int = b.map V.int) : a = b := by
  have := congrArg (List.filterMap fun v : V => match v with | .int i => some i | _ => none) h
  simpa [List.filterMap_map, Function.comp_def] using this
theorem TuD.only {H : Hp} {p : Addr} {a b : List Int} (h : TuD H p a) (k : Tu H p b) : a = b := by
  obtain ⟨o, h1, _⟩ := h
  rcases k with k | ⟨o', k⟩
  · rw [h1] at k; cases k
  · rw [h1] at k
    simp only [Option.some.injEq, HO.frz.injEq, HO.tup.injEq] at k
    exact int_map_inj k.2
theorem tuD_all {H : Hp} : ∀ {ps : List Addr} {nss : List (List Int)}, Paired (TuD H) ps nss → ∀ p ∈ ps, ∃ ns, TuD H p ns
  | _, _, .nil, _, h => by cases h
  | _, _, .cons a t, p, h => by
    rcases List.mem_cons.mp h with rfl | h
    · exact ⟨_, a⟩
    · exact tuD_all t p h
theorem tuD_sub {H : Hp} {ps : List Addr} {nss : List (List Int)} (h : Paired (TuD H) ps nss) : ∀ {ps' : List Addr} {mss : List (List Int)}, Tus H ps' mss → (∀ p ∈ ps', p ∈ ps) → Paired (TuD H) ps' mss
  | _, _, .nil, _ => .nil
  | _, _, .cons a t, s => by
    obtain ⟨ns, hd⟩ := tuD_all h _ (s _ List.mem_cons_self)
    have := hd.only a
    exact .cons (this ▸ hd) (tuD_sub h t fun p hp => s p (List.mem_cons_of_mem _ hp))
theorem rot_rot (l : Land) : rot (rot l) = rot l := by
  obtain ⟨a, b, c⟩ := l
  simp only [rot]
  split <;> rename_i h1
  · rfl
  · split <;> rename_i h2
    · first | rfl | (simp only; rw [if_pos (by omega)])
    · first | rfl | (simp only; rw [if_pos (by omega)])
theorem srt_srt (ls : List Land) : srt ((canon ls).map l3) = (canon ls).map l3 := by
  rw [← srt_canon]
  unfold srt
  refine List.mergeSort_of_pairwise (List.pairwise_mergeSort (fun a b c h1 h2 => ?_) (fun a b => ?_) _)
  · exact decide_eq_true (List.le_trans (of_decide_eq_true h1) (of_decide_eq_true h2))
  · rcases List.le_total a b with h | h <;> simp [h]
/-! a Map that stands -/
def Rounds (H : Hp) (d : Addr) (W : List Land) (n : Nat) : Prop := ∃ l, Rd H d (.dK (iK l)) ∧ ∀ v : Int, 0 ≤ v → v < n → ∃ p rd f, valV l v = some (.ref p) ∧ TuX H p rd ∧ IsFirst W v (outs W v) f ∧ IsRound W v f rd
structure Parts (C : Addr) (H : Hp) (m : Addr) (ls : List Land) (n : Nat) (r : List Int) (W : List Land) (dx pl pw pf pi pr : Addr) : Prop where
  at_ : H m = some (.ins C dx [("lands", .ref pl), ("ways", .ref pw), ("frame", .ref pf), ("dots", .int n), ("inner", .ref pi), ("rounds", .ref pr)])
  lands : TsD H pl ls
  ways : WD H pw W
  perm : W.Perm (MF.ways ls)
  frame : TuX H pf r
  inner : TuX H pi (MF.inner n r)
  rounds : Rounds H pr W n
structure MapAt (C : Addr) (H : Hp) (m : Addr) (ls : List Land) (n : Nat) (r : List Int) : Prop where
  good : Good ls n r
  rots : ∀ l ∈ ls, rot l = l
  sorted : srt (ls.map l3) = ls.map l3
  parts : ∃ W dx pl pw pf pi pr, Parts C H m ls n r W dx pl pw pf pi pr
theorem Rounds.mono {H H' : Hp} (e : Same H H') {d : Addr} {W : List Land} {n : Nat} (h : Rounds H d W n) : Rounds H' d W n := let ⟨l, h1, h2⟩ := h; ⟨l, Rd.mono e h1, fun v a b => let ⟨p, rd, f, k1, k2, k3⟩ := h2 v a b; ⟨p, rd, f, k1, k2.mono e, k3⟩⟩
theorem Parts.mono {C : Addr} {H H' : Hp} (e : Same H H') {m : Addr} {ls : List Land} {n : Nat} {r : List Int} {W : List Land} {dx pl pw pf pi pr : Addr} (h : Parts C H m ls n r W dx pl pw pf pi pr) : Parts C H' m ls n r W dx pl pw pf pi pr :=
  ⟨e _ _ h.at_, h.lands.mono e, h.ways.mono e, h.perm, h.frame.mono e, h.inner.mono e, h.rounds.mono e⟩
theorem MapAt.mono {C : Addr} {H H' : Hp} (e : Same H H') {m : Addr} {ls : List Land} {n : Nat} {r : List Int} (h : MapAt C H m ls n r) : MapAt C H' m ls n r :=
  ⟨h.good, h.rots, h.sorted, let ⟨W, dx, pl, pw, pf, pi, pr, k⟩ := h.parts; ⟨W, dx, pl, pw, pf, pi, pr, k.mono e⟩⟩
/-- o.f = v, a field of an instance of C -/
def sFldU (C : Addr) (ta tv : TE) (f : Str) : L2.TS := fun D σ H => tv σ H fun y H1 => ta σ H1 fun x H2 => ∃ a dx fs, x = .ref a ∧ H2 a = some (.ins C dx fs) ∧ fs.length < 1000 ∧ ∀ H3, SameX a H2 H3 → H3 a = some (.ins C dx (putF f y fs)) → D.nx σ H3
theorem ps_fldU {X : Cx} {C : Addr} {o value : Expr} {f : Str} {pos pos' : Pos} {ta tv : TE} (c : Cls X.K C) (n : NoAttr X.K C f) (ha : PE X o ta) (hv : PE X value tv) (hs : swapsWith value (some (.Attribute o f pos')) pos.line X.env = pure false := by rfl) : L2.PS X (.Assign [.Attribute o f pos'] value pos) (sFldU C ta tv f) :=
  PS_imp (ps_fld (PE_up ha) (PE_up hv) hs) fun D σ H q => ⟨_, q, fun y H1 q1 => ⟨_, q1, fun x H2 ⟨a, dx, fs, e1, e2, e3, k⟩ => ⟨a, C, dx, fs, e1, e2, c, n, e3, k _ SameX.put upd_same⟩⟩⟩
section
variable {P : Program} {w : World} {K : PySem.W.Frag} {mg : Str → Option Value} {base : Heap}
theorem scMapInit : FnScope ["self", "lands", "told", "tied", "land", "dot"] ["self", "lands"] (defScope sMapInit) := ⟨rfl, rfl, rfl, by decide +kernel, rfl, by decide +kernel, by decide +kernel⟩
def spMapInit (C : Addr) : Sp := fun vs H Q _ => ∃ (m l dx : Addr) (ls : List Land) (n : Nat) (r : List Int), vs = [.ref m, .ref l] ∧ H m = some (.ins C dx []) ∧ LsD H l ls ∧ Good ls n r ∧ ∀ H', SameX m H H' → MapAt C H' m (canon ls) n r → Q .non H'
theorem ok_mapInit (T : Tx K mg) : FnOk P w K mg base CX0 5 T.mapInit.f T.mapInit.fd ["self", "lands"] (spMapInit T.CMap) := by
  refine okN T.mapInit.F scMapInit (fun vs H Q E h => ?_) (fun cdv A outer s H vs Q E hr h => ?_)
  · obtain ⟨m, l, dx, ls, n, r, rfl, _⟩ := h
    rfl
  · obtain ⟨m, l, dx, ls, n, r, rfl, hm, hl, g, q⟩ := h
    have hu := hu_of hr
    have hu64 := hr.units
    have hu3 : (A.deeper (envOfC (Str.ofString "Map.__init__") (defScope sMapInit) s.heap.objs.size T.mapInit.f cdv)).units + 3 < cLine := by omega
    have nd := scMapInit.nd
    refine ⟨_, pss_cons (ps_set (i := 2) nd rfl (.inl rfl) (pcall T.needLands (ok_needLands T) hr (pa_cons (pv 1) pa_nil)))
      (pss_cons (ps_if (pt_not (pt_val (pcall T.isMap ((ok_isMap T).mono (k := 4) (by decide)) hr (pa_cons (pv 2) pa_nil)))) pss_never pss_nil)
      (pss_cons (ps_fldU T.clMap T.na_lands (pv 0) (pe_tupleU T.tuple_ (pa_cons (pe_callB (cr_sortTI hu3) (by rfl) T.sorted_ (by decide +kernel) (pa_cons (pv 2) pa_nil)) pa_nil)))
      (pss_cons (ps_fldU T.clMap T.na_ways (pv 0) (pcall T.waysIn ((ok_waysIn T).mono (k := 4) (by decide)) hr (pa_cons (pv 2) pa_nil)))
      (pss_cons (ps_fldU T.clMap T.na_frame (pv 0) (pcall T.frameIn ((ok_frameIn T).mono (k := 4) (by decide)) hr (pa_cons (pe_fldU T.clMap T.na_ways (pv 0)) pa_nil)))
      (pss_cons (ps_fldU T.clMap T.na_dots (pv 0) (pe_add (pe_callB (cr_max rfl) (by rfl) T.max_ (by decide +kernel) (pa_cons (pe_lcA (own := [("land", 4)]) (g := gName 4) (tt := tYes) rfl nd (pi_list (pv 2)) (blkOk_by (N := ["self", "lands", "told", "tied", "land", "dot"]) (sc := defScope sMapInit) (by decide +kernel)) (fun _ _ _ _ _ => pg_name (i := 4) nd rfl (.inl rfl))
          (fun _ _ _ _ _ => pts_nil) (fun _ _ _ _ _ => pe_maxTu rfl hu T.max_ (pa_cons (pv 4) pa_nil))) pa_nil)) pe_int))
      (pss_cons (ps_fldU T.clMap T.na_inner (pv 0) (pe_tupleU T.tuple_ (pa_cons (pe_lcA (own := [("dot", 5)]) (g := gName 5) rfl nd (pi_range1 (by rfl) T.range_ (pa_cons (pe_fldU T.clMap T.na_dots (pv 0)) pa_nil)) (blkOk_by (N := ["self", "lands", "told", "tied", "land", "dot"]) (sc := defScope sMapInit) (by decide +kernel)) (fun _ _ _ _ _ => pg_name (i := 5) nd rfl (.inl rfl))
          (fun _ _ _ _ _ => pts_one (pt_cmpR (op_notInTu hu) (pv 5) (pe_fldU T.clMap T.na_frame (pv 0)) rfl)) (fun _ _ _ _ _ => pv 5)) pa_nil)))
      (pss_cons (ps_set (i := 3) nd rfl (.inr rfl) (pcall T.tiedFrom ((ok_tiedFrom T).mono (k := 4) (by decide)) hr (pa_cons (pe_fldU T.clMap T.na_ways (pv 0)) pa_nil)))
      (pss_one (ps_fldU T.clMap T.na_rounds (pv 0) (pe_lock (pe_dc (own := [("dot", 5)]) (g := gName 5) (tt := tYes) rfl nd (pi_keys (pv 3)) (blkOk_by (N := ["self", "lands", "told", "tied", "land", "dot"]) (sc := defScope sMapInit) (by decide +kernel)) (fun _ _ _ _ _ => pg_name (i := 5) nd rfl (.inl rfl))
          (fun _ _ _ _ _ => pts_nil) (fun _ _ _ _ _ => pv 5) (fun _ _ _ _ _ => pcall T.roundFrom ((ok_roundFrom T).mono (k := 4) (by decide)) hr (pa_cons (pe_fldU T.clMap T.na_ways (pv 0)) (pa_cons (pv 5) (pa_cons (pcall T.firstOf ((ok_firstOf T).mono (k := 4) (by decide)) hr (pa_cons (pe_fldU T.clMap T.na_ways (pv 0)) (pa_cons (pv 5) (pa_cons (pe_dget hu (pv 3) (pv 5) (fun _ _ => rfl)) pa_nil)))) pa_nil))))))))))))))), ?_⟩
    have gr : Good (ls.map rot) n r := g.perm (ways_rot ls)
    have hz := g.small
    have hw3 := ways_len (ls.map rot)
    rw [List.length_map] at hw3
    have n59 := g.n59
    have npos := g.n_pos
    refine ⟨_, rfl, l, ls, rfl, hl, g.ok3, g.len1, by omega, fun H1 told e1 nt ht => ?_⟩
    refine ⟨_, rfl, told, ls.map rot, n, r, rfl, ht.lsT, gr, fun H2 e2 => ⟨true, rfl, iteF ?_⟩⟩
    obtain ⟨ps, hps, htp⟩ := ht.mono e2
    have hm2 : H2 m = some (.ins T.CMap dx []) := (e1.trans e2) _ _ hm
    have x2 : SameX m H H2 := Same.x (e1.trans e2)
    have hmt : told ≠ m := fun z => by rw [z, hm2] at hps; cases hps
    clear ht
    -- lands
    refine ⟨_, rfl, told, ps, _, rfl, .inl (.inl hps), tuD_tus htp, ?_, fun p3 ps' n3 hs' hsub => ?_⟩
    · intro ns hns
      obtain ⟨a, _, rfl⟩ := List.mem_map.mp hns
      simp [l3]
    have htd' := tuD_sub htp hs' hsub
    rw [srt_canon] at htd'
    have e3 : Same H2 (upd H2 p3 (.lst (ps'.map V.ref))) := Same.new n3
    refine ⟨p3, _, rfl, .inl ⟨.inl upd_same, fun pl H4 e4 hpl => ?_⟩⟩
    have e24 := Same.trans e3 e4
    refine ⟨_, rfl, m, dx, _, rfl, e24 _ _ hm2, by decide, fun H5 x5 hm5 => ?_⟩
    have x25 : SameX m H2 H5 := (Same.x e24).trans x5
    have hps5 := x25 _ _ hmt hps
    have X5 : Ext H2 H5 := x25.ext hm2
    have hLd : TsD H5 pl (canon ls) := ⟨ps', Rd.ext (x5.ext (e24 _ _ hm2)) (.inl hpl), Paired_mono (fun _ _ z => z.ext X5) htd'⟩
    have htp5 := Paired_mono (fun _ _ z => TuD.ext X5 z) htp
    clear htp hps htd' hs' e24 e4
    -- ways
    refine ⟨_, rfl, told, ls.map rot, rfl, ⟨ps, hps5, tuD_tus htp5⟩, gr.nd, by rw [List.length_map]; omega, fun H6 pw e6 nw hW => ?_⟩
    have hm6 := e6 _ _ hm5
    have hmw : pw ≠ m := fun z => by rw [z, hm5] at nw; cases nw
    refine ⟨_, rfl, m, dx, _, rfl, hm6, (show 1 < 1000 by decide), fun H7 x7 hm7 => ?_⟩
    have x57 : SameX m H5 H7 := (Same.x e6).trans x7
    have hW7 : WD H7 pw (ways (ls.map rot)) := x7 _ _ hmw hW
    -- frame
    refine ⟨_, rfl, m, dx, _, .ref pw, rfl, hm7, by rfl, pw, _, r, rfl, hW7, by omega, gr.ring, fun H8 pf e8 hF => ?_⟩
    have hm8 := e8 _ _ hm7
    refine ⟨_, rfl, m, dx, _, rfl, hm8, (show 2 < 1000 by decide), fun H9 x9 hm9 => ?_⟩
    have x79 : SameX m H7 H9 := (Same.x e8).trans x9
    have hF9 : TuX H9 pf r := hF.ext (x9.ext hm8)
    have hW9 : WD H9 pw (ways (ls.map rot)) := x79 _ _ hmw hW7
    have x59 := x57.trans x79
    have hps9 := x59 _ _ hmt hps5
    have htp9 := Paired_mono (fun _ _ z => TuD.ext (x59.ext hm5) z) htp5
    have hLd9 : TsD H9 pl (canon ls) := let ⟨qs, h1, h2⟩ := hLd; ⟨qs, Rd.ext (x59.ext hm5) h1, Paired_mono (fun _ _ z => TuD.ext (x59.ext hm5) z) h2⟩
    have xx9 := (x2.trans x25).trans x59
    clear hLd htp5 hps5 x57 x79 hW7 hW hF e6 e8 x7 x9
    -- dots
    have hplen := tuD_len htp9
    have hwalk : Walk (Itl K told) (ls.map rot).length (fun H' => SqL K H' told (ps.map V.ref)) (YAt (ps.map V.ref)) := by
      have := walk_list (K := K) (a := told) (xs := ps.map V.ref)
      rw [hplen] at this
      exact this
    refine ⟨_, rfl, told, rfl, ⟨_, .inl (.inl hps9)⟩, ?_⟩
    refine ⟨Land, ls.map rot, fun _ => true, fun a y _ => ∃ k, y = .int k ∧ Most (l3 a) k, _, _, hwalk, sz_lt (by rw [List.length_map]; omega), fun H' e' => .inl (.inl (e' _ _ hps9)), fun _ _ _ _ _ h => h, ?_, ?_⟩
    · rintro i a x H2' H3' ha e' ⟨rfl, hx⟩
      obtain ⟨t, b, rfl, hb, tb⟩ := tuD_at htp9 hx
      rw [ha] at hb
      cases hb
      exact ⟨rfl, rfl, _, rfl, t, l3 a, rfl, (tb.mono e').tu, by simp [l3], fun k hk => ⟨Same.refl _, k, rfl, hk⟩⟩
    intro D ys H10 nD e10 hD hpr
    rw [List.filter_eq_self.mpr (fun _ _ => rfl)] at hpr
    obtain ⟨ks, rfl, hks⟩ : ∃ ks : List Int, ys = ks.map V.int ∧ Paired (fun a k => Most (l3 a) k) (ls.map rot) ks := by
      clear hD
      generalize ls.map rot = rs at hpr
      induction hpr with
      | nil => exact ⟨[], rfl, .nil⟩
      | cons h t ih =>
        obtain ⟨k, rfl, hk⟩ := h
        obtain ⟨ks, rfl, h2⟩ := ih
        exact ⟨k :: ks, rfl, .cons hk h2⟩
    refine ⟨D, ks, rfl, .inl (.inl hD), ?_, fun k hk1 hk2 => ?_⟩
    · rw [← Paired_len hks, List.length_map]
      exact g.len1
    have hkn : k = (n : Int) - 1 := by
      obtain ⟨i, hi, rfl⟩ := List.mem_iff_getElem.mp hk1
      obtain ⟨a, ha, hka⟩ := paired_getR hks (List.getElem?_eq_getElem hi)
      have h1 := (gr.dots ks[i]).mp (mem_dot.mpr ⟨a, List.mem_of_getElem? ha, hka.1⟩)
      obtain ⟨b, hb, hnb⟩ := mem_dot.mp ((gr.dots ((n : Int) - 1)).mpr (by omega))
      obtain ⟨j, hj, rfl⟩ := List.mem_iff_getElem.mp hb
      obtain ⟨k', hk', hkb⟩ := paired_get hks (List.getElem?_eq_getElem hj)
      have h2 := hk2 k' (List.mem_of_getElem? hk')
      have h3 := hkb.2 _ hnb
      omega
    have hkn' : k + 1 = (n : Int) := by omega
    refine ⟨k, 1, rfl, rfl, ?_⟩
    have hm10 := e10 _ _ hm9
    refine ⟨_, rfl, m, dx, _, rfl, hm10, (show 3 < 1000 by decide), fun H11 x11 hm11 => ?_⟩
    rw [hkn'] at hm11
    have x911 : SameX m H9 H11 := (Same.x e10).trans x11
    have X911 := x911.ext hm9
    have hF11 := TuX.ext X911 hF9
    have hW11 : WD H11 pw (ways (ls.map rot)) := x911 _ _ hmw hW9
    have hLd11 : TsD H11 pl (canon ls) := let ⟨qs, h1, h2⟩ := hLd9; ⟨qs, Rd.ext X911 h1, Paired_mono (fun _ _ z => TuD.ext X911 z) h2⟩
    have xx11 := xx9.trans x911
    clear hLd9 htp9 hps9 hW9 hF9 x911 X911 hD x11 e10 hpr
    -- inner
    refine ⟨_, rfl, m, dx, _, .int n, rfl, hm11, by rfl, n, rfl, by omega, by omega, ?_⟩
    refine ⟨Nat, List.range n, fun d => decide ((d : Int) ∉ r), fun d y _ => y = .int (d : Int), fun _ => True, YFn fun i => .int (0 + (i : Nat)), ?_, sz_lt (by rw [List.length_range]; omega), fun _ _ => trivial, fun _ _ _ _ _ h => h, ?_, ?_⟩
    · have := walk_range (lo := 0) (n := n)
      rw [List.length_range, show ((n : Int).toNat) = n by omega]
      exact this
    · rintro i d x H2' H3' hd e' ⟨rfl, rfl⟩
      have hdi : d = i := by
        rw [List.getElem?_range (by rw [← List.length_range (n := n)]; exact (List.getElem?_eq_some_iff.mp hd).1)] at hd
        exact (Option.some.inj hd).symm
      subst hdi
      refine ⟨rfl, _, rfl, _, rfl, m, dx, _, .ref pf, rfl, e' _ _ hm11, by rfl, (d : Int), pf, r, by simp, rfl, (hF11.mono e').tu, _, rfl, rfl, ?_⟩
      exact ifB rfl (fun _ => ⟨_, rfl, Same.refl _, by simp⟩) (fun _ => Same.refl _)
    intro D2 ys2 H12 nD2 e12 hD2 hpr2
    have hys2 : ys2 = (inner n r).map V.int := by
      rw [Paired_eq hpr2, inner, List.filter_map, List.map_map]
      rfl
    subst hys2
    refine ⟨D2, _, rfl, .inl ⟨.inl hD2, fun pi H13 e13 hpi => ?_⟩⟩
    have e1113 := e12.trans e13
    have hm13 := e1113 _ _ hm11
    refine ⟨_, rfl, m, dx, _, rfl, hm13, (show 4 < 1000 by decide), fun H14 x14 hm14 => ?_⟩
    have x1114 : SameX m H11 H14 := (Same.x e1113).trans x14
    have X1114 := x1114.ext hm11
    have hF14 := TuX.ext X1114 hF11
    have hI14 : TuX H14 pi (inner n r) := TuX.ext (x14.ext hm13) (show TuX H13 pi (inner n r) from hpi)
    have hW14 : WD H14 pw (ways (ls.map rot)) := x1114 _ _ hmw hW11
    have hLd14 : TsD H14 pl (canon ls) := let ⟨qs, h1, h2⟩ := hLd11; ⟨qs, Rd.ext X1114 h1, Paired_mono (fun _ _ z => TuD.ext X1114 z) h2⟩
    have xx14 := xx11.trans x1114
    clear hLd11 hW11 hF11 x1114 X1114 hD2 x14 e12 e13 hpr2 e1113
    -- tied
    refine ⟨_, rfl, m, dx, _, .ref pw, rfl, hm14, by rfl, pw, _, rfl, hW14, by omega, fun H15 ti e15 hti => ?_⟩
    obtain ⟨tl, hti1, hti2⟩ := hti
    have hm15 := e15 _ _ hm14
    have hW15 := hW14.mono e15
    -- rounds
    refine ⟨ti, _, hti1, trivial, fun od => ?_⟩
    have hmt2 : m ≠ ti := fun z => by rw [← z, hm15] at hti1; cases hti1
    have hwt2 : pw ≠ ti := fun z => by rw [← z] at hti1; rw [show H15 pw = _ from hW15] at hti1; cases hti1
    have hml : upd H15 ti (.frz od (.dK (iK tl))) m = _ := (upd_ne hmt2).trans hm15
    have hWl : upd H15 ti (.frz od (.dK (iK tl))) pw = _ := (upd_ne hwt2).trans hW15
    have hfz : upd H15 ti (.frz od (.dK (iK tl))) ti = some (.frz od (.dK (iK tl))) := upd_same
    have hll : ∀ v x, valV tl v = some x → ∃ p, x = .ref p ∧ Rd (upd H15 ti (.frz od (.dK (iK tl)))) p (.lst ((outs (ways (ls.map rot)) v).map V.int)) := fun v x hx => by
      obtain ⟨p, h1, h2⟩ := hti2.2 v x hx
      exact ⟨p, h1, h2.elim (fun z => .inl (at_ne z fun e => by rw [e, hti1] at z; cases z)) fun ⟨o, z⟩ => .inr ⟨o, at_ne z fun e => by rw [e, hti1] at z; cases z⟩⟩
    have hunl : ∀ H', Same (upd H15 ti (.frz od (.dK (iK tl)))) H' → Same H15 (upd H' ti (.dK (iK tl))) := fun H' e => Same.locked hti1 e
    generalize upd H15 ti (.frz od (.dK (iK tl))) = Hl at hml hWl hfz hll hunl ⊢
    refine ⟨_, rfl, ti, od, rfl, .inl ⟨_, hfz, fun D3 nD3 => ?_⟩⟩
    refine dcK_it walk_keys (fun i H' => Same Hl H' ∧ ∃ l, H' D3 = some (.dK (iK l)) ∧ l.length ≤ i ∧ ∀ (j : Nat) (v : Int) (x : V), j < i → tl[j]? = some (v, x) → ∃ p rd f, valV l v = some (.ref p) ∧ TuX H' p rd ∧ IsFirst (ways (ls.map rot)) v (outs (ways (ls.map rot)) v) f ∧ IsRound (ways (ls.map rot)) v f rd)
      ⟨Same.new nD3, [], upd_same, Nat.le_refl _, fun j _ _ hj => by omega⟩ (fun i H' _ ⟨e, _⟩ => e _ _ hfz) ?_ ?_
    · rintro i x H2' H3' hi ⟨e', l', hl', hlen', hall⟩ ⟨rfl, k, v, hkv, rfl⟩
      obtain ⟨a, ha, rfl⟩ := iK_at hkv
      have hkn : (tl.map (·.1)).Nodup := by rw [hti2.1]; exact nub_nodup _
      obtain ⟨po, rfl, hpo⟩ := hll a v (valV_at hkn ha)
      have hane : outs (ways (ls.map rot)) a ≠ [] := by
        have : a ∈ tl.map (·.1) := List.mem_map.mpr ⟨_, List.mem_of_getElem? ha, rfl⟩
        rw [hti2.1, mem_nub] at this
        obtain ⟨⟨b, o, c⟩, hw, rfl⟩ := List.mem_map.mp this
        exact List.ne_nil_of_mem (mem_outs.mpr ⟨c, hw⟩)
      have hlen2 : tl.length ≤ 1000 := by
        have h1 := congrArg List.length hti2.1
        rw [List.length_map, gr.firsts] at h1
        omega
      have hitl : i < tl.length := (List.getElem?_eq_some_iff.mp ha).1
      refine ⟨rfl, ?_⟩
      refine ⟨_, rfl, _, rfl, m, dx, _, .ref pw, rfl, e' _ _ hml, by rfl, _, rfl, _, rfl, m, dx, _, .ref pw, rfl, e' _ _ hml, by rfl, _, rfl, _, rfl, _, rfl, ti, .ref po, rfl, .inl ⟨iK tl, .inl a, .inr ⟨od, e' _ _ hfz⟩, rfl, by rw [valV_iK, valV_at hkn ha]⟩, ?_⟩
      refine ⟨pw, po, _, a, outs (ways (ls.map rot)) a, rfl, WR.mono e' (WD.rd hWl), Rd.mono e' hpo, hane, fun f H4' e4' hf => ?_⟩
      refine ⟨pw, _, a, f, rfl, WR.mono (Same.trans e' e4') (WD.rd hWl), tr_injW gr.B a, by omega, fun p H5' rd e5' hrd hround => ?_⟩
      have e35 := Same.trans e4' e5'
      have hl5 := e35 _ _ hl'
      refine ⟨iK l', .inl a, rfl, hl5, by rw [show (iK l').length = l'.length by simp [iK]]; exact sz_lt (by omega), Same.mut (Same.trans e' e35) nD3, putK l' a (.ref p), by rw [upd_same, putK_iK], Nat.le_trans (putK_most _ _ _) (by omega), fun j v x hj hjx => ?_⟩
      have X5 : Ext H5' (upd H5' D3 (.dK (putK (iK l') (.inl a) (.ref p)))) := Ext.put hl5
      by_cases hva : v = a
      · subst hva
        exact ⟨p, rd, f, by rw [valV_put, if_pos rfl], TuX.ext X5 hrd, hf, hround⟩
      · have hji : j < i := by
          rcases Nat.lt_or_ge j i with h | h
          · exact h
          · have : j = i := by omega
            subst this
            rw [ha] at hjx
            cases hjx
            exact absurd rfl hva
        obtain ⟨p', rd', f', h1, h2, h3, h4⟩ := hall j v x hji hjx
        exact ⟨p', rd', f', by rw [valV_put, if_neg hva]; exact h1, TuX.ext X5 (h2.mono e35), h3, h4⟩
    · rintro H16 ⟨e16, lr, hlr, hlen', hall⟩
      have hDti : D3 ≠ ti := fun z => by rw [z, hfz] at nD3; cases nD3
      have e17 := hunl _ e16
      have hX : Ext H16 (upd H16 ti (.dK (iK tl))) := Ext.put (e16 _ _ hfz)
      refine ⟨e16 _ _ hfz, _, rfl, m, dx, _, rfl, e17 _ _ hm15, (show 5 < 1000 by decide), fun H18 x18 hm18 => ?_⟩
      have e1417 := e15.trans e17
      have hm17 := e1417 _ _ hm14
      have x1418 : SameX m H14 H18 := (Same.x e1417).trans x18
      have X1418 := x1418.ext hm14
      have hmD3 : D3 ≠ m := fun z => by rw [z, hml] at nD3; cases nD3
      refine q H18 (xx14.trans x1418) ⟨g.canon, ?_, ?_, ways (ls.map rot), dx, pl, pw, pf, pi, D3, ?_⟩
      · intro a ha
        have := (canon_perm ls).mem_iff.mp ha
        obtain ⟨b, _, rfl⟩ := List.mem_map.mp this
        exact rot_rot b
      · exact srt_srt _
      · refine ⟨hm18, ?_, x1418 _ _ hmw hW14, ways_perm (canon_perm ls).symm, TuX.ext X1418 hF14, TuX.ext X1418 hI14, lr, .inl (x18 _ _ hmD3 ((upd_ne hDti).trans hlr)), fun v h0 h1 => ?_⟩
        · obtain ⟨qs, h1, h2⟩ := hLd14
          exact ⟨qs, Rd.ext X1418 h1, Paired_mono (fun _ _ z => TuD.ext X1418 z) h2⟩
        · have hv := gr.mem_firsts.mpr ⟨h0, h1⟩
          rw [← hti2.1] at hv
          obtain ⟨⟨v', x⟩, hx, rfl⟩ := List.mem_map.mp hv
          obtain ⟨j, hj, e⟩ := List.mem_iff_getElem.mp hx
          obtain ⟨p', rd', f', k1, k2, k3, k4⟩ := hall j v' x (by simpa [iK] using hj) (by rw [List.getElem?_eq_getElem hj, e])
          exact ⟨p', rd', f', k1, TuX.ext (hX.trans (x18.ext hm17)) k2, k3, k4⟩
end
end MF
end
section
set_option Elab.async false
set_option linter.all false
set_option maxRecDepth 100000
set_option maxHeartbeats 4000000
namespace MF
open PySem PySem.Spec PyProof.Rows L2
open PySem.W (Tup)
section
variable {X : Cx}
/-- t[lo:hi], a true part of the tuple: a new one -/
theorem sl_tupX : SlR X (fun x lo hi H Q => ∃ a xs, x = .ref a ∧ Rd H a (.tup xs) ∧ ¬ (HT.sIx xs.length 0 lo = 0 ∧ HT.sIx xs.length xs.length hi = xs.length) ∧ ∀ q H2, H q = none → Same H H2 → H2 q = some (.tup (cutV xs lo hi)) → Q (.ref q) H2) := by
  intro pins s σ H x v vl vu lo hi sl Q I rx hs pl pu h
  obtain ⟨a, xs, rfl, ha, hw, q⟩ := h
  exact sl_tup pins s σ H (.ref a) v vl vu lo hi sl Q I rx hs pl pu ⟨a, xs, rfl, .inl ha, hw, fun p n => q p _ n (Same.new n) upd_same⟩
/-- two tuples of tuples of ints: == -/
theorem op_eqTT (hu : X.A.units + 2 < cLine) : OpR X (compareOp .Eq) (fun x y H Q => ∃ (p q : Addr) (as bs : List Addr) (a b : List (List Int)), x = .ref p ∧ y = .ref q ∧ Rd H p (.tup (as.map V.ref)) ∧ Tus H as a ∧ Rd H q (.tup (bs.map V.ref)) ∧ Tus H bs b ∧ Q (.bl (decide (a = b))) H) := fun pins s σ H x y v u Q I rx ry ⟨p, q, as, bs, a, b, e1, e2, h1, t1, h2, t2, k⟩ =>
  op_eqT (Tup (Tup Int)) hu pins s σ H x y v u Q I rx ry ⟨.mk (a.map .mk), .mk (b.map .mk), e1 ▸ Dp.tup (.inl h1) t1.dvs, e2 ▸ Dp.tup (.inl h2) t2.dvs, by
    rw [show decide (Tup.mk (a.map Tup.mk) = Tup.mk (b.map Tup.mk)) = decide (a = b) from decide_eq_decide.mpr ⟨fun h => by rw [← tups_inj]; exact Tup.mk.inj h, fun h => h ▸ rfl⟩]
    exact k⟩
/-- a call of a def of the top, the last ones by default -/
theorem pcallD {x : Str} {st : Stmt} {ps0 ps : List Str} {dvs dvs0 : List V} {k : Nat} {sp : Sp} {e : Expr} {es : List Expr} {p pos : Pos} {t : TA} (D : DefA X.K X.mg x st ps0 dvs0) (O : FnOk X.prog X.w X.K X.mg X.base CX0 k D.f D.fd ps sp) (hd : ∃ ds, Vals dvs ds ∧ Binds X.K D.fd ps ds) (hr : Room k X.A) (ha : PA X (e :: es) t) (hg : Gl X x := by rfl)
    (hdb : (x == ("__debug__" : Str)) = false := by decide) (he : starEach (e :: es) X.env = (false, eval e X.env) :: starEach es X.env := by rfl) (hpl : (backTo pos (starEach es X.env)).any (·.1) = false := by rfl) : PE X (.Call (.Name x p) (e :: es) [] pos) (tCall sp dvs E0 t) := by
  obtain ⟨ds, hv, hb⟩ := hd
  exact pe_call O hr hg D.g D.F.kp hb hv pass0 ha hdb he hpl
end
section
variable {P : Program} {w : World} {K : PySem.W.Frag} {mg : Str → Option Value} {base : Heap}
/-- Map(list) -/
theorem pmake {N : List Str} {qual : Str} {scope : Scope} {f : Addr} {cdv : Value} {A : Around} {outer : List Env} {s : Shared} {H0 : Hp} {E : XK} (T : Tx K mg) {e : Expr} {t : TA} {p pos : Pos} (hr : Room 6 (cxOf CX0 P w K mg base N qual scope f cdv A outer s H0 E).nox.A) (ha : PA (cxOf CX0 P w K mg base N qual scope f cdv A outer s H0 E).nox [e] t) (hg : Gl (cxOf CX0 P w K mg base N qual scope f cdv A outer s H0 E).nox "Map" := by rfl)
    (he : starEach [e] (cxOf CX0 P w K mg base N qual scope f cdv A outer s H0 E).nox.env = (false, eval e (cxOf CX0 P w K mg base N qual scope f cdv A outer s H0 E).nox.env) :: starEach [] (cxOf CX0 P w K mg base N qual scope f cdv A outer s H0 E).nox.env := by rfl) :
    PE (cxOf CX0 P w K mg base N qual scope f cdv A outer s H0 E).nox (.Call (.Name "Map" p) [e] [] pos) (fun σ H Q => t σ H fun vs H1 => ∃ l ls n r, vs = [.ref l] ∧ LsD H1 l ls ∧ Good ls n r ∧ ∀ m H2, Same H1 H2 → H1 m = none → MapAt T.CMap H2 m (canon ls) n r → Q (.ref m) H2) := by
  refine PE_imp (pe_make T.mkMap (ok_mapInit T) hr hg T.gMap T.mapInit.b .nil pass0 (PA_up ha) (by decide) he rfl) fun σ H Q q => ⟨_, q, fun vs H1 ⟨l, ls, n, r, e1, hl, g, k⟩ x dx nx ndx hne => ?_⟩
  subst e1
  have nx' : upd H1 dx (.own x) x = none := by rw [upd_ne (Ne.symm hne)]; exact nx
  have e2 : Same H1 (upd (upd H1 dx (.own x)) x (.ins T.CMap dx [])) := Same.add (Same.new ndx) nx'
  exact ⟨x, l, dx, ls, n, r, rfl, upd_same, hl.mono e2, g, fun H' xs mt => ⟨rfl, k x H' (SameX.same (SameX.trans (Same.x e2) xs) nx) nx mt⟩⟩
/-! Map.__eq__ -/
theorem scMapEq : FnScope ["self", "other"] ["self", "other"] (defScope sMapEq) := ⟨rfl, rfl, rfl, by decide +kernel, rfl, by decide +kernel, by decide +kernel⟩
def spMapEq (C : Addr) : Sp := fun vs H Q _ => ∃ (a b : Addr) (la lb : List Land) (na nb : Nat) (ra rb : List Int), vs = [.ref a, .ref b] ∧ MapAt C H a la na ra ∧ MapAt C H b lb nb rb ∧ Q (.bl (decide (la = lb))) H
theorem l3s_inj {a b : List Land} (h : a.map l3 = b.map l3) : a = b := by
  induction a generalizing b with
  | nil => cases b with
    | nil => rfl
    | cons _ _ => cases h
  | cons x xs ih => cases b with
    | nil => cases h
    | cons y ys =>
      simp only [List.map_cons, List.cons.injEq] at h
      rw [l3_inj h.1, ih h.2]
theorem ok_mapEq (T : Tx K mg) : FnOk P w K mg base CX0 1 T.mapEq.f T.mapEq.fd ["self", "other"] (spMapEq T.CMap) := by
  refine okN T.mapEq.F scMapEq (fun vs H Q E h => ?_) (fun cdv A outer s H vs Q E hr h => ?_)
  · obtain ⟨a, b, la, lb, na, nb, ra, rb, rfl, _⟩ := h
    rfl
  · obtain ⟨a, b, la, lb, na, nb, ra, rb, rfl, ha, hb, q⟩ := h
    have hu64 := hr.units
    have hu2 : (A.deeper (envOfC (Str.ofString "Map.__eq__") (defScope sMapEq) s.heap.objs.size T.mapEq.f cdv)).units + 2 < cLine := by omega
    obtain ⟨Wa, dxa, pla, pwa, pfa, pia, pra, ka⟩ := ha.parts
    obtain ⟨Wb, dxb, plb, pwb, pfb, pib, prb, kb⟩ := hb.parts
    refine ⟨_, pss_one (ps_ret (pe_and (pe_callB (C8.call_isC T.isiMap) (by rfl) T.isinstance_ (by decide +kernel) (pa_cons (pv 1) (pa_cons (pe_glob (v := .ref T.CMap) (by rfl) T.gMap rfl) pa_nil)))
      (pe_one (pe_cmpR (op_eqTT hu2) (pe_fldU T.clMap T.na_lands (pv 0)) (pe_fldU T.clMap T.na_lands (pv 1)) rfl)))), ?_⟩
    obtain ⟨psa, h1, h2⟩ := ka.lands
    obtain ⟨psb, h3, h4⟩ := kb.lands
    refine ⟨_, rfl, b, dxb, _, rfl, kb.at_, true, rfl, iteT ⟨_, rfl, a, dxa, _, .ref pla, rfl, ka.at_, by rfl, _, rfl, b, dxb, _, .ref plb, rfl, kb.at_, by rfl, pla, plb, psa, psb, _, _, rfl, rfl, h1, tuD_tus h2, h3, tuD_tus h4, ?_⟩⟩
    rw [show decide (la.map l3 = lb.map l3) = decide (la = lb) from decide_eq_decide.mpr ⟨l3s_inj, fun h => h ▸ rfl⟩]
    exact q
/-! land_told, need_land -/
theorem scLandTold : FnScope ["chart", "value", "land"] ["chart", "value"] (defScope sLandTold) := ⟨rfl, rfl, rfl, by decide +kernel, rfl, by decide +kernel, by decide +kernel⟩
def spLandTold (C : Addr) : Sp := fun vs H Q _ => ∃ (m p : Addr) (ls : List Land) (n : Nat) (r : List Int) (l : Land), vs = [.ref m, .ref p] ∧ MapAt C H m ls n r ∧ TuD H p (l3 l) ∧ Ok3 l ∧ rot l ∈ ways ls ∧ ∀ H' q, Same H H' → TuD H' q (l3 (rot l)) → Q (.ref q) H'
theorem ok_landTold (T : Tx K mg) : FnOk P w K mg base CX0 4 T.landTold.f T.landTold.fd ["chart", "value"] (spLandTold T.CMap) := by
  refine okN T.landTold.F scLandTold (fun vs H Q E h => ?_) (fun cdv A outer s H vs Q E hr h => ?_)
  · obtain ⟨m, p, ls, n, r, l, rfl, _⟩ := h
    rfl
  · obtain ⟨m, p, ls, n, r, l, rfl, hm, hp, ok, hin, q⟩ := h
    have hu := hu_of hr
    have nd := scLandTold.nd
    obtain ⟨W, dx, pl, pw, pf, pi, pr, k⟩ := hm.parts
    refine ⟨_, pss_cons (ps_if (pt_not (pt_val (pcall T.isThree (ok_isThree T) hr (pa_cons (pv 1) pa_nil)))) pss_never pss_nil)
      (pss_cons (ps_set (i := 2) nd rfl (.inl rfl) (pcall T.fromLeast ((ok_fromLeast T).mono (k := 3) (by decide)) hr (pa_cons (pe_tupleU T.tuple_ (pa_cons (pv 1) pa_nil)) pa_nil)))
      (pss_one (ps_ret (pe_ifExp (pt_cmpR op_eq (pe_dget1 hu (pe_fldU T.clMap T.na_ways (pv 0)) (pe_slice sl_tupX (pv 2) po_none (po_some pe_int)) ⟨rfl, rfl, rfl, rfl⟩) (pe_ixU (pv 2) pe_int (fun _ _ => rfl)) (nomark _)) (pv 2) pe_non)))), ?_⟩
    refine ⟨_, rfl, p, l, rfl, hp.tu, ok, fun H1 e1 => ⟨true, rfl, iteF ?_⟩⟩
    refine ⟨_, rfl, p, _, rfl, .inr ⟨(hp.mono e1).tu, p, l, rfl, hp.mono e1, ok.1, fun H2 t e2 ht => ?_⟩⟩
    have e02 := e1.trans e2
    have kk := k.mono e02
    refine ⟨_, rfl, m, dx, _, .ref pw, rfl, kk.at_, by rfl, pw, rfl, kk.ways.rd.isD, ?_⟩
    rcases hrl : rot l with ⟨a, b, c⟩
    refine ⟨_, rfl, 2, rfl, t, _, rfl, ht.tu, ?_, fun t2 H3 n3 e3 ht2 => ?_⟩
    · exact (show ¬ (HT.sIx 3 0 none = 0 ∧ HT.sIx 3 3 (some 2) = 3) by decide)
    rw [hrl] at ht ht2
    have hth : third W a b = some c := by
      have g := hm.good
      rw [third_perm k.perm (((k.perm.map key).nodup_iff).mpr g.nd)]
      exact (third_some g.nd).mpr (hrl ▸ hin)
    refine ⟨some (.int c), ?_, ?_⟩
    · have := WR.get (WR.mono e3 kk.ways.rd) (p := t2) (a := a) (b := b) ht2
      rw [hth] at this
      exact this
    refine ⟨_, rfl, t, _, 2, .int c, rfl, rfl, .inl (ht.tu.mono e3), rfl, rfl, _, rfl, ifT (by simp) ?_⟩
    exact ⟨_, rfl, q H3 t (e02.trans e3) (by rw [hrl]; exact ht.mono e3)⟩
end
end MF
end
section
set_option Elab.async false
set_option linter.all false
set_option maxRecDepth 100000
set_option maxHeartbeats 4000000
namespace MF
open PySem PySem.Spec PyProof.Rows L2
section
variable {P : Program} {w : World} {K : PySem.W.Frag} {mg : Str → Option Value} {base : Heap}
/-! need_land -/
theorem scNeedLand : FnScope ["chart", "value", "part", "land"] ["chart", "value", "part"] (defScope sNeedLand) := ⟨rfl, rfl, rfl, by decide +kernel, rfl, by decide +kernel, by decide +kernel⟩
def spNeedLand (C : Addr) : Sp := fun vs H Q _ => ∃ (m p : Addr) (ls : List Land) (n : Nat) (r : List Int) (l : Land) (v : V), vs = [.ref m, .ref p, v] ∧ MapAt C H m ls n r ∧ TuD H p (l3 l) ∧ Ok3 l ∧ rot l ∈ ways ls ∧ ∀ H' q, Same H H' → TuD H' q (l3 (rot l)) → Q (.ref q) H'
theorem ok_needLand (T : Tx K mg) : FnOk P w K mg base CX0 5 T.needLand.f T.needLand.fd ["chart", "value", "part"] (spNeedLand T.CMap) := by
  refine okN T.needLand.F scNeedLand (fun vs H Q E h => ?_) (fun cdv A outer s H vs Q E hr h => ?_)
  · obtain ⟨m, p, ls, n, r, l, v, rfl, _⟩ := h
    rfl
  · obtain ⟨m, p, ls, n, r, l, v, rfl, hm, hp, ok, hin, q⟩ := h
    have nd := scNeedLand.nd
    refine ⟨_, pss_cons (ps_set (i := 3) nd rfl (.inl rfl) (pcall T.landTold (ok_landTold T) hr (pa_cons (pv 0) (pa_cons (pv 1) pa_nil))))
      (pss_cons (ps_if (pt_cmpR op_isN (pv 3) pe_non (nomark _)) pss_never pss_nil) (pss_one (ps_ret (pv 3)))), ?_⟩
    exact ⟨_, rfl, _, rfl, m, p, ls, n, r, l, rfl, hm, hp, ok, hin, fun H1 t e1 ht => ⟨_, rfl, rfl, _, rfl, ifF (by simp) ⟨_, rfl, q H1 t e1 ht⟩⟩⟩
/-! round_in, round_of, ties_of -/
theorem scRoundIn : FnScope ["chart", "dot"] ["chart", "dot"] (defScope sRoundIn) := ⟨rfl, rfl, rfl, by decide +kernel, rfl, by decide +kernel, by decide +kernel⟩
def spRoundIn (C : Addr) : Sp := fun vs H Q _ => ∃ (m : Addr) (d : Int) (ls : List Land) (n : Nat) (r : List Int) (W : List Land) (dx pl pw pf pi pr : Addr), vs = [.ref m, .int d] ∧ Parts C H m ls n r W dx pl pw pf pi pr ∧ 0 ≤ d ∧ d < n ∧ ∀ p rd f, TuX H p rd → IsFirst W d (outs W d) f → IsRound W d f rd → Q (.ref p) H
theorem ok_roundIn (T : Tx K mg) : FnOk P w K mg base CX0 1 T.roundIn.f T.roundIn.fd ["chart", "dot"] (spRoundIn T.CMap) := by
  refine okN T.roundIn.F scRoundIn (fun vs H Q E h => ?_) (fun cdv A outer s H vs Q E hr h => ?_)
  · obtain ⟨m, d, ls, n, r, W, dx, pl, pw, pf, pi, pr, rfl, _⟩ := h
    rfl
  · obtain ⟨m, d, ls, n, r, W, dx, pl, pw, pf, pi, pr, rfl, k, h0, h1, q⟩ := h
    have hu := hu_of hr
    obtain ⟨l, hl, hv⟩ := k.rounds
    obtain ⟨p, rd, f, h2, h3, h4, h5⟩ := hv d h0 h1
    refine ⟨_, pss_one (ps_ret (pe_dget hu (pe_fldU T.clMap T.na_rounds (pv 0)) (pv 1) (fun _ _ => rfl))), ?_⟩
    exact ⟨_, rfl, m, dx, _, .ref pr, rfl, k.at_, by rfl, _, rfl, pr, .ref p, rfl, .inl ⟨iK l, .inl d, hl, rfl, by rw [valV_iK, h2]⟩, q p rd f h3 h4 h5⟩
theorem scRoundOf : FnScope ["chart", "dot"] ["chart", "dot"] (defScope sRoundOf) := ⟨rfl, rfl, rfl, by decide +kernel, rfl, by decide +kernel, by decide +kernel⟩
theorem ok_roundOf (T : Tx K mg) : FnOk P w K mg base CX0 5 T.roundOf.f T.roundOf.fd ["chart", "dot"] (fun vs H Q E => ∃ n : Nat, n ≤ 59 ∧ ∃ (m : Addr) (d : Int) (ls : List Land) (r : List Int) (W : List Land) (dx pl pw pf pi pr : Addr), vs = [.ref m, .int d] ∧ Parts T.CMap H m ls n r W dx pl pw pf pi pr ∧ 0 ≤ d ∧ d < n ∧ ∀ p rd f, TuX H p rd → IsFirst W d (outs W d) f → IsRound W d f rd → Q (.ref p) H) := by
  refine okN T.roundOf.F scRoundOf (fun vs H Q E h => ?_) (fun cdv A outer s H vs Q E hr h => ?_)
  · obtain ⟨n, _, m, d, ls, r, W, dx, pl, pw, pf, pi, pr, rfl, _⟩ := h
    rfl
  · obtain ⟨n, n59, m, d, ls, r, W, dx, pl, pw, pf, pi, pr, rfl, k, h0, h1, q⟩ := h
    refine ⟨_, pss_cons (ps_expr (pcallD T.needMap ((ok_needMap T).mono (k := 4) (by decide)) T.needMapD hr (pa_cons (pv 0) pa_nil)))
      (pss_cons (ps_expr (pcallD T.needDot ((ok_needDot T).mono (k := 4) (by decide)) T.needDotD hr (pa_cons (pv 1) pa_nil)))
      (pss_cons (ps_if (pt_cmp (pc_ge (pv 1) (pe_fldU T.clMap T.na_dots (pv 0)))) pss_never pss_nil)
      (pss_one (ps_ret (pcall T.roundIn ((ok_roundIn T).mono (k := 4) (by decide)) hr (pa_cons (pv 0) (pa_cons (pv 1) pa_nil))))))), ?_⟩
    refine ⟨_, rfl, m, dx, _, _, rfl, k.at_, ?_⟩
    refine ⟨_, rfl, d, _, rfl, h0, by omega, ?_⟩
    refine ⟨_, rfl, _, rfl, m, dx, _, .int n, rfl, k.at_, by rfl, d, n, rfl, rfl, _, rfl, ifF (by simp; omega) ?_⟩
    exact ⟨_, rfl, _, rfl, m, d, ls, n, r, W, dx, pl, pw, pf, pi, pr, rfl, k, h0, h1, q⟩
theorem scTiesOf : FnScope ["chart"] ["chart"] (defScope sTiesOf) := ⟨rfl, rfl, rfl, by decide +kernel, rfl, by decide +kernel, by decide +kernel⟩
theorem ok_tiesOf (T : Tx K mg) : FnOk P w K mg base CX0 2 T.tiesOf.f T.tiesOf.fd ["chart"] (fun vs H Q E => ∃ (m : Addr) (ls : List Land) (n : Nat) (r : List Int) (W : List Land) (dx pl pw pf pi pr : Addr), vs = [.ref m] ∧ Parts T.CMap H m ls n r W dx pl pw pf pi pr ∧ ls.length ≤ 120 ∧ ∀ H' t, Same H H' → TsT H' t (ties W) → Q (.ref t) H') := by
  refine okN T.tiesOf.F scTiesOf (fun vs H Q E h => ?_) (fun cdv A outer s H vs Q E hr h => ?_)
  · obtain ⟨m, ls, n, r, W, dx, pl, pw, pf, pi, pr, rfl, _⟩ := h
    rfl
  · obtain ⟨m, ls, n, r, W, dx, pl, pw, pf, pi, pr, rfl, k, hl, q⟩ := h
    refine ⟨_, pss_cons (ps_expr (pcallD T.needMap (ok_needMap T) T.needMapD hr (pa_cons (pv 0) pa_nil)))
      (pss_one (ps_ret (pcall T.tiesIn (ok_tiesIn T) hr (pa_cons (pe_fldU T.clMap T.na_ways (pv 0)) pa_nil)))), ?_⟩
    refine ⟨_, rfl, m, dx, _, _, rfl, k.at_, ?_⟩
    have h1 := k.perm.length_eq
    rw [ways_len] at h1
    exact ⟨_, rfl, m, dx, _, .ref pw, rfl, k.at_, by rfl, pw, W, rfl, k.ways, by omega, q⟩
/-! land_at -/
theorem scLandAt : FnScope ["chart", "one", "other", "third"] ["chart", "one", "other"] (defScope sLandAt) := ⟨rfl, rfl, rfl, by decide +kernel, rfl, by decide +kernel, by decide +kernel⟩
theorem ok_landAt (T : Tx K mg) : FnOk P w K mg base CX0 5 T.landAt.f T.landAt.fd ["chart", "one", "other"] (fun vs H Q E => ∃ (m : Addr) (a b : Int) (ls : List Land) (n : Nat) (r : List Int) (W : List Land) (dx pl pw pf pi pr : Addr), vs = [.ref m, .int a, .int b] ∧ Parts T.CMap H m ls n r W dx pl pw pf pi pr ∧ Base (Tr W) ∧ (0 ≤ a ∧ a ≤ 59) ∧ (0 ≤ b ∧ b ≤ 59) ∧
    (third W a b = none → ∀ H', Same H H' → Q .non H') ∧ ∀ c, third W a b = some c → ∀ H' q, Same H H' → TuD H' q (l3 (rot (a, b, c))) → Q (.ref q) H') := by
  refine okN T.landAt.F scLandAt (fun vs H Q E h => ?_) (fun cdv A outer s H vs Q E hr h => ?_)
  · obtain ⟨m, a, b, ls, n, r, W, dx, pl, pw, pf, pi, pr, rfl, _⟩ := h
    rfl
  · obtain ⟨m, a, b, ls, n, r, W, dx, pl, pw, pf, pi, pr, rfl, k, B, ha, hb, q1, q2⟩ := h
    have hu := hu_of hr
    have nd := scLandAt.nd
    refine ⟨_, pss_cons (ps_expr (pcallD T.needMap ((ok_needMap T).mono (k := 4) (by decide)) T.needMapD hr (pa_cons (pv 0) pa_nil)))
      (pss_cons (ps_expr (pcall T.needDot ((ok_needDot T).mono (k := 4) (by decide)) hr (pa_cons (pv 1) (pa_cons pe_str pa_nil))))
      (pss_cons (ps_expr (pcall T.needDot ((ok_needDot T).mono (k := 4) (by decide)) hr (pa_cons (pv 2) (pa_cons pe_str pa_nil))))
      (pss_cons (ps_set (i := 3) nd rfl (.inl rfl) (pe_dget1 hu (pe_fldU T.clMap T.na_ways (pv 0)) (pe_tupA (pa_cons (pv 1) (pa_cons (pv 2) pa_nil))) ⟨rfl, rfl, rfl, rfl⟩))
      (pss_one (ps_ret (pe_ifExp (pt_cmpR op_isN (pv 3) pe_non (nomark _)) pe_non (pcall T.fromLeast ((ok_fromLeast T).mono (k := 4) (by decide)) hr (pa_cons (pe_tupD (pa_cons (pv 1) (pa_cons (pv 2) (pa_cons (pv 3) pa_nil)))) pa_nil)))))))), ?_⟩
    refine ⟨_, rfl, m, dx, _, _, rfl, k.at_, ?_⟩
    refine ⟨_, rfl, a, _, rfl, ha.1, ha.2, ?_⟩
    refine ⟨_, rfl, b, _, rfl, hb.1, hb.2, ?_⟩
    refine ⟨_, rfl, m, dx, _, .ref pw, rfl, k.at_, by rfl, pw, rfl, k.ways.rd.isD, ?_⟩
    refine ⟨_, rfl, _, rfl, s2, fun p H1 n1 e1 h1 => ⟨_, WR.get (WR.mono e1 k.ways.rd) h1, ?_⟩⟩
    cases hth : third W a b with
    | none => exact ⟨_, rfl, rfl, _, rfl, ifT (by simp) (q1 hth H1 e1)⟩
    | some c =>
      have h1 := third_mem hth
      refine ⟨_, rfl, rfl, _, rfl, ifF (by simp) ⟨_, rfl, _, rfl, _, rfl, s3, fun p2 o H2 n2 e2 ho hc h2 => ?_⟩⟩
      exact ⟨p2, (a, b, c), rfl, ⟨o, h2, ho, hc⟩, ⟨B.ne h1, (B.ne3 h1).symm, B.ne2 h1⟩, fun H3 t e3 ht => q2 c hth H3 t ((e1.trans e2).trans e3) ht⟩
/-! without -/
theorem scWithout : FnScope ["lands", "gone", "land"] ["lands", "gone"] (defScope sWithout) := ⟨rfl, rfl, rfl, by decide +kernel, rfl, by decide +kernel, by decide +kernel⟩
theorem ok_without (T : Tx K mg) : FnOk P w K mg base CX0 1 T.without.f T.without.fd ["lands", "gone"] (fun vs H Q E => ∃ (t g : Addr) (ls gs : List Land), vs = [.ref t, .ref g] ∧ TsD H t ls ∧ LsD H g gs ∧ ls.length ≤ 1000 ∧ ∀ H' q, Same H H' → LsD H' q (ls.filter fun l => decide (l ∉ gs)) → Q (.ref q) H') := by
  refine okN T.without.F scWithout (fun vs H Q E h => ?_) (fun cdv A outer s H vs Q E hr h => ?_)
  · obtain ⟨t, g, ls, gs, rfl, _⟩ := h
    rfl
  · obtain ⟨t, g, ls, gs, rfl, ⟨ps, hl, ht⟩, ⟨qs, hg, hgt⟩, hz, q⟩ := h
    have hu64 := hr.units
    have hu2 : (A.deeper (envOfC (Str.ofString "without") (defScope sWithout) s.heap.objs.size T.without.f cdv)).units + 2 < cLine := by omega
    have nd := scWithout.nd
    refine ⟨_, pss_one (ps_ret (pe_lcA (own := [("land", 2)]) (g := gName 2) rfl nd (pi_tup (pv 0)) (blkOk_by (N := ["lands", "gone", "land"]) (sc := defScope sWithout) (by decide +kernel)) (fun _ _ _ _ _ => pg_name (i := 2) nd rfl (.inl rfl))
      (fun _ _ _ _ _ => pts_one (pt_cmpR (op_notInL hu2) (pv 2) (pv 1) rfl)) (fun _ _ _ _ _ => pv 2))), ?_⟩
    refine ⟨_, rfl, t, rfl, ⟨_, .inl hl⟩, ?_⟩
    have hlen := tuD_len ht
    have hwalk : Walk (Itt K t) ls.length (fun H' => SqT K H' t (ps.map V.ref)) (YAt (ps.map V.ref)) := by
      have := walk_tup (K := K) (a := t) (xs := ps.map V.ref)
      rw [hlen] at this
      exact this
    refine ⟨Land, ls, fun l => decide (l ∉ gs), fun l y H' => ∃ q, y = V.ref q ∧ TuD H' q (l3 l), _, _, hwalk, sz_lt (by omega), fun H' e' => .inl (Rd.mono e' hl), fun d y H' H'' ex ⟨q, h1, h2⟩ => ⟨q, h1, h2.ext ex⟩, ?_, ?_⟩
    · rintro i l x H2 H3 hd e2 ⟨rfl, hx⟩
      obtain ⟨p, l', rfl, hli, tr⟩ := tuD_at ht hx
      rw [hd] at hli
      cases hli
      have tr' := tr.mono e2
      refine ⟨rfl, _, rfl, _, rfl, p, g, l3 l, qs, gs.map l3, rfl, rfl, tr'.tu, .inl (e2 _ _ hg), (tuD_tus hgt).mono e2, _, rfl, ?_, ?_⟩
      · refine decide_eq_decide.mpr (not_congr ⟨fun h => ?_, fun h => List.mem_map.mpr ⟨l, h, rfl⟩⟩)
        obtain ⟨l2, h2, e⟩ := List.mem_map.mp h
        exact l3_inj e ▸ h2
      · exact ifB rfl (fun _ => ⟨_, rfl, Same.refl _, p, rfl, tr'⟩) (fun _ => Same.refl _)
    · intro D ys H7 nD e7 hD hpr
      obtain ⟨rs, rfl, hr⟩ := tuD_refs (f := l3) hpr
      exact q H7 D e7 ⟨rs, hD, hr⟩
end
end MF
end
section
set_option Elab.async false
set_option linter.all false
set_option maxRecDepth 100000
set_option maxHeartbeats 4000000
namespace MF
open PySem PySem.Spec PyProof.Rows L2
section
variable {P : Program} {w : World} {K : PySem.W.Frag} {mg : Str → Option Value} {base : Heap}
/-! split_at -/
/-- the map with a dot more -/
def splitL (ls : List Land) (l : Land) (n : Int) : List Land := ls.filter (fun x => decide (x ∉ [l])) ++ [(l.1, l.2.1, n), (l.2.1, l.2.2, n), (l.2.2, l.1, n)]
def flipL (ls : List Land) (a b c d : Int) : List Land := ls.filter (fun x => decide (x ∉ [rot (a, b, c), rot (b, a, d)])) ++ [(c, a, d), (d, b, c)]
theorem scSplitAt : FnScope ["chart", "land", "told", "new", "one", "two", "three"] ["chart", "land"] (defScope sSplitAt) := ⟨rfl, rfl, rfl, by decide +kernel, rfl, by decide +kernel, by decide +kernel⟩
theorem lsD_app {H : Hp} {ps : List Addr} {ls : List Land} (h : Paired (TuD H) ps (ls.map l3)) {qs : List Addr} {ms : List Land} (k : Paired (TuD H) qs (ms.map l3)) : Paired (TuD H) (ps ++ qs) ((ls ++ ms).map l3) := by
  rw [List.map_append]
  exact Paired_app h k
theorem ok_splitAt (T : Tx K mg) : FnOk P w K mg base CX0 7 T.splitAt.f T.splitAt.fd ["chart", "land"] (fun vs H Q E => ∃ (m p : Addr) (ls : List Land) (n : Nat) (r : List Int) (l : Land), vs = [.ref m, .ref p] ∧ MapAt T.CMap H m ls n r ∧ TuD H p (l3 l) ∧ Ok3 l ∧ rot l ∈ ways ls ∧ Good (splitL ls (rot l) n) (n + 1) r ∧ ∀ H' m', Same H H' → H m' = none → MapAt T.CMap H' m' (canon (splitL ls (rot l) n)) (n + 1) r → Q (.ref m') H') := by
  refine okN T.splitAt.F scSplitAt (fun vs H Q E h => ?_) (fun cdv A outer s H vs Q E hr h => ?_)
  · obtain ⟨m, p, ls, n, r, l, rfl, _⟩ := h
    rfl
  · obtain ⟨m, p, ls, n, r, l, rfl, hm, hp, ok, hin, g, q⟩ := h
    have nd := scSplitAt.nd
    obtain ⟨tk, hMD⟩ := T.MOST_DOT
    obtain ⟨W, dx, pl, pw, pf, pi, pr, k⟩ := hm.parts
    refine ⟨_, pss_cons (ps_expr (pcallD T.needMap ((ok_needMap T).mono (k := 6) (by decide)) T.needMapD hr (pa_cons (pv 0) pa_nil)))
      (pss_cons (ps_par (i := 2) (j := 3) rfl nd rfl rfl (by decide) rfl rfl (pa_cons (pcallD T.needLand ((ok_needLand T).mono (k := 6) (by decide)) T.needLandD hr (pa_cons (pv 0) (pa_cons (pv 1) pa_nil))) (pa_cons (pe_fldU T.clMap T.na_dots (pv 0)) pa_nil)) (by rfl))
      (pss_cons (ps_if (pt_cmp (pc_gt (pv 3) (pe_glob (v := .int 59) (by rfl) hMD ⟨_, rfl⟩))) pss_never pss_nil)
      (pss_cons (ps_asg (pv 2) (pg_tupU (n := 3) rfl (pgs_cons (pg_name (i := 4) nd rfl (.inl rfl)) (pgs_cons (pg_name (i := 5) nd rfl (.inl rfl)) (pgs_cons (pg_name (i := 6) nd rfl (.inl rfl)) pgs_nil)))))
      (pss_one (ps_ret (pmake T hr (pa_cons (pe_lstA (StX.pa_star (pcall T.without ((ok_without T).mono (k := 6) (by decide)) hr (pa_cons (pe_fldU T.clMap T.na_lands (pv 0)) (pa_cons (pe_lstA (pa_cons (pv 2) pa_nil)) pa_nil)))
        (pa_cons (pe_tupD (pa_cons (pv 4) (pa_cons (pv 5) (pa_cons (pv 3) pa_nil)))) (pa_cons (pe_tupD (pa_cons (pv 5) (pa_cons (pv 6) (pa_cons (pv 3) pa_nil)))) (pa_cons (pe_tupD (pa_cons (pv 6) (pa_cons (pv 4) (pa_cons (pv 3) pa_nil)))) pa_nil))))) pa_nil))))))), ?_⟩
    refine ⟨_, rfl, m, dx, _, _, rfl, k.at_, ?_⟩
    refine ⟨_, rfl, _, rfl, m, p, ls, n, r, l, _, rfl, hm, hp, ok, hin, fun H1 t e1 ht => ?_⟩
    have k1 := k.mono e1
    refine ⟨_, rfl, m, dx, _, .int n, rfl, k1.at_, by rfl, _, _, rfl, ?_⟩
    have n59 := g.n59
    refine ⟨_, rfl, n, 59, rfl, rfl, _, rfl, ifF (by simp; omega) ?_⟩
    rcases hrl : rot l with ⟨a, b, c⟩
    rw [hrl] at ht g q
    refine ⟨_, rfl, t, _, rfl, ht.tu, rfl, _, _, rfl, _, _, rfl, _, _, rfl, rfl, ?_⟩
    have hsm := hm.good.small
    refine ⟨_, rfl, m, dx, _, .ref pl, rfl, k1.at_, by rfl, _, rfl, s1, fun gl H2 n2 e2 h2 => ?_⟩
    refine ⟨pl, gl, ls, [(a, b, c)], rfl, k1.lands.mono e2, ⟨[t], h2, .cons (ht.mono e2) .nil⟩, by omega, fun H3 wl e3 hwl => ?_⟩
    obtain ⟨ws, hw1, hw2⟩ := hwl
    refine ⟨wl, _, rfl, .inr (.inl (.inl hw1)), ?_⟩
    refine ⟨_, rfl, _, rfl, _, rfl, s3, fun p4 o4 H4 n4 e4 ho4 hc4 h4 => ?_⟩
    refine ⟨_, rfl, _, rfl, _, rfl, s3, fun p5 o5 H5 n5 e5 ho5 hc5 h5 => ?_⟩
    refine ⟨_, rfl, _, rfl, _, rfl, s3, fun p6 o6 H6 n6 e6 ho6 hc6 h6 => ?_⟩
    have e46 : Same H3 H6 := e4.trans (e5.trans e6)
    have hl3 := tuD_len hw2
    refine ⟨?_, fun ll H7 n7 e7 h7 => ?_⟩
    · rw [List.length_append, hl3]
      refine sz_of (Nat.le_trans (Nat.add_le_add_right (List.length_filter_le _ _) _) ?_)
      simp only [List.length_cons, List.length_nil]
      omega
    have e13 := (e1.trans e2).trans (e3.trans e46)
    have e17 := e13.trans e7
    refine ⟨ll, splitL ls (a, b, c) n, n + 1, r, rfl, ⟨ws ++ [p4, p5, p6], by rw [h7, List.map_append]; rfl, lsD_app (Paired_mono (fun _ _ z => TuD.mono (e46.trans e7) z) hw2) ?_⟩, g, fun m' H8 e8 nm hm8 => q H8 m' (e17.trans e8) (Same.none e17 nm) hm8⟩
    exact .cons ⟨o4, e7 _ _ (e6 _ _ (e5 _ _ h4)), ho4, hc4⟩ (.cons ⟨o5, e7 _ _ (e6 _ _ h5), ho5, hc5⟩ (.cons ⟨o6, e7 _ _ h6, ho6, hc6⟩ .nil))
/-! exchanged -/
theorem scExchanged : FnScope ["chart", "one", "other", "third", "fourth", "gone"] ["chart", "one", "other"] (defScope sExchanged) := ⟨rfl, rfl, rfl, by decide +kernel, rfl, by decide +kernel, by decide +kernel⟩
theorem ok_exchanged (T : Tx K mg) : FnOk P w K mg base CX0 7 T.exchanged.f T.exchanged.fd ["chart", "one", "other"] (fun vs H Q E => ∃ (m : Addr) (a b c d : Int) (ls : List Land) (n : Nat) (r : List Int), vs = [.ref m, .int a, .int b] ∧ MapAt T.CMap H m ls n r ∧ (a, b, c) ∈ ways ls ∧ (b, a, d) ∈ ways ls ∧ (∀ z, (c, d, z) ∉ ways ls) ∧ (∀ z, (d, c, z) ∉ ways ls) ∧ Good (flipL ls a b c d) n r ∧
    ∀ H' m', Same H H' → H m' = none → MapAt T.CMap H' m' (canon (flipL ls a b c d)) n r → Q (.ref m') H') := by
  refine okN T.exchanged.F scExchanged (fun vs H Q E h => ?_) (fun cdv A outer s H vs Q E hr h => ?_)
  · obtain ⟨m, a, b, c, d, ls, n, r, rfl, _⟩ := h
    rfl
  · obtain ⟨m, a, b, c, d, ls, n, r, rfl, hm, h1, h2, h3, h4, g, q⟩ := h
    have hu := hu_of hr
    have nd := scExchanged.nd
    obtain ⟨W, dx, pl, pw, pf, pi, pr, k⟩ := hm.parts
    have G := hm.good
    have hnW : (W.map key).Nodup := ((k.perm.map key).nodup_iff).mpr G.nd
    have t1 : third W a b = some c := (third_some hnW).mpr (k.perm.mem_iff.mpr h1)
    have t2 : third W b a = some d := (third_some hnW).mpr (k.perm.mem_iff.mpr h2)
    have t3 : third W c d = none := third_none.mpr fun z hz => h3 z (k.perm.mem_iff.mp hz)
    have t4 : third W d c = none := third_none.mpr fun z hz => h4 z (k.perm.mem_iff.mp hz)
    have da := (G.dots a).mp ⟨_, _, h1⟩
    have db := (G.dots b).mp ⟨_, _, h2⟩
    have dc := (G.dots c).mp ⟨_, _, G.B.cyc2 h1⟩
    have dd := (G.dots d).mp ⟨_, _, G.B.cyc2 h2⟩
    have n59 := G.n59
    refine ⟨_, pss_cons (ps_expr (pcallD T.needMap ((ok_needMap T).mono (k := 6) (by decide)) T.needMapD hr (pa_cons (pv 0) pa_nil)))
      (pss_cons (ps_expr (pcall T.needDot ((ok_needDot T).mono (k := 6) (by decide)) hr (pa_cons (pv 1) (pa_cons pe_str pa_nil))))
      (pss_cons (ps_expr (pcall T.needDot ((ok_needDot T).mono (k := 6) (by decide)) hr (pa_cons (pv 2) (pa_cons pe_str pa_nil))))
      (pss_cons (ps_par (i := 3) (j := 4) rfl nd rfl rfl (by decide) rfl rfl (pa_cons (pe_dget1 hu (pe_fldU T.clMap T.na_ways (pv 0)) (pe_tupA (pa_cons (pv 1) (pa_cons (pv 2) pa_nil))) ⟨rfl, rfl, rfl, rfl⟩) (pa_cons (pe_dget1 hu (pe_fldU T.clMap T.na_ways (pv 0)) (pe_tupA (pa_cons (pv 2) (pa_cons (pv 1) pa_nil))) ⟨rfl, rfl, rfl, rfl⟩) pa_nil)) (by rfl))
      (pss_cons (ps_if (PW.pt (pw_or (pt_cmpR op_isN (pv 3) pe_non (nomark _)) (pw_or (pt_cmpR op_isN (pv 4) pe_non (nomark _)) (pw_or (pt_cmp (pc_din hu (pe_tupA (pa_cons (pv 3) (pa_cons (pv 4) pa_nil))) (pe_fldU T.clMap T.na_ways (pv 0)))) (pw_or1 (pt_cmp (pc_din hu (pe_tupA (pa_cons (pv 4) (pa_cons (pv 3) pa_nil))) (pe_fldU T.clMap T.na_ways (pv 0))))))))) pss_never pss_nil)
      (pss_cons (ps_set (i := 5) nd rfl (.inl rfl) (pe_lstA (pa_cons (pcallD T.needLand ((ok_needLand T).mono (k := 6) (by decide)) T.needLandD hr (pa_cons (pv 0) (pa_cons (pe_tupD (pa_cons (pv 1) (pa_cons (pv 2) (pa_cons (pv 3) pa_nil)))) pa_nil)))
        (pa_cons (pcallD T.needLand ((ok_needLand T).mono (k := 6) (by decide)) T.needLandD hr (pa_cons (pv 0) (pa_cons (pe_tupD (pa_cons (pv 2) (pa_cons (pv 1) (pa_cons (pv 4) pa_nil)))) pa_nil))) pa_nil))))
      (pss_one (ps_ret (pmake T hr (pa_cons (pe_lstA (StX.pa_star (pcall T.without ((ok_without T).mono (k := 6) (by decide)) hr (pa_cons (pe_fldU T.clMap T.na_lands (pv 0)) (pa_cons (pv 5) pa_nil)))
        (pa_cons (pe_tupD (pa_cons (pv 3) (pa_cons (pv 1) (pa_cons (pv 4) pa_nil)))) (pa_cons (pe_tupD (pa_cons (pv 4) (pa_cons (pv 2) (pa_cons (pv 3) pa_nil)))) pa_nil)))) pa_nil))))))))), ?_⟩
    refine ⟨_, rfl, m, dx, _, _, rfl, k.at_, ?_⟩
    refine ⟨_, rfl, a, _, rfl, by omega, by omega, ?_⟩
    refine ⟨_, rfl, b, _, rfl, by omega, by omega, ?_⟩
    refine ⟨_, rfl, m, dx, _, .ref pw, rfl, k.at_, by rfl, pw, rfl, k.ways.rd.isD, _, rfl, _, rfl, s2, fun p1 H1 n1 e1 hp1 => ⟨some (.int c), ?_, ?_⟩⟩
    · have := WR.get (WR.mono e1 k.ways.rd) (p := p1) (a := a) (b := b) hp1
      rw [t1] at this
      exact this
    have k1 := k.mono e1
    refine ⟨_, rfl, m, dx, _, .ref pw, rfl, k1.at_, by rfl, pw, rfl, k1.ways.rd.isD, _, rfl, _, rfl, s2, fun p2 H2 n2 e2 hp2 => ⟨some (.int d), ?_, ?_⟩⟩
    · have := WR.get (WR.mono e2 k1.ways.rd) (p := p2) (a := b) (b := a) hp2
      rw [t2] at this
      exact this
    have k2 := k1.mono e2
    refine ⟨.int c, .int d, rfl, ?_⟩
    refine ⟨_, rfl, rfl, _, rfl, ifF (by simp) ⟨_, rfl, rfl, _, rfl, ifF (by simp) ?_⟩⟩
    refine ⟨_, rfl, _, rfl, s2, fun p3 H3 n3 e3 hp3 => ?_⟩
    have k3 := k2.mono e3
    refine ⟨_, rfl, m, dx, _, .ref pw, rfl, k3.at_, by rfl, pw, _, rfl, WR.get k3.ways.rd (p := p3) (a := c) (b := d) hp3, _, rfl, ifF (by rw [t3]; rfl) ?_⟩
    refine ⟨_, rfl, _, rfl, s2, fun p4 H4 n4 e4 hp4 => ?_⟩
    have k4 := k3.mono e4
    refine ⟨_, rfl, m, dx, _, .ref pw, rfl, k4.at_, by rfl, pw, _, rfl, WR.get k4.ways.rd (p := p4) (a := d) (b := c) hp4, _, rfl, ifF (by rw [t4]; rfl) ?_⟩
    have e04 := (e1.trans e2).trans (e3.trans e4)
    have okab : Ok3 (a, b, c) := ⟨⟨G.B.ne h1, (G.B.ne3 h1).symm, G.B.ne2 h1⟩, by simp only; omega, by simp only; omega, by simp only; omega, by simp only; omega⟩
    have okba : Ok3 (b, a, d) := ⟨⟨G.B.ne h2, (G.B.ne3 h2).symm, G.B.ne2 h2⟩, by simp only; omega, by simp only; omega, by simp only; omega, by simp only; omega⟩
    have rin : ∀ {x : Land}, x ∈ ways ls → rot x ∈ ways ls := fun {x} hx => by
      obtain ⟨x1, x2, x3⟩ := x
      unfold rot
      split
      · exact hx
      · split
        · exact G.B.cyc hx
        · exact G.B.cyc2 hx
    refine ⟨_, rfl, _, rfl, _, rfl, _, rfl, s3, fun p5 o5 H5 n5 e5 ho5 hc5 hp5 => ?_⟩
    refine ⟨m, p5, ls, n, r, (a, b, c), _, rfl, hm.mono (e04.trans e5), ⟨o5, hp5, ho5, hc5⟩, okab, rin h1, fun H6 g1 e6 hg1 => ?_⟩
    refine ⟨_, rfl, _, rfl, _, rfl, _, rfl, s3, fun p7 o7 H7 n7 e7 ho7 hc7 hp7 => ?_⟩
    have e47 := (e5.trans e6).trans e7
    refine ⟨m, p7, ls, n, r, (b, a, d), _, rfl, hm.mono (e04.trans e47), ⟨o7, hp7, ho7, hc7⟩, okba, rin h2, fun H8 g2 e8 hg2 => ?_⟩
    refine ⟨s2, fun gl H9 n9 e9 h9 => ?_⟩
    have e49 := (e47.trans e8).trans e9
    have k9 := k4.mono e49
    have hsm := G.small
    refine ⟨_, rfl, m, dx, _, .ref pl, rfl, k9.at_, by rfl, _, rfl, pl, gl, ls, [rot (a, b, c), rot (b, a, d)], rfl, k9.lands, ⟨[g1, g2], h9, .cons (hg1.mono (e7.trans (e8.trans e9))) (.cons (hg2.mono e9) .nil)⟩, by omega, fun H10 wl e10 hwl => ?_⟩
    obtain ⟨ws, hw1, hw2⟩ := hwl
    refine ⟨wl, _, rfl, .inr (.inl (.inl hw1)), ?_⟩
    refine ⟨_, rfl, _, rfl, _, rfl, s3, fun p11 o11 H11 n11 e11 ho11 hc11 h11 => ?_⟩
    refine ⟨_, rfl, _, rfl, _, rfl, s3, fun p12 o12 H12 n12 e12 ho12 hc12 h12 => ?_⟩
    have e1012 : Same H10 H12 := e11.trans e12
    have hl3 := tuD_len hw2
    refine ⟨?_, fun ll H13 n13 e13 h13 => ?_⟩
    · rw [List.length_append, hl3]
      refine sz_of (Nat.le_trans (Nat.add_le_add_right (List.length_filter_le _ _) _) ?_)
      simp only [List.length_cons, List.length_nil]
      omega
    have e013 := ((e04.trans e49).trans e10).trans (e1012.trans e13)
    refine ⟨ll, flipL ls a b c d, n, r, rfl, ⟨ws ++ [p11, p12], by rw [h13, List.map_append]; rfl, lsD_app (Paired_mono (fun _ _ z => TuD.mono (e1012.trans e13) z) hw2) ?_⟩, g, fun m' H14 e14 nm hm14 => q H14 m' (e013.trans e14) (Same.none e013 nm) hm14⟩
    exact .cons ⟨o11, e13 _ _ (e12 _ _ h11), ho11, hc11⟩ (.cons ⟨o12, e13 _ _ h12, ho12, hc12⟩ .nil)
end
end MF
end
section
set_option Elab.async false
set_option linter.all false
set_option maxRecDepth 100000
set_option maxHeartbeats 4000000
namespace MF
open PySem PySem.Spec PyProof.Rows L2 TL
/-! words and texts -/
def wd (n : Nat) : Str := Str.ofString (toString ((n : Nat) : Int))
def bar : Str := "/"
def spc : Str := " "
def dv3 : Str := " / "
def wl (l : Land) : List Str := [wd l.1.toNat, wd l.2.1.toNat, wd l.2.2.toNat]
def wsOf : List Land → List Str
  | [] => []
  | [l] => wl l
  | l :: r :: rs => wl l ++ bar :: wsOf (r :: rs)
def textOf (ls : List Land) : Str := Txt.join dv3 (ls.map fun l => Txt.join spc (wl l))
theorem joinL_app (S : List Nat) : ∀ {A B : List (List Nat)}, A ≠ [] → B ≠ [] → joinL S (A ++ B) = joinL S A ++ (S ++ joinL S B)
  | [a], b :: B, _, _ => rfl
  | a :: a' :: A, B, _, hB => by
    show a ++ (S ++ joinL S (a' :: A ++ B)) = a ++ (S ++ joinL S (a' :: A)) ++ (S ++ joinL S B)
    rw [joinL_app S (by simp) hB]
    simp only [List.append_assoc]
theorem tl_spc : tl spc = [32] := by decide +kernel
theorem tl_bar : tl bar = [47] := by decide +kernel
theorem tl_dv3 : tl dv3 = [32, 47, 32] := by decide +kernel
theorem wsOf_ne : ∀ {ls : List Land}, ls ≠ [] → wsOf ls ≠ []
  | [], h => absurd rfl h
  | [l], _ => by simp [wsOf, wl]
  | l :: r :: rs, _ => by simp [wsOf, wl]
theorem tl_text : ∀ {ls : List Land}, ls ≠ [] → joinL [32, 47, 32] ((ls.map fun l => Txt.join spc (wl l)).map tl) = joinL [32] ((wsOf ls).map tl)
  | [], h => absurd rfl h
  | [l], _ => by
    show tl (Txt.join spc (wl l)) = _
    rw [join_eq, tl_join, tl_spc]
    rfl
  | l :: r :: rs, _ => by
    have ih := tl_text (ls := r :: rs) (by simp)
    show tl (Txt.join spc (wl l)) ++ ([32, 47, 32] ++ joinL [32, 47, 32] (((r :: rs).map fun l => Txt.join spc (wl l)).map tl)) = joinL [32] ((wl l ++ bar :: wsOf (r :: rs)).map tl)
    rw [ih, List.map_append, joinL_app [32] (by simp [wl]) (by simp), join_eq, tl_join, tl_spc]
    congr 1
    rw [List.map_cons, show tl bar :: (wsOf (r :: rs)).map tl = [tl bar] ++ (wsOf (r :: rs)).map tl from rfl, joinL_app [32] (by simp) (by simpa using wsOf_ne (ls := r :: rs) (by simp)), tl_bar]
    rfl
theorem text_words {ls : List Land} (h : ls ≠ []) : textOf ls = Txt.join spc (wsOf ls) := by
  refine ext_tl ?_
  unfold textOf
  rw [join_eq, tl_join, tl_dv3, tl_text h, join_eq, tl_join, tl_spc]
theorem mem_wsOf : ∀ {ls : List Land} {x : Str}, x ∈ wsOf ls → x = bar ∨ ∃ n, x = wd n
  | [], x, h => by cases h
  | [l], x, h => by
    simp only [wsOf, wl, List.mem_cons, List.not_mem_nil, or_false] at h
    rcases h with rfl | rfl | rfl <;> exact .inr ⟨_, rfl⟩
  | l :: r :: rs, x, h => by
    simp only [wsOf, wl, List.cons_append, List.nil_append, List.mem_cons] at h
    rcases h with rfl | rfl | rfl | rfl | h
    · exact .inr ⟨_, rfl⟩
    · exact .inr ⟨_, rfl⟩
    · exact .inr ⟨_, rfl⟩
    · exact .inl rfl
    · exact mem_wsOf h
theorem split_text {ls : List Land} (h : ls ≠ []) : Txt.split (textOf ls) spc = wsOf ls := by
  rw [text_words h]
  refine split_join (s := 32) (S := []) tl_spc (by decide +kernel) (wsOf_ne h) fun p hp => ?_
  rcases mem_wsOf hp with rfl | ⟨n, rfl⟩
  · rw [tl_bar]
    simp
  · rw [wd, tl_num]
    exact numL_free (.inl (by decide))
theorem wsOf_length : ∀ {ls : List Land}, ls ≠ [] → (wsOf ls).length + 1 = 4 * ls.length
  | [], h => absurd rfl h
  | [l], _ => rfl
  | l :: r :: rs, _ => by
    have ih := wsOf_length (ls := r :: rs) (by simp)
    simp only [wsOf, wl, List.length_append, List.length_cons, List.length_nil] at ih ⊢
    omega
theorem wsOf_at : ∀ {ls : List Land} {i : Nat} {l : Land}, ls[i]? = some l → (wsOf ls)[4 * i]? = some (wd l.1.toNat) ∧ (wsOf ls)[4 * i + 1]? = some (wd l.2.1.toNat) ∧ (wsOf ls)[4 * i + 2]? = some (wd l.2.2.toNat) ∧ (i + 1 < ls.length → (wsOf ls)[4 * i + 3]? = some bar)
  | [l], 0, x, h => by
    cases h
    exact ⟨rfl, rfl, rfl, fun z => by simp at z⟩
  | l :: r :: rs, 0, x, h => by
    cases h
    exact ⟨rfl, rfl, rfl, fun _ => rfl⟩
  | l :: r :: rs, i + 1, x, h => by
    have ih := wsOf_at (ls := r :: rs) (i := i) (l := x) (by simpa using h)
    have e : ∀ k, (wsOf (l :: r :: rs))[4 * (i + 1) + k]? = (wsOf (r :: rs))[4 * i + k]? := fun k => by
      show (wd l.1.toNat :: wd l.2.1.toNat :: wd l.2.2.toNat :: bar :: wsOf (r :: rs))[4 * (i + 1) + k]? = _
      rw [show 4 * (i + 1) + k = (4 * i + k) + 1 + 1 + 1 + 1 by omega]
      simp only [List.getElem?_cons_succ]
    refine ⟨by have := e 0; simpa using this.trans ih.1, (e 1).trans ih.2.1, (e 2).trans ih.2.2.1, fun z => (e 3).trans (ih.2.2.2 ?_)⟩
    simp only [List.length_cons] at z ⊢
    omega
/-! a word, by cases -/
theorem wd_minus : ∀ n < 60, (Txt.slice (wd n) none (some 1) == ("-" : Str)) = false := by decide +kernel
theorem wd_empty : ∀ n < 60, (wd n == ("" : Str)) = false := by decide +kernel
theorem wd_len : ∀ n < 60, (wd n).length ≤ 2 := by decide +kernel
theorem wd_digits : ∀ n < 60, ((wd n).cps.toList.all fun c => decide (c ∈ (Str.ofString "0123456789").cps.toList)) = true := by decide +kernel
theorem wd_zero : ∀ n < 60, ((((wd n).cps.toList.head?).map fun c => (⟨#[c]⟩ : Str) == ("0" : Str)) == some true && !(wd n == ("0" : Str))) = false := by decide +kernel
theorem wd_int {n : Nat} (h : n < 60) : intText? (wd n) = some (n : Int) := by
  refine int_num ?_
  have := wd_len n h
  rw [wd, len_tl, tl_num] at this
  omega
theorem wd_bar : ∀ n < 60, (wd n == bar) = false := by decide +kernel
end MF
end
section
set_option Elab.async false
set_option linter.all false
set_option maxRecDepth 100000
set_option maxHeartbeats 4000000
namespace MF
open PySem PySem.Spec PyProof.Rows L2
section
variable {P : Program} {w : World} {K : PySem.W.Frag} {mg : Str → Option Value} {base : Heap}
/-! written -/
theorem wd_sz {n : Nat} (h : n < 60) : (wd n).length ≤ sizeLine := Nat.le_trans (wd_len n h) (by decide)
theorem wd_first {n : Nat} (h : n < 60) : ∃ c, atI (wd n).cps.toList 0 = some c ∧ ((⟨#[c]⟩ : Str) = "0" → wd n = "0") := by
  have h1 := wd_zero n h
  have h2 := wd_empty n h
  cases hc : (wd n).cps.toList with
  | nil =>
    exfalso
    have : wd n = ("" : Str) := TL.ext_tl (by rw [TL.tl, hc]; rfl)
    rw [this] at h2
    simp at h2
  | cons c cs =>
    rw [hc] at h1
    refine ⟨c, atI_nat (j := 0) rfl, fun e => ?_⟩
    rw [List.head?_cons, Option.map_some, e] at h1
    simp at h1
    exact h1
theorem scWritten : FnScope ["item", "figures", "sign"] ["item"] (defScope sWritten) := ⟨rfl, rfl, rfl, by decide +kernel, rfl, by decide +kernel, by decide +kernel⟩
def spWritten : Sp := fun vs H Q _ => ∃ n : Nat, vs = [.str (wd n)] ∧ n < 60 ∧ ∀ H', Same H H' → Q (.int n) H'
theorem ok_written (T : Tx K mg) : FnOk P w K mg base CX0 1 T.written.f T.written.fd ["item"] spWritten := by
  refine okN T.written.F scWritten (fun vs H Q E h => ?_) (fun cdv A outer s H vs Q E hr h => ?_)
  · obtain ⟨n, rfl, _⟩ := h
    rfl
  · obtain ⟨n, rfl, hn, q⟩ := h
    have hu := hu_of hr
    have nd := scWritten.nd
    obtain ⟨tk1, hMF⟩ := T.MOST_FIGURES
    obtain ⟨tk2, hFG⟩ := T.FIGURES
    refine ⟨_, pss_cons (ps_set (i := 1) nd rfl (.inl rfl) (pe_ifExp (pt_cmpR op_eq (pe_slice C8.sl_txt (pv 0) po_none (po_some pe_int)) pe_str (nomark _)) (pe_slice C8.sl_txt (pv 0) (po_some pe_int) po_none) (pv 0)))
      (pss_cons (ps_if (PW.pt (pw_or (pt_cmpR op_eq (pv 1) pe_str (nomark _)) (pw_or (pt_cmp (pc_gt (pe_callB call_len_str (by rfl) T.len_ (by decide +kernel) (pa_cons (pv 1) pa_nil)) (pe_glob (v := .int 2000) (by rfl) hMF ⟨_, rfl⟩)))
          (pw_or1 (pt_not (pt_val (pe_callB (cr_all rfl) (by rfl) T.all_ (by decide +kernel) (pa_cons (pe_lcA (own := [("sign", 2)]) (g := gName 2) (tt := tYes) rfl nd (pi_str (pv 1)) (blkOk_by (N := ["item", "figures", "sign"]) (sc := defScope sWritten) (by decide +kernel)) (fun _ _ _ _ _ => pg_name (i := 2) nd rfl (.inl rfl))
            (fun _ _ _ _ _ => pts_nil) (fun _ _ _ _ _ => pe_cmpR op_in_sign (pv 2) (pe_glob (v := .str "0123456789") (by rfl) hFG ⟨_, rfl⟩) rfl)) pa_nil)))))))) (pss_one (ps_ret pe_non)) pss_nil)
      (pss_cons (ps_if (PW.pt (pw_and (pt_cmpR op_eq (pe_ix ix_str (pv 1) pe_int (fun _ _ => rfl)) pe_str (nomark _)) (pw_and1 (pt_cmpR op_ne (pv 0) pe_str (nomark _))))) (pss_one (ps_ret pe_non)) pss_nil)
      (pss_one (ps_ret (pe_callTy call_int_str (by rfl) T.int_ (by decide +kernel) (pa_cons (pv 0) pa_nil)))))), ?_⟩
    have hsz := wd_sz hn
    have h2 := wd_len n hn
    refine ⟨_, rfl, 1, rfl, _, rfl, hsz, rfl, _, rfl, ifF ?_ ?_⟩
    · have := wd_minus n hn
      rw [decide_eq_false_iff_not]
      intro e
      injection e with e
      rw [e] at this
      simp at this
    refine ⟨_, rfl, ?_⟩
    refine ⟨_, rfl, rfl, _, rfl, ifF ?_ ?_⟩
    · have := wd_empty n hn
      rw [decide_eq_false_iff_not]
      intro e
      injection e with e
      rw [e] at this
      simp at this
    refine ⟨_, rfl, _, rfl, hsz, _, 2000, rfl, rfl, _, rfl, ifF (by simp; omega) ?_⟩
    refine ⟨_, rfl, _, rfl, ?_⟩
    refine ⟨Nat, (wd n).cps.toList, fun _ => true, fun c y _ => y = .bl true, fun _ => True, fun i H v H' => H' = H ∧ ∃ c, (wd n).cps[i]? = some c ∧ v = .str ⟨#[c]⟩, ?_, ?_, fun _ _ => trivial, fun _ _ _ _ _ h => h, ?_, ?_⟩
    · have := walk_str (z := wd n)
      rw [← Array.length_toList] at this
      exact this
    · have h2' : (wd n).cps.toList.length ≤ 2 := by
        rw [TL.len_tl] at h2
        exact h2
      exact sz_lt (by omega)
    · rintro i c x H2 H3 hc e2 ⟨rfl, c', hc', rfl⟩
      rw [← Array.getElem?_toList, hc] at hc'
      cases hc'
      refine ⟨rfl, rfl, ?_⟩
      refine ⟨_, rfl, c, _, rfl, rfl, Same.refl _, ?_⟩
      have := List.all_eq_true.mp (wd_digits n hn) c (List.mem_of_getElem? hc)
      rw [this]
    · intro D ys H7 nD e7 hD hpr
      rw [List.filter_eq_self.mpr (fun _ _ => rfl)] at hpr
      have hys : ys = (((wd n).cps.toList).map fun _ => true).map V.bl := by
        rw [Paired_eq hpr, List.map_map]
        rfl
      rw [hys] at hD
      refine ⟨D, _, rfl, .inl (.inl hD), true, by simp, iteF ?_⟩
      obtain ⟨c, hc, h0⟩ := wd_first hn
      refine ⟨_, rfl, _, 0, c, rfl, rfl, hsz, hc, rfl, _, rfl, ?_⟩
      have fin : tRet (tCB (fun xs H Q => ∃ a n, xs = [V.str a] ∧ intText? a = some n ∧ a.length ≤ 640 ∧ Q (.int n) H) (tCons (tVar 0) tNil)) { nx := fun x H' => Q .non H', rt := Q } (((L2.start ["item", "figures", "sign"] [V.str (wd n)]).set 1 (some (V.str (wd n))))) H7 :=
        ⟨_, rfl, wd n, n, rfl, wd_int hn, by omega, q H7 e7⟩
      refine ifB rfl (fun hz => ?_) (fun _ => iteF fin)
      have hz' : wd n = "0" := h0 (by
        have := of_decide_eq_true hz
        injection this)
      exact ⟨_, rfl, rfl, _, rfl, ifF (by rw [hz']; simp) fin⟩
end
end MF
end
section
set_option Elab.async false
set_option linter.all false
set_option maxRecDepth 100000
set_option maxHeartbeats 4000000
namespace MF
open PySem PySem.Spec PyProof.Rows L2
def ScanAt (C : Addr) (H : Hp) (s : Addr) (ws : List Str) (k : Nat) : Prop := ∃ dx p, H s = some (.ins C dx [("words", .ref p), ("at", .int (k : Nat))]) ∧ H p = some (.lst (ws.map V.str))
theorem ScanAt.mono {C : Addr} {H H' : Hp} (e : Same H H') {s : Addr} {ws : List Str} {k : Nat} (h : ScanAt C H s ws k) : ScanAt C H' s ws k := let ⟨dx, p, h1, h2⟩ := h; ⟨dx, p, e _ _ h1, e _ _ h2⟩
theorem SameX.tuD {m : Addr} {H H' : Hp} (e : SameX m H H') {C dx : Addr} {fs : List (Str × V)} (hm : H m = some (.ins C dx fs)) {p : Addr} {ns : List Int} (h : TuD H p ns) : TuD H' p ns := h.ext (e.ext hm)
theorem SameX.tu {m : Addr} {H H' : Hp} (e : SameX m H H') {C dx : Addr} {fs : List (Str × V)} (hm : H m = some (.ins C dx fs)) {p : Addr} {ns : List Int} (h : Tu H p ns) : Tu H' p ns := h.ext (e.ext hm)
section
variable {P : Program} {w : World} {K : PySem.W.Frag} {mg : Str → Option Value} {base : Heap}
theorem scScanInit : FnScope ["self", "text"] ["self", "text"] (defScope sScanInit) := ⟨rfl, rfl, rfl, by decide +kernel, rfl, by decide +kernel, by decide +kernel⟩
def spScanInit (C : Addr) : Sp := fun vs H Q _ => ∃ (s dx : Addr) (z : Str), vs = [.ref s, .str z] ∧ H s = some (.ins C dx []) ∧ z.length + 2 ≤ sizeLine ∧ ∀ H', SameX s H H' → ScanAt C H' s (Txt.split z spc) 0 → Q .non H'
theorem ok_scanInit (T : Tx K mg) : FnOk P w K mg base CX0 1 T.scanInit.f T.scanInit.fd ["self", "text"] (spScanInit T.CScan) := by
  refine okN T.scanInit.F scScanInit (fun vs H Q E h => ?_) (fun cdv A outer s0 H vs Q E hr h => ?_)
  · obtain ⟨s, dx, z, rfl, _⟩ := h
    rfl
  · obtain ⟨s, dx, z, rfl, hs, hz, q⟩ := h
    refine ⟨_, pss_cons (ps_if (pt_not (pt_val (pe_callB call_isiStr (by rfl) T.isinstance_ (by decide +kernel) (pa_cons (pv 1) (pa_cons (pe_bltn (v := .ty "str") (by rfl) T.str_ (by decide +kernel) rfl) pa_nil))))) pss_never pss_nil)
      (pss_cons (ps_fldU T.clScan T.na_words (pv 0) (pe_split (pv 1) pe_str)) (pss_one (ps_fldU T.clScan T.na_at (pv 0) pe_int))), ?_⟩
    refine ⟨_, rfl, z, rfl, true, rfl, iteF ?_⟩
    refine ⟨_, rfl, ⟨z, rfl⟩, z, spc, rfl, rfl, by decide, hz, fun p np => ?_⟩
    refine ⟨_, rfl, s, dx, _, rfl, at_new hs np, (show 0 < 1000 by decide), fun H3 x3 hs3 => ?_⟩
    have hps : p ≠ s := fun e => by rw [e, hs] at np; cases np
    have hp3 : H3 p = some (.lst ((Txt.split z spc).map V.str)) := x3 _ _ hps upd_same
    refine ⟨_, rfl, s, dx, _, rfl, hs3, (show 1 < 1000 by decide), fun H4 x4 hs4 => ?_⟩
    exact q H4 (((Same.x (Same.new np)).trans x3).trans x4) ⟨dx, p, hs4, x4 _ _ hps hp3⟩
theorem scAhead : FnScope ["self"] ["self"] (defScope sAhead) := ⟨rfl, rfl, rfl, by decide +kernel, rfl, by decide +kernel, by decide +kernel⟩
def strO : Option Str → V | some z => .str z | none => .non
def spAhead (C : Addr) : Sp := fun vs H Q _ => ∃ (s : Addr) (ws : List Str) (k : Nat), vs = [.ref s] ∧ ScanAt C H s ws k ∧ Q (strO ws[k]?) H
theorem ok_ahead (T : Tx K mg) : FnOk P w K mg base CX0 1 T.ahead.f T.ahead.fd ["self"] (spAhead T.CScan) := by
  refine okN T.ahead.F scAhead (fun vs H Q E h => ?_) (fun cdv A outer s0 H vs Q E hr h => ?_)
  · obtain ⟨s, ws, k, rfl, _⟩ := h
    rfl
  · obtain ⟨s, ws, k, rfl, ⟨dx, p, h1, h2⟩, q⟩ := h
    refine ⟨_, pss_one (ps_ret (pe_ifExp (pt_cmp (pc_lt (pe_fldU T.clScan T.na_at (pv 0)) (pe_lenU T.len_ (pa_cons (pe_fldU T.clScan T.na_words (pv 0)) pa_nil)))) (pe_ixU (pe_fldU T.clScan T.na_words (pv 0)) (pe_fldU T.clScan T.na_at (pv 0)) (fun _ _ => rfl)) pe_non)), ?_⟩
    refine ⟨_, rfl, s, dx, _, .int (k : Nat), rfl, h1, by rfl, _, rfl, s, dx, _, .ref p, rfl, h1, by rfl, p, _, rfl, .inr (.inl h2), _, _, rfl, rfl, _, rfl, ?_⟩
    rw [List.length_map]
    cases hk : ws[k]? with
    | some z =>
      have hlt := (List.getElem?_eq_some_iff.mp hk).1
      rw [hk] at q
      refine ifT (by simp; omega) ⟨_, rfl, s, dx, _, .ref p, rfl, h1, by rfl, _, rfl, s, dx, _, .int (k : Nat), rfl, h1, by rfl, p, _, _, .str z, rfl, rfl, .inr (.inl h2), atI_nat (by rw [List.getElem?_map, hk]; rfl), q⟩
    | none =>
      have hge := List.getElem?_eq_none_iff.mp hk
      rw [hk] at q
      exact ifF (by simp; omega) q
theorem scTake : FnScope ["self", "item"] ["self"] (defScope sTake) := ⟨rfl, rfl, rfl, by decide +kernel, rfl, by decide +kernel, by decide +kernel⟩
def spTake (C : Addr) : Sp := fun vs H Q _ => ∃ (s : Addr) (ws : List Str) (k : Nat) (z : Str), vs = [.ref s] ∧ ScanAt C H s ws k ∧ ws[k]? = some z ∧ ∀ H', SameX s H H' → ScanAt C H' s ws (k + 1) → Q (.str z) H'
theorem ok_take (T : Tx K mg) : FnOk P w K mg base CX0 2 T.take.f T.take.fd ["self"] (spTake T.CScan) := by
  refine okN T.take.F scTake (fun vs H Q E h => ?_) (fun cdv A outer s0 H vs Q E hr h => ?_)
  · obtain ⟨s, ws, k, z, rfl, _⟩ := h
    rfl
  · obtain ⟨s, ws, k, z, rfl, hs, hz, q⟩ := h
    have nd := scTake.nd
    refine ⟨_, pss_cons (ps_set (i := 1) nd rfl (.inl rfl) (pe_meth0 (pv 0) T.clScan T.m_ahead (ok_ahead T) hr T.ahead.b .nil pass0))
      (pss_cons (ps_if (pt_cmpR op_isN (pv 1) pe_non (nomark _)) pss_never pss_nil)
      (pss_cons (ps_fldU T.clScan T.na_at (pv 0) (pe_add (pe_fldU T.clScan T.na_at (pv 0)) pe_int)) (pss_one (ps_ret (pv 1))))), ?_⟩
    have hs' := hs
    obtain ⟨dx, p, h1, h2⟩ := hs
    refine ⟨_, rfl, s, dx, _, rfl, h1, by rfl, s, ws, k, rfl, hs', ?_⟩
    rw [hz]
    refine ⟨_, rfl, rfl, _, rfl, ifF rfl ?_⟩
    refine ⟨_, rfl, s, dx, _, .int (k : Nat), rfl, h1, by rfl, k, 1, rfl, rfl, _, rfl, s, dx, _, rfl, h1, (show 2 < 1000 by decide), fun H3 x3 hs3 => ⟨_, rfl, q H3 x3 ⟨dx, p, hs3, x3 _ _ (fun e => by rw [e, h1] at h2; cases h2) h2⟩⟩⟩
theorem scTakeNumber : FnScope ["self", "least", "most", "item", "number"] ["self", "least", "most"] (defScope sTakeNumber) := ⟨rfl, rfl, rfl, by decide +kernel, rfl, by decide +kernel, by decide +kernel⟩
def spTakeNumber (C : Addr) : Sp := fun vs H Q _ => ∃ (s : Addr) (ws : List Str) (k n : Nat) (lo hi : Int), vs = [.ref s, .int lo, .int hi] ∧ ScanAt C H s ws k ∧ ws[k]? = some (wd n) ∧ n < 60 ∧ lo ≤ n ∧ n ≤ hi ∧ ∀ H', SameX s H H' → ScanAt C H' s ws (k + 1) → Q (.int n) H'
theorem ok_takeNumber (T : Tx K mg) : FnOk P w K mg base CX0 3 T.takeNumber.f T.takeNumber.fd ["self", "least", "most"] (spTakeNumber T.CScan) := by
  refine okN T.takeNumber.F scTakeNumber (fun vs H Q E h => ?_) (fun cdv A outer s0 H vs Q E hr h => ?_)
  · obtain ⟨s, ws, k, n, lo, hi, rfl, _⟩ := h
    rfl
  · obtain ⟨s, ws, k, n, lo, hi, rfl, hs, hz, hn, hlo, hhi, q⟩ := h
    have nd := scTakeNumber.nd
    refine ⟨_, pss_cons (ps_set (i := 3) nd rfl (.inl rfl) (pe_meth0 (pv 0) T.clScan T.m_ahead ((ok_ahead T).mono (k := 2) (by decide)) hr T.ahead.b .nil pass0))
      (pss_cons (ps_set (i := 4) nd rfl (.inl rfl) (pe_ifExp (pt_cmpR op_isN (pv 3) pe_non (nomark _)) pe_non (pcall T.written ((ok_written T).mono (k := 2) (by decide)) hr (pa_cons (pv 3) pa_nil))))
      (pss_cons (ps_if (pt_not (pt_val (pcall T.isWithin (ok_isWithin T) hr (pa_cons (pv 4) (pa_cons (pv 1) (pa_cons (pv 2) pa_nil)))))) pss_never pss_nil)
      (pss_cons (ps_fldU T.clScan T.na_at (pv 0) (pe_add (pe_fldU T.clScan T.na_at (pv 0)) pe_int)) (pss_one (ps_ret (pv 4)))))), ?_⟩
    have hs' := hs
    obtain ⟨dx, p, h1, h2⟩ := hs
    refine ⟨_, rfl, s, dx, _, rfl, h1, by rfl, s, ws, k, rfl, hs', ?_⟩
    rw [hz]
    refine ⟨_, rfl, rfl, _, rfl, ifF rfl ⟨_, rfl, n, rfl, hn, fun H1 e1 => ?_⟩⟩
    refine ⟨_, rfl, _, rfl, _, rfl, n, lo, hi, rfl, true, by rw [decide_eq_true ⟨hlo, hhi⟩], iteF ?_⟩
    have h11 := e1 _ _ h1
    refine ⟨_, rfl, s, dx, _, .int (k : Nat), rfl, h11, by rfl, k, 1, rfl, rfl, _, rfl, s, dx, _, rfl, h11, (show 2 < 1000 by decide), fun H3 x3 hs3 => ⟨_, rfl, q H3 ((Same.x e1).trans x3) ⟨dx, p, hs3, x3 _ _ (fun e => by rw [e, h1] at h2; cases h2) (e1 _ _ h2)⟩⟩⟩
theorem scFinish : FnScope ["self"] ["self"] (defScope sFinish) := ⟨rfl, rfl, rfl, by decide +kernel, rfl, by decide +kernel, by decide +kernel⟩
def spFinish (C : Addr) : Sp := fun vs H Q _ => ∃ (s : Addr) (ws : List Str), vs = [.ref s] ∧ ScanAt C H s ws ws.length ∧ Q .non H
theorem ok_finish (T : Tx K mg) : FnOk P w K mg base CX0 1 T.finish.f T.finish.fd ["self"] (spFinish T.CScan) := by
  refine okN T.finish.F scFinish (fun vs H Q E h => ?_) (fun cdv A outer s0 H vs Q E hr h => ?_)
  · obtain ⟨s, ws, rfl, _⟩ := h
    rfl
  · obtain ⟨s, ws, rfl, ⟨dx, p, h1, h2⟩, q⟩ := h
    refine ⟨_, pss_one (ps_if (pt_cmp (pc_lt (pe_fldU T.clScan T.na_at (pv 0)) (pe_lenU T.len_ (pa_cons (pe_fldU T.clScan T.na_words (pv 0)) pa_nil)))) pss_never pss_nil), ?_⟩
    exact ⟨_, rfl, s, dx, _, .int (ws.length : Nat), rfl, h1, by rfl, _, rfl, s, dx, _, .ref p, rfl, h1, by rfl, p, _, rfl, .inr (.inl h2), _, _, rfl, rfl, _, rfl, ifF (by simp) q⟩
end
end MF
end
section
set_option Elab.async false
set_option linter.all false
set_option maxRecDepth 100000
set_option maxHeartbeats 4000000
namespace MF
open PySem PySem.Spec PyProof.Rows L2
/-- how a land must stand behind another in a text -/
structure Fit (x y z : Int) (l : Land) : Prop where
  ok : Ok3 l
  l12 : l.1 < l.2.1
  l13 : l.1 < l.2.2
  a1 : x ≤ l.1
  a2 : l.1 = x → y ≤ l.2.1
  a3 : l.1 = x → l.2.1 = y → z + 1 ≤ l.2.2
theorem take_snoc' {α : Type} {xs : List α} {i : Nat} {x : α} (h : xs[i - 1]? = some x) (hi : 0 < i) : xs.take i = xs.take (i - 1) ++ [x] := by
  have := take_snoc h
  rwa [show i - 1 + 1 = i by omega] at this
theorem paired_lastM {H : Hp} {ps : List Addr} {xs : List Land} {l : Land} (h : Paired (TuD H) ps ((xs ++ [l]).map l3)) : ∃ ps' p, ps = ps' ++ [p] ∧ Paired (TuD H) ps' (xs.map l3) ∧ TuD H p (l3 l) := by
  rw [List.map_append] at h
  exact paired_last h
theorem atI_lastR {l : List Addr} {a : Addr} : atI ((l ++ [a]).map V.ref) (-1) = some (.ref a) := by
  rw [List.map_append]
  exact atI_last
section
variable {P : Program} {w : World} {K : PySem.W.Frag} {mg : Str → Option Value} {base : Heap}
theorem scTakenLand : FnScope ["scan", "before", "first", "second", "is_alike", "third"] ["scan", "before"] (defScope sTakenLand) := ⟨rfl, rfl, rfl, by decide +kernel, rfl, by decide +kernel, by decide +kernel⟩
def spTakenLand (C : Addr) : Sp := fun vs H Q _ => ∃ (s p : Addr) (ws : List Str) (k : Nat) (x y z : Int) (l : Land), vs = [.ref s, .ref p] ∧ ScanAt C H s ws k ∧ Tu H p [x, y, z] ∧ Fit x y z l ∧ ws[k]? = some (wd l.1.toNat) ∧ ws[k + 1]? = some (wd l.2.1.toNat) ∧ ws[k + 2]? = some (wd l.2.2.toNat) ∧
  ∀ H' q, SameX s H H' → H q = none → ScanAt C H' s ws (k + 3) → TuD H' q (l3 l) → Q (.ref q) H'
theorem SameX.none {m : Addr} {H H' : Hp} (e : SameX m H H') {q : Addr} (h : H' q = none) (hm : q ≠ m) : H q = none := by
  cases z : H q with
  | none => rfl
  | some x => rw [e q x hm z] at h; cases h
theorem ok_takenLand (T : Tx K mg) : FnOk P w K mg base CX0 4 T.takenLand.f T.takenLand.fd ["scan", "before"] (spTakenLand T.CScan) := by
  refine okN T.takenLand.F scTakenLand (fun vs H Q E h => ?_) (fun cdv A outer s0 H vs Q E hr h => ?_)
  · obtain ⟨s, p, ws, k, x, y, z, l, rfl, _⟩ := h
    rfl
  · obtain ⟨s, p, ws, k, x, y, z, ⟨a, b, c⟩, rfl, hs, hp, f, w1, w2, w3, q⟩ := h
    have nd := scTakenLand.nd
    have hu := hu_of hr
    obtain ⟨tk, hMD⟩ := T.MOST_DOT
    obtain ⟨⟨⟨d1, d2, d3⟩, ⟨a0, a9⟩, ⟨b0, b9⟩, c0, c9⟩, l12, l13, f1, f2, f3⟩ := f
    simp only at d1 d2 d3 a0 a9 b0 b9 c0 c9 l12 l13 f1 f2 f3 w1 w2 w3
    refine ⟨_, pss_cons (ps_set (i := 2) nd rfl (.inl rfl) (pe_meth (pv 0) T.clScan T.m_takeNumber (ok_takeNumber T) hr T.takeNumber.b .nil pass0 (pa_cons (pe_ixU (pv 1) pe_int (fun _ _ => rfl)) (pa_cons (pe_glob (v := .int 59) (by rfl) hMD ⟨_, rfl⟩) pa_nil))))
      (pss_cons (ps_set (i := 3) nd rfl (.inl rfl) (pe_meth (pv 0) T.clScan T.m_takeNumber (ok_takeNumber T) hr T.takeNumber.b .nil pass0 (pa_cons (pe_callB (call_max2 rfl) (by rfl) T.max_ (by decide +kernel) (pa_cons (pe_add (pv 2) pe_int) (pa_cons (PE_up (pe_ifExp (pt_cmp (pc_eqI (pv 2) (pe_ixU (pv 1) pe_int (fun _ _ => rfl)))) (pe_ixU (pv 1) pe_int (fun _ _ => rfl)) pe_int)) pa_nil))) (pa_cons (pe_glob (v := .int 59) (by rfl) hMD ⟨_, rfl⟩) pa_nil))))
      (pss_cons (ps_set (i := 4) nd rfl (.inl rfl) (pe_cmpR (op_eqTu hu) (pe_tupA (pa_cons (pv 2) (pa_cons (pv 3) pa_nil))) (pe_slice sl_tupB (pv 1) po_none (po_some pe_int)) rfl))
      (pss_cons (ps_set (i := 5) nd rfl (.inl rfl) (pe_meth (pv 0) T.clScan T.m_takeNumber (ok_takeNumber T) hr T.takeNumber.b .nil pass0 (pa_cons (pe_callB (call_max2 rfl) (by rfl) T.max_ (by decide +kernel) (pa_cons (pe_add (pv 2) pe_int) (pa_cons (PE_up (pe_ifExp (pt_val (pv 4)) (pe_add (pe_ixU (pv 1) pe_int (fun _ _ => rfl)) pe_int) pe_int)) pa_nil))) (pa_cons (pe_glob (v := .int 59) (by rfl) hMD ⟨_, rfl⟩) pa_nil))))
      (pss_cons (ps_if (pt_cmp (pc_eqI (pv 5) (pv 3))) pss_never pss_nil)
      (pss_one (ps_ret (pe_tupD (pa_cons (pv 2) (pa_cons (pv 3) (pa_cons (pv 5) pa_nil)))))))))), ?_⟩
    have hs0 := hs
    obtain ⟨dx0, p0, hsa, hsb⟩ := hs
    refine ⟨_, rfl, s, dx0, _, rfl, hsa, by rfl, _, rfl, p, _, 0, .int x, rfl, rfl, .inl hp, rfl, ?_⟩
    refine ⟨s, ws, k, a.toNat, x, 59, rfl, hs0, w1, by omega, by omega, by omega, fun H1 x1 hs1 => ?_⟩
    rw [show ((a.toNat : Nat) : Int) = a by omega]
    have hp1 : Tu H1 p [x, y, z] := x1.tu hsa hp
    have hs1' := hs1
    obtain ⟨dx1, p1, hsa1, hsb1⟩ := hs1
    refine ⟨_, rfl, s, dx1, _, rfl, hsa1, by rfl, _, rfl, a, 1, rfl, rfl, ?_⟩
    refine ⟨fun v H' => H' = H1 ∧ ∃ j : Int, v = .int j ∧ j ≤ b, ?_, ?_⟩
    · refine ⟨_, rfl, _, rfl, p, _, 0, .int x, rfl, rfl, .inl hp1, rfl, a, x, rfl, rfl, _, rfl, ?_⟩
      refine ifB rfl (fun e => ?_) (fun _ => ⟨rfl, 0, rfl, by omega⟩)
      exact ⟨_, rfl, p, _, 1, .int y, rfl, rfl, .inl hp1, rfl, rfl, y, rfl, f2 (of_decide_eq_true e)⟩
    rintro _ _ ⟨rfl, j, rfl, hj⟩
    refine ⟨a + 1, j, rfl, ?_⟩
    refine ⟨s, ws, k + 1, b.toNat, _, 59, rfl, hs1', w2, by omega, by split <;> omega, by omega, fun H2 x2 hs2 => ?_⟩
    rw [show ((b.toNat : Nat) : Int) = b by omega]
    have hp2 : Tu H2 p [x, y, z] := x2.tu hsa1 hp1
    have hs2' := hs2
    obtain ⟨dx2, p2, hsa2, hsb2⟩ := hs2
    refine ⟨_, rfl, _, rfl, s2, fun t H3 n3 e3 ht3 => ?_⟩
    refine ⟨_, rfl, 2, rfl, p, _, rfl, hp2.mono e3, fun t2 H4 e4 ht4 => ?_⟩
    refine ⟨t, t2, [a, b], [x, y], rfl, rfl, .inl (e4 _ _ ht3), ht4, ?_⟩
    have e34 := e3.trans e4
    have hsa4 := e34 _ _ hsa2
    have hp4 := hp2.mono e34
    refine ⟨_, rfl, s, dx2, _, rfl, hsa4, by rfl, _, rfl, a, 1, rfl, rfl, ?_⟩
    refine ⟨fun v H' => H' = H4 ∧ ∃ j : Int, v = .int j ∧ j ≤ c, ?_, ?_⟩
    · refine ⟨_, rfl, _, rfl, ?_⟩
      refine ifB rfl (fun e => ?_) (fun _ => ⟨rfl, 0, rfl, by omega⟩)
      have e' := of_decide_eq_true e
      simp only [List.cons.injEq, and_true] at e'
      exact ⟨_, rfl, p, _, 2, .int z, rfl, rfl, .inl hp4, rfl, z, 1, rfl, rfl, rfl, z + 1, rfl, f3 e'.1 e'.2⟩
    rintro _ _ ⟨rfl, j2, rfl, hj2⟩
    refine ⟨a + 1, j2, rfl, ?_⟩
    refine ⟨s, ws, k + 2, c.toNat, _, 59, rfl, hs2'.mono e34, w3, by omega, by split <;> omega, by omega, fun H5 x5 hs5 => ?_⟩
    rw [show ((c.toNat : Nat) : Int) = c by omega]
    refine ⟨_, rfl, _, rfl, c, b, rfl, rfl, _, rfl, ifF (by simp; omega) ?_⟩
    refine ⟨_, rfl, _, rfl, _, rfl, s3, fun q6 o6 H6 n6 e6 ho hc h6 => ?_⟩
    have hs5' := hs5
    obtain ⟨dx5, p5, hsa5, hsb5⟩ := hs5
    have xx : SameX s H H5 := ((x1.trans x2).trans (Same.x e34)).trans x5
    refine q H6 q6 (xx.trans (Same.x e6)) (SameX.none xx n6 (fun e => by rw [e, hsa5] at n6; cases n6)) (hs5'.mono e6) ⟨o6, h6, ho, hc⟩
/-! taken_lands -/
def zero3 : Land := (0, 0, 0)
/-- every land fits behind the one before it -/
def Asc (ls : List Land) : Prop := ∀ i l, ls[i]? = some l → Fit 0 0 0 l ∧ ∀ l', ls[i + 1]? = some l' → Fit l.1 l.2.1 l.2.2 l'
theorem scTakenLands : FnScope ["scan", "found"] ["scan"] (defScope sTakenLands) := ⟨rfl, rfl, rfl, by decide +kernel, rfl, by decide +kernel, by decide +kernel⟩
def spTakenLands (C : Addr) : Sp := fun vs H Q _ => ∃ (s : Addr) (ls : List Land), vs = [.ref s] ∧ ScanAt C H s (wsOf ls) 0 ∧ ls ≠ [] ∧ ls.length ≤ 119 ∧ Asc ls ∧ ∀ H' q, SameX s H H' → H q = none → ScanAt C H' s (wsOf ls) (wsOf ls).length → LsD H' q ls → Q (.ref q) H'
theorem ok_takenLands (T : Tx K mg) : FnOk P w K mg base CX0 5 T.takenLands.f T.takenLands.fd ["scan"] (spTakenLands T.CScan) := by
  refine okN T.takenLands.F scTakenLands (fun vs H Q E h => ?_) (fun cdv A outer s0 H vs Q E hr h => ?_)
  · obtain ⟨s, ls, rfl, _⟩ := h
    rfl
  · obtain ⟨s, ls, rfl, hs, hne, h119, asc, q⟩ := h
    have nd := scTakenLands.nd
    obtain ⟨tk, hML⟩ := T.MOST_LANDS
    obtain ⟨tk2, hBar⟩ := T.BAR
    have hwlen := wsOf_length hne
    refine ⟨_, pss_cons (ps_set (i := 1) nd rfl (.inl rfl) (pe_lstA (pa_cons (pcall T.takenLand (ok_takenLand T) hr (pa_cons (pv 0) (pa_cons (pe_tupA (pa_cons pe_int (pa_cons pe_int (pa_cons pe_int pa_nil)))) pa_nil))) pa_nil)))
      (pss_cons (ps_while PassesOwn.never (PW.pt (pw_and (pt_cmpR op_eq (pe_meth0 (pv 0) T.clScan T.m_ahead ((ok_ahead T).mono (k := 4) (by decide)) hr T.ahead.b .nil pass0) (pe_glob (v := .str "/") (by rfl) hBar ⟨_, rfl⟩) (nomark _)) (pw_and1 (pt_cmp (pc_lt (pe_lenU T.len_ (pa_cons (pv 1) pa_nil)) (pe_glob (v := .int 120) (by rfl) hML ⟨_, rfl⟩))))))
        (pss_cons (ps_expr (pe_meth0 (pv 0) T.clScan T.m_take ((ok_take T).mono (k := 4) (by decide)) hr T.take.b .nil pass0))
        (pss_one (ps_expr (pe_bm PySem.F.plainAttrs_list PySem.F.slot_list_append PySem.F.type_list_append mt_append (pv 1) (pa_cons (pcall T.takenLand (ok_takenLand T) hr (pa_cons (pv 0) (pa_cons (pe_ixU (pv 1) (pe_un un_neg pe_int) (fun _ _ => rfl)) pa_nil))) pa_nil))))))
      (pss_one (ps_ret (pv 1)))), ?_⟩
    obtain ⟨l0, rs, rfl⟩ : ∃ l0 rs, ls = l0 :: rs := by
      cases ls with
      | nil => exact absurd rfl hne
      | cons a b => exact ⟨a, b, rfl⟩
    obtain ⟨w1, w2, w3, w4⟩ := wsOf_at (ls := l0 :: rs) (i := 0) (l := l0) rfl
    refine ⟨_, rfl, s3, fun t H1 n1 e1 ht => ?_⟩
    refine ⟨s, t, _, 0, 0, 0, 0, l0, rfl, hs.mono e1, .inl ht, (asc 0 l0 rfl).1, w1, w2, w3, fun H2 q2 x2 nq2 hs2 hq2 => ⟨s1, fun fl H3 n3 e3 h3 => ?_⟩⟩
    have hs2' := hs2
    obtain ⟨dx2, p2, hsa2, hsb2⟩ := hs2
    have xx2 : SameX s H H2 := (Same.x e1).trans x2
    have hfs : fl ≠ s := fun e => by rw [e, hsa2] at n3; cases n3
    have nfl : H fl = none := SameX.none xx2 n3 hfs
    refine while_m (fun m σ H' => ∃ i ps, 0 < i ∧ i ≤ (l0 :: rs).length ∧ σ = [some (.ref s), some (.ref fl)] ∧ SameX s H H' ∧ ScanAt T.CScan H' s (wsOf (l0 :: rs)) (4 * i - 1) ∧ H' fl = some (.lst (ps.map V.ref)) ∧ Paired (TuD H') ps (((l0 :: rs).take i).map l3) ∧ m = (l0 :: rs).length - i) (l0 :: rs).length.pred ⟨1, [q2], by decide, by simp, rfl, xx2.trans (Same.x e3), hs2'.mono e3, h3, .cons (hq2.mono e3) .nil, by simp⟩ ?_
    rintro m σ H' ⟨i, ps, hi, hil, rfl, x, hsc, hf, hp, rfl⟩
    have hsc' := hsc
    obtain ⟨dx, p, hsa, hsb⟩ := hsc
    have hpl : (ps.map V.ref).length = i := by
      have := Paired_len hp
      rw [List.length_map, List.length_take] at this
      rw [List.length_map, this]
      omega
    refine ⟨_, rfl, s, dx, _, rfl, hsa, by rfl, s, _, 4 * i - 1, rfl, hsc', ?_⟩
    obtain ⟨la, hla⟩ : ∃ la, (l0 :: rs)[i - 1]? = some la := ⟨_, List.getElem?_eq_getElem (by omega)⟩
    obtain ⟨_, _, _, v4⟩ := wsOf_at hla
    by_cases hlast : i < (l0 :: rs).length
    · have v4' := v4 (by omega)
      rw [show 4 * (i - 1) + 3 = 4 * i - 1 by omega] at v4'
      obtain ⟨lb, hlb⟩ : ∃ lb, (l0 :: rs)[i]? = some lb := ⟨_, List.getElem?_eq_getElem hlast⟩
      obtain ⟨u1, u2, u3, _⟩ := wsOf_at hlb
      rw [v4']
      refine ⟨rfl, _, rfl, ifT (by rfl) ?_⟩
      refine ⟨_, rfl, fl, _, rfl, .inr (.inl hf), _, 120, rfl, rfl, _, rfl, ifT ?_ ?_⟩
      · rw [hpl]
        simp
        omega
      refine ⟨fun σ' H' => ∃ m' < (l0 :: rs).length - i, ∃ i ps, 0 < i ∧ i ≤ (l0 :: rs).length ∧ σ' = [some (.ref s), some (.ref fl)] ∧ SameX s H H' ∧ ScanAt T.CScan H' s (wsOf (l0 :: rs)) (4 * i - 1) ∧ H' fl = some (.lst (ps.map V.ref)) ∧ Paired (TuD H') ps (((l0 :: rs).take i).map l3) ∧ m' = (l0 :: rs).length - i, fun σ' H' ⟨m', h1, h2⟩ => ⟨m', h1, h2⟩, ?_⟩
      refine ⟨_, rfl, s, dx, _, rfl, hsa, by rfl, s, _, 4 * i - 1, bar, rfl, hsc', v4', fun H5 x5 hs5 => ?_⟩
      rw [show 4 * i - 1 + 1 = 4 * i by omega] at hs5
      have hf5 := x5 _ _ hfs hf
      have hp5 := Paired_mono (fun _ _ z => SameX.tuD x5 hsa z) hp
      rw [take_snoc' hla hi] at hp5
      obtain ⟨ps', pa, rfl, hp5a, hpa⟩ := paired_lastM hp5
      refine ⟨_, rfl, .inl ⟨rfl, _, .inl (.inl hf5)⟩, ?_⟩
      refine ⟨_, rfl, _, rfl, 1, rfl, fl, _, _, .ref pa, rfl, rfl, .inr (.inl hf5), atI_lastR, ?_⟩
      refine ⟨s, pa, _, 4 * i, la.1, la.2.1, la.2.2, lb, rfl, hs5, hpa.tu, (asc _ _ hla).2 lb (by rw [show i - 1 + 1 = i by omega]; exact hlb), u1, u2, u3, fun H6 q6 x6 nq6 hs6 hq6 => ?_⟩
      have hsa5 : ∃ dx fs, H5 s = some (.ins T.CScan dx fs) := let ⟨d, _, h, _⟩ := hs5; ⟨d, _, h⟩
      obtain ⟨dx5, fs5, hsa5⟩ := hsa5
      have hf6 := x6 _ _ hfs hf5
      refine ⟨fl, _, .ref q6, rfl, rfl, hf6, ?_, ?_⟩
      · have hi9 : i < 100000 := by omega
        rw [hpl]
        exact sz_lt hi9
      have hs6a : ∃ dx fs, H6 s = some (.ins T.CScan dx fs) := let ⟨d, _, h, _⟩ := hs6; ⟨d, _, h⟩
      obtain ⟨dx6, fs6, hsa6⟩ := hs6a
      have xput : SameX s H (upd H6 fl (.lst ((ps' ++ [pa]).map V.ref ++ [.ref q6]))) := fun b y nb hb => by
        rw [upd_ne (fun e => by rw [e, nfl] at hb; cases hb)]
        exact x6 b y nb (x5 b y nb (x b y nb hb))
      have Xp : Ext H6 (upd H6 fl (.lst ((ps' ++ [pa]).map V.ref ++ [.ref q6]))) := Ext.put hf6
      refine ⟨(l0 :: rs).length - (i + 1), by omega, i + 1, ps' ++ [pa] ++ [q6], by omega, by omega, rfl, xput, ?_, ?_, ?_, rfl⟩
      · rw [show 4 * (i + 1) - 1 = 4 * i + 3 by omega]
        obtain ⟨d6, p6, k1, k2⟩ := hs6
        exact ⟨d6, p6, (upd_ne (Ne.symm hfs)).trans k1, (upd_ne (fun e => by
          subst e
          obtain ⟨d5, p5, j1, j2⟩ := hs5
          rw [hf6] at k2
          injection k2 with k2
          injection k2 with k2
          have := congrArg List.length k2
          rw [List.length_map, List.length_map] at this
          have hz : (ps' ++ [pa]).map V.ref = (wsOf (l0 :: rs)).map V.str := k2
          have h0 : ((ps' ++ [pa]).map V.ref)[0]? = ((wsOf (l0 :: rs)).map V.str)[0]? := by rw [hz]
          rw [List.getElem?_map, List.getElem?_map, w1] at h0
          cases h1 : (ps' ++ [pa])[0]? with
          | none => rw [h1] at h0; cases h0
          | some a => rw [h1] at h0; cases h0)).trans k2⟩
      · rw [upd_same, List.map_append (l₁ := ps' ++ [pa])]
        rfl
      · rw [take_snoc hlb, List.map_append (f := l3)]
        refine Paired_app ?_ (.cons (hq6.ext Xp) .nil)
        rw [take_snoc' hla hi]
        rw [List.map_append (f := l3)]
        exact Paired_app (Paired_mono (fun _ _ z => (SameX.tuD x6 hsa5 z).ext Xp) hp5a) (.cons ((SameX.tuD x6 hsa5 hpa).ext Xp) .nil)
    · have hie : i = (l0 :: rs).length := by omega
      subst hie
      have hnone : (wsOf (l0 :: rs))[4 * (l0 :: rs).length - 1]? = none := List.getElem?_eq_none_iff.mpr (by omega)
      rw [hnone]
      refine ⟨rfl, _, rfl, ifF (by rfl) ⟨_, rfl, ?_⟩⟩
      rw [List.take_length] at hp
      exact q H' fl x nfl (by rw [show (wsOf (l0 :: rs)).length = 4 * (l0 :: rs).length - 1 by omega]; exact hsc') ⟨ps, hf, hp⟩
end
end MF
end
section
set_option Elab.async false
set_option linter.all false
set_option maxRecDepth 100000
set_option maxHeartbeats 4000000
namespace MF
open PySem PySem.Spec PyProof.Rows L2
section
variable {X : Cx}
/-- sep.join(list) -/
theorem pe_joinU {o e : Expr} {to te : TE} {apos pos : Pos} (ho : PE X o to) (he : PE X e te) (hs : starEach [e] X.env = [(false, eval e X.env)] := by rfl) (hbase : attributeBase o "join" X.env (eval o X.env) = eval o X.env := by rfl) (hline : (apos.endLine == pos.line) = true := by rfl) :
    PE X (.Call (.Attribute o "join" apos) [e] [] pos) (fun σ H Q => to σ H fun x H1 => (∃ a, x = .str a) ∧ te σ H1 fun y H2 => ∃ (a : Str) (p : Addr) (ys : List Str), x = .str a ∧ y = .ref p ∧ Rd H2 p (.lst (ys.map V.str)) ∧ (ys.map (·.length)).sum + ys.length * a.length ≤ 16777216 ∧ Q (.str (Txt.join a ys)) H2) :=
  PE_imp (pe_join (PE_up ho) (PE_up he) hs hbase hline) fun σ H Q q => ⟨_, q, fun x H1 ⟨k, q2⟩ => ⟨k, _, q2, fun y H2 ⟨a, p, ys, e1, e2, h, b, q3⟩ => ⟨a, p, ys, e1, by rw [e2], .inl (.inl h), b, q3⟩⟩⟩
end
def lcScope (st : Stmt) : Scope := match defBody st with
  | [.Return (some (.Call _ [.ListComp _ _ sc _] _ _)) _] => sc
  | _ => defScope st
section
variable {P : Program} {w : World} {K : PySem.W.Frag} {mg : Str → Option Value} {base : Heap}
theorem join_wl {l : Land} (h : Ok3 l) : (Txt.join spc (wl l)).length ≤ 9 := by
  rw [TL.join_eq]
  refine Nat.le_trans (StrLaws.join_length_le spc (wl l)) ?_
  obtain ⟨_, ⟨a0, a9⟩, ⟨b0, b9⟩, c0, c9⟩ := h
  have h1 := wd_len l.1.toNat (by omega)
  have h2 := wd_len l.2.1.toNat (by omega)
  have h3 := wd_len l.2.2.toNat (by omega)
  have hs : spc.length = 1 := by decide +kernel
  simp only [wl, List.map_cons, List.map_nil, List.sum_cons, List.sum_nil, List.length_cons, List.length_nil, hs]
  omega
theorem text_sum : ∀ {ls : List Land}, (∀ l ∈ ls, Ok3 l) → ((ls.map fun l => Txt.join spc (wl l)).map (·.length)).sum ≤ 9 * ls.length
  | [], _ => Nat.le_refl _
  | l :: ls, h => by
    have h1 := join_wl (h l List.mem_cons_self)
    have h2 := text_sum (ls := ls) fun x hx => h x (List.mem_cons_of_mem _ hx)
    simp only [List.map_cons, List.sum_cons, List.length_cons] at h2 ⊢
    omega
theorem text_len {ls : List Land} (h : ∀ l ∈ ls, Ok3 l) : (textOf ls).length ≤ 12 * ls.length := by
  unfold textOf
  rw [TL.join_eq]
  refine Nat.le_trans (StrLaws.join_length_le dv3 _) ?_
  have h1 := text_sum h
  have hs : dv3.length = 3 := by decide +kernel
  rw [hs, List.length_map]
  omega
/-! Map.__str__ -/
theorem scMapStr : FnScope ["self", "land", "dot"] ["self"] (defScope sMapStr) := ⟨rfl, rfl, rfl, by decide +kernel, rfl, by decide +kernel, by decide +kernel⟩
def spMapStr (C : Addr) : Sp := fun vs H Q _ => ∃ (m : Addr) (ls : List Land) (n : Nat) (r : List Int), vs = [.ref m] ∧ MapAt C H m ls n r ∧ ∀ H', Same H H' → Q (.str (textOf ls)) H'
theorem ok_mapStr (T : Tx K mg) : FnOk P w K mg base CX0 1 T.mapStr.f T.mapStr.fd ["self"] (spMapStr T.CMap) := by
  refine okN T.mapStr.F scMapStr (fun vs H Q E h => ?_) (fun cdv A outer s H vs Q E hr h => ?_)
  · obtain ⟨m, ls, n, r, rfl, _⟩ := h
    rfl
  · obtain ⟨m, ls, n, r, rfl, hm, q⟩ := h
    have nd := scMapStr.nd
    obtain ⟨W, dx, pl, pw, pf, pi, pr, k⟩ := hm.parts
    refine ⟨_, pss_one (ps_ret (pe_joinU pe_str (pe_lcA (own := [("land", 1)]) (g := gName 1) (tt := tYes) rfl nd (pi_tup (pe_fldU T.clMap T.na_lands (pv 0))) (blkOk_by (N := ["self", "land", "dot"]) (sc := defScope sMapStr) (by decide +kernel)) (fun _ _ _ _ _ => pg_name (i := 1) nd rfl (.inl rfl))
      (fun _ _ _ _ _ => pts_nil)
      (fun _ _ _ _ _ => pe_joinU pe_str (pe_lcA (wi := iTup K (tVar 1)) (own := [("dot", 2)]) (g := gName 2) (tt := tYes) rfl nd (pi_tup (pv 1)) (blkOk_by (N := ["self", "land", "dot"]) (sc := lcScope sMapStr) (by decide +kernel)) (fun _ _ _ _ _ => pg_name (i := 2) nd rfl (.inl rfl))
        (fun _ _ _ _ _ => pts_nil) (fun _ _ _ _ _ => pe_callTy (T := "str") call_str_int (by rfl) T.str_ (by decide +kernel) (pa_cons (pv 2) pa_nil))))))), ?_⟩
    obtain ⟨ps, hl, ht⟩ := k.lands
    have hok := hm.good.ok3
    have hsm := hm.good.small
    have hlen := tuD_len ht
    have hwalk : Walk (Itt K pl) ls.length (fun H' => SqT K H' pl (ps.map V.ref)) (YAt (ps.map V.ref)) := by
      have := walk_tup (K := K) (a := pl) (xs := ps.map V.ref)
      rw [hlen] at this
      exact this
    refine ⟨⟨_, rfl⟩, _, rfl, m, dx, _, .ref pl, rfl, k.at_, by rfl, pl, rfl, ⟨_, .inl hl⟩, ?_⟩
    refine ⟨Land, ls, fun _ => true, fun l y _ => y = .str (Txt.join spc (wl l)), _, _, hwalk, sz_lt (by omega), fun H' e' => .inl (Rd.mono e' hl), fun _ _ _ _ _ h => h, ?_, ?_⟩
    · rintro i l x H2 H3 hd e2 ⟨rfl, hx⟩
      obtain ⟨p, l', rfl, hli, tr⟩ := tuD_at ht hx
      rw [hd] at hli
      cases hli
      have tr' := (tr.mono e2).tu
      have hokl := hok l (List.mem_of_getElem? hd)
      refine ⟨rfl, rfl, ⟨_, rfl⟩, _, rfl, p, rfl, ⟨_, .inl tr'⟩, ?_⟩
      refine ⟨Int, l3 l, fun _ => true, fun d y _ => y = .str (wd d.toNat), fun H' => SqT K H' p ((l3 l).map V.int), YAt ((l3 l).map V.int), ?_, (show 3 < sizeLine by decide), fun H' e' => .inl (Rd.mono e' tr'), fun _ _ _ _ _ h => h, ?_, ?_⟩
      · have := walk_tup (K := K) (a := p) (xs := (l3 l).map V.int)
        rw [List.length_map] at this
        exact this
      · rintro j d x H4 H5 hd2 e4 ⟨rfl, hx2⟩
        rw [List.getElem?_map, hd2] at hx2
        cases hx2
        have hin : 0 ≤ d ∧ d ≤ 59 := by
          have hmem := List.mem_of_getElem? hd2
          simp only [l3, List.mem_cons, List.not_mem_nil, or_false] at hmem
          obtain ⟨_, h1, h2, h3⟩ := hokl
          rcases hmem with rfl | rfl | rfl
          · exact h1
          · exact h2
          · exact h3
        refine ⟨rfl, rfl, _, rfl, d, rfl, ?_, Same.refl _, ?_⟩
        · have hle : d.natAbs.log2 ≤ d.natAbs := Nat.log2_le_self _
          omega
        · show V.str (Str.ofString (toString d)) = V.str (Str.ofString (toString ((d.toNat : Nat) : Int)))
          rw [show ((d.toNat : Nat) : Int) = d by omega]
      · intro D ys H7 nD e7 hD hpr
        rw [List.filter_eq_self.mpr (fun _ _ => rfl)] at hpr
        have hys : ys = (wl l).map V.str := by
          rw [Paired_eq (f := fun d : Int => V.str (wd d.toNat)) hpr]
          rfl
        rw [hys] at hD
        refine ⟨spc, D, wl l, rfl, rfl, .inl hD, ?_, e7, rfl⟩
        obtain ⟨_, ⟨a0, a9⟩, ⟨b0, b9⟩, c0, c9⟩ := hokl
        have h1 := wd_len l.1.toNat (by omega)
        have h2 := wd_len l.2.1.toNat (by omega)
        have h3 := wd_len l.2.2.toNat (by omega)
        have hs : spc.length = 1 := by decide +kernel
        simp only [wl, List.map_cons, List.map_nil, List.sum_cons, List.sum_nil, List.length_cons, List.length_nil, hs]
        omega
    · intro D ys H7 nD e7 hD hpr
      rw [List.filter_eq_self.mpr (fun _ _ => rfl)] at hpr
      have hys : ys = (ls.map fun l => Txt.join spc (wl l)).map V.str := by
        rw [Paired_eq (f := fun l => V.str (Txt.join spc (wl l))) hpr, List.map_map]
        rfl
      rw [hys] at hD
      refine ⟨dv3, D, _, rfl, rfl, .inl hD, ?_, q H7 e7⟩
      have h1 := text_sum hok
      have hs : dv3.length = 3 := by decide +kernel
      rw [hs, List.length_map]
      omega
/-! Map.read -/
theorem scMapRead : FnScope ["text", "scan", "lands"] ["text"] (defScope sMapRead) := ⟨rfl, rfl, rfl, by decide +kernel, rfl, by decide +kernel, by decide +kernel⟩
def spMapRead (C : Addr) : Sp := fun vs H Q _ => ∃ (ls : List Land) (n : Nat) (r : List Int), vs = [.str (textOf ls)] ∧ Good ls n r ∧ Asc ls ∧ ∀ H' m, Same H H' → H m = none → MapAt C H' m (canon ls) n r → Q (.ref m) H'
theorem ok_mapRead (T : Tx K mg) : FnOk P w K mg base CX0 7 T.mapRead.f T.mapRead.fd ["text"] (spMapRead T.CMap) := by
  refine okN T.mapRead.F scMapRead (fun vs H Q E h => ?_) (fun cdv A outer s0 H vs Q E hr h => ?_)
  · obtain ⟨ls, n, r, rfl, _⟩ := h
    rfl
  · obtain ⟨ls, n, r, rfl, g, asc, q⟩ := h
    have nd := scMapRead.nd
    refine ⟨_, pss_cons (ps_set (i := 1) nd rfl (.inl rfl) (pe_make T.mkScan ((ok_scanInit T).mono (k := 5) (by decide)) hr (by rfl) T.gScan T.scanInit.b .nil pass0 (pa_cons (pv 0) pa_nil)))
      (pss_cons (ps_set (i := 2) nd rfl (.inl rfl) (pcall T.takenLands ((ok_takenLands T).mono (k := 6) (by decide)) hr (pa_cons (pv 1) pa_nil)))
      (pss_cons (ps_expr (pe_meth0 (pv 1) T.clScan T.m_finish ((ok_finish T).mono (k := 6) (by decide)) hr T.finish.b .nil pass0))
      (pss_cons (ps_if (pt_not (pt_val (pcall T.isMap ((ok_isMap T).mono (k := 6) (by decide)) hr (pa_cons (pv 2) pa_nil)))) pss_never pss_nil)
      (pss_one (ps_ret (pmake T hr (pa_cons (pv 2) pa_nil))))))), ?_⟩
    have hne : ls ≠ [] := fun e => by have := g.len1; rw [e] at this; simp at this
    have hsm := g.small
    have htl := text_len g.ok3
    refine ⟨_, rfl, fun x dx nx ndx hne' => ?_⟩
    have nx' : upd H dx (.own x) x = none := by rw [upd_ne (Ne.symm hne')]; exact nx
    have e2 : Same H (upd (upd H dx (.own x)) x (.ins T.CScan dx [])) := Same.add (Same.new ndx) nx'
    refine ⟨x, dx, _, rfl, upd_same, Nat.le_trans (Nat.add_le_add_right htl 2) (sz_of (by omega)), fun H1 x1 hs1 => ⟨rfl, ?_⟩⟩
    rw [split_text hne] at hs1
    have e01 : Same H H1 := SameX.same (SameX.trans (Same.x e2) x1) nx
    have hs1' := hs1
    obtain ⟨dx1, p1, hsa1, _⟩ := hs1
    refine ⟨_, rfl, x, ls, rfl, hs1', hne, by omega, asc, fun H2 l x2 nl hs2 hl => ?_⟩
    have hs2' := hs2
    obtain ⟨dx2, p2, hsa2, _⟩ := hs2
    have e02 : Same H H2 := SameX.same (SameX.trans (Same.x e01) x2) nx
    refine ⟨_, rfl, x, dx2, _, rfl, hsa2, by rfl, x, _, rfl, hs2', ?_⟩
    refine ⟨_, rfl, l, ls, n, r, rfl, hl.lsT, g, fun H3 e3 => ⟨true, rfl, iteF ?_⟩⟩
    exact ⟨_, rfl, l, ls, n, r, rfl, hl.mono e3, g, fun m H4 e4 nm hm => q H4 m ((e02.trans e3).trans e4) (Same.none (e02.trans e3) nm) hm⟩
end
end MF
end
section
set_option Elab.async false
set_option linter.all false
set_option maxRecDepth 100000
set_option maxHeartbeats 4000000
namespace MF
open PySem PySem.Spec PyProof.Rows L2
theorem pi_or {X : Cx} {tg e : Expr} {t1 t2 : L2.TI} (h1 : PI X tg e t1) (h2 : PI X tg e t2) : PI X tg e (fun σ H R => t1 σ H R ∨ t2 σ H R) := ⟨fun pins s σ H R I q => q.elim (h1.run pins s σ H R I) (h2.run pins s σ H R I)⟩
/-- a statement, with a weaker wish for what stands behind it -/
def upS (t : L2.TS) : L2.TS := fun D σ H => ∃ N : L2.St → Hp → Prop, t { D with nx := N } σ H ∧ ∀ σ' H', N σ' H' → D.nx σ' H'
theorem PS_up {X : Cx} {st : Stmt} {t : L2.TS} (h : L2.PS X st t) : L2.PS X st (upS t) := ⟨fun pins s σ H D I ⟨N, q, k⟩ => thn (h.run pins s σ H _ I q) fun f s' z => by
  cases f with
  | next => obtain ⟨σ', H', I', z⟩ := z; exact ⟨σ', H', I', k _ _ z⟩
  | brk => exact z
  | cont => exact z
  | ret v => exact z⟩
/-- the garden: the script's first numbers, the turn, what is left of a large number -/
def Gard (H : Hp) (g c : Addr) (B : Nat) : Prop := ∃ (ns : List Int) (t left : Int), H g = some (.lst [.ref c, .int t, .int left]) ∧ H c = some (.lst (ns.map V.int)) ∧ ns.length ≤ 60 ∧ 0 ≤ left ∧ 0 ≤ t ∧ t ≤ B
theorem Gard.mono {H H' : Hp} (e : Same H H') {g c : Addr} {B : Nat} (h : Gard H g c B) : Gard H' g c B := let ⟨ns, t, l, h1, h2, h3⟩ := h; ⟨ns, t, l, e _ _ h1, e _ _ h2, h3⟩
theorem Gard.le {H : Hp} {g c : Addr} {B B' : Nat} (e : B ≤ B') (h : Gard H g c B) : Gard H g c B' := let ⟨ns, t, l, h1, h2, h3, h4, h5, h6⟩ := h; ⟨ns, t, l, h1, h2, h3, h4, h5, by omega⟩
section
variable {P : Program} {w : World} {K : PySem.W.Frag} {mg : Str → Option Value} {base : Heap}
theorem scGarden : FnScope ["_law_script", "_law_cell"] ["_law_script"] (defScope sGarden) := ⟨rfl, rfl, rfl, by decide +kernel, rfl, by decide +kernel, by decide +kernel⟩
def spGarden (K : PySem.W.Frag) : Sp := fun vs H Q _ => ∃ (a : Addr) (ns : List Int), vs = [.ref a] ∧ SqL K H a (ns.map V.int) ∧ ns.length ≤ 100 ∧ ∀ H' g c, Same H H' → H g = none → Gard H' g c 0 → Q (.ref g) H'
theorem cutV_map (ns : List Int) : cutV (ns.map V.int) none (some 60) = (ns.take 60).map V.int := by
  unfold cutV
  have e1 : HT.sIx (ns.map V.int).length 0 none = 0 := rfl
  have e2 : HT.sIx (ns.map V.int).length (ns.map V.int).length (some 60) = min 60 ns.length := by
    unfold HT.sIx
    simp
  rw [e1, e2, List.drop_zero, Nat.sub_zero, ← List.map_take]
  congr 1
  rcases Nat.le_total 60 ns.length with h | h
  · rw [Nat.min_eq_left h]
  · rw [Nat.min_eq_right h, List.take_of_length_le (Nat.le_refl _), List.take_of_length_le h]
theorem ok_garden (T : Tx K mg) : FnOk P w K mg base CX0 1 T.garden.f T.garden.fd ["_law_script"] (spGarden K) := by
  refine okN T.garden.F scGarden (fun vs H Q E h => ?_) (fun cdv A outer s0 H vs Q E hr h => ?_)
  · obtain ⟨a, ns, rfl, _⟩ := h
    rfl
  · obtain ⟨a, ns, rfl, ha, hn, q⟩ := h
    have nd := scGarden.nd
    refine ⟨_, pss_one (ps_ret (pe_lstA (pa_cons (pe_lcA (own := [("_law_cell", 1)]) (g := gName 1) (tt := tYes) rfl nd (pi_list (pe_slice sl_list (pv 0) po_none (po_some pe_int))) (blkOk_by (N := ["_law_script", "_law_cell"]) (sc := defScope sGarden) (by decide +kernel)) (fun _ _ _ _ _ => pg_name (i := 1) nd rfl (.inl rfl))
      (fun _ _ _ _ _ => pts_nil) (fun _ _ _ _ _ => pe_callTy (T := "int") call_int1 (by rfl) T.int_ (by decide +kernel) (pa_cons (pv 1) pa_nil))) (pa_cons pe_int (pa_cons pe_int pa_nil))))), ?_⟩
    refine ⟨_, rfl, 60, rfl, a, _, rfl, ha, fun p np => ?_⟩
    have hp : upd H p (.lst (cutV (ns.map V.int) none (some 60))) p = some (.lst ((ns.take 60).map V.int)) := by rw [upd_same, cutV_map]
    have e1 : Same H (upd H p (.lst (cutV (ns.map V.int) none (some 60)))) := Same.new np
    generalize upd H p (.lst (cutV (ns.map V.int) none (some 60))) = H1 at hp e1 ⊢
    refine ⟨p, rfl, ⟨_, .inl (.inl hp)⟩, ?_⟩
    refine ⟨Int, ns.take 60, fun _ => true, fun d y _ => y = .int d, fun H' => SqL K H' p ((ns.take 60).map V.int), YAt ((ns.take 60).map V.int), ?_, ?_, fun H' e' => .inl (.inl (e' _ _ hp)), fun _ _ _ _ _ h => h, ?_, ?_⟩
    · have := walk_list (K := K) (a := p) (xs := (ns.take 60).map V.int)
      rw [List.length_map] at this
      exact this
    · rw [List.length_take]
      exact sz_lt (by omega)
    · rintro i d x H2 H3 hd e2 ⟨rfl, hx⟩
      rw [List.getElem?_map, hd] at hx
      cases hx
      exact ⟨rfl, rfl, _, rfl, .inl ⟨d, rfl, Same.refl _, rfl⟩⟩
    · intro D ys H7 nD e7 hD hpr
      rw [List.filter_eq_self.mpr (fun _ _ => rfl)] at hpr
      rw [Paired_eq (f := fun d : Int => V.int d) hpr] at hD
      refine ⟨s3, fun g H8 n8 e8 h8 => q H8 g D ((e1.trans e7).trans e8) (Same.none (e1.trans e7) n8) ⟨ns.take 60, 0, 0, h8, e8 _ _ hD, ?_, by omega, by omega, by omega⟩⟩
      rw [List.length_take]
      omega
/-! the spade -/
theorem scSpade : FnScope ["_law_garden_here", "_law_many", "_law_left", "_law_turn", "_law_cell", "_law_mixed"] ["_law_garden_here", "_law_many"] (defScope sSpade) := ⟨rfl, rfl, rfl, by decide +kernel, rfl, by decide +kernel, by decide +kernel⟩
def spSpade : Sp := fun vs H Q _ => ∃ (g c : Addr) (many : Int) (B : Nat), vs = [.ref g, .int many] ∧ Gard H g c B ∧ 0 < many ∧ many ≤ 1000 ∧ B ≤ 10000 ∧ ∀ H' x, SameX g H H' → Gard H' g c (B + 1) → 0 ≤ x → x < many → Q (.int x) H'
theorem emod_lt' {a b : Int} (h : 0 < b) : 0 ≤ a % b ∧ a % b < b := ⟨Int.emod_nonneg _ (by omega), Int.emod_lt_of_pos _ h⟩
theorem ok_spade (T : Tx K mg) : FnOk P w K mg base CX0 1 T.spade.f T.spade.fd ["_law_garden_here", "_law_many"] spSpade := by
  refine okN T.spade.F scSpade (fun vs H Q E h => ?_) (fun cdv A outer s0 H vs Q E hr h => ?_)
  · obtain ⟨g, c, many, B, rfl, _⟩ := h
    rfl
  · obtain ⟨g, c, many, B, rfl, ⟨ns, t, left, hg, hc, hn, hl0, ht0, htB⟩, hm0, hm9, hB, q⟩ := h
    have nd := scSpade.nd
    have hu := hu_of hr
    refine ⟨_, pss_cons (ps_if (pt_cmp (pc_gt (pe_ixU (pv 0) pe_int (fun _ _ => rfl)) pe_int))
        (pss_cons (ps_set (i := 2) nd rfl (.inl rfl) (pe_callTy (T := "int") call_int1 (by rfl) T.int_ (by decide +kernel) (pa_cons (pe_ixU (pv 0) pe_int (fun _ _ => rfl)) pa_nil)))
        (pss_cons (ps_asg (pe_op op_fdiv (pv 2) (pv 1)) (pg_sub (pv 0) pe_int set_list))
        (pss_one (ps_ret (pe_op op_mod (pe_callTy (T := "int") call_int1 (by rfl) T.int_ (by decide +kernel) (pa_cons (pv 2) pa_nil)) (pv 1)))))) pss_nil)
      (pss_cons (ps_set (i := 3) nd rfl (.inl rfl) (pe_ixU (pv 0) pe_int (fun _ _ => rfl)))
      (pss_cons (ps_asg (pe_add (pv 3) pe_int) (pg_sub (pv 0) pe_int set_list))
      (pss_cons (ps_set (i := 4) nd rfl (.inl rfl) (pe_add (pe_op op_mul pe_int (pv 3)) pe_int))
      (pss_cons (PS_up (ps_if (pt_cmpR (op_neLI hu) (pe_ixU (pv 0) pe_int (fun _ _ => rfl)) (pe_lstA pa_nil) (nomark _))
        (pss_one (ps_set (i := 4) nd rfl (.inl rfl) (pe_ixU (pe_ixU (pv 0) pe_int (fun _ _ => rfl)) (pe_op op_mod (pe_callTy (T := "int") call_int1 (by rfl) T.int_ (by decide +kernel) (pa_cons (pv 3) pa_nil)) (pe_lenU T.len_ (pa_cons (pe_ixU (pv 0) pe_int (fun _ _ => rfl)) pa_nil))) (fun _ _ => rfl)))) pss_nil))
      (pss_cons (PS_up (ps_if (PW.pt (pw_and (pt_cmp (pc_lt (pv 3) (pe_lenU T.len_ (pa_cons (pe_ixU (pv 0) pe_int (fun _ _ => rfl)) pa_nil)))) (pw_and1 (pt_cmp (pc_ge (pe_callB call_abs (by rfl) T.abs_ (by decide +kernel) (pa_cons (pv 4) pa_nil)) (pe_op op_pow pe_int pe_int))))))
        (pss_cons (ps_set (i := 2) nd rfl (.inl rfl) (pe_add (pe_op op_mul pe_int (pe_sub (pe_callB call_abs (by rfl) T.abs_ (by decide +kernel) (pa_cons (pv 4) pa_nil)) (pe_op op_pow pe_int pe_int))) (pe_callTy (T := "int") call_int1 (by rfl) T.int_ (by decide +kernel) (pa_cons (pe_cmp (pc_lt (pv 4) pe_int)) pa_nil))))
        (pss_cons (ps_asg (pe_op op_fdiv (pv 2) (pv 1)) (pg_sub (pv 0) pe_int set_list))
        (pss_one (ps_ret (pe_op op_mod (pe_callTy (T := "int") call_int1 (by rfl) T.int_ (by decide +kernel) (pa_cons (pv 2) pa_nil)) (pv 1)))))) pss_nil))
      (pss_cons (ps_set (i := 5) nd rfl (.inl rfl) (pe_op op_mod (pe_callTy (T := "int") call_int1 (by rfl) T.int_ (by decide +kernel) (pa_cons (pe_op op_pow (pe_add (pe_add (pe_op op_mod (pe_callTy (T := "int") call_int1 (by rfl) T.int_ (by decide +kernel) (pa_cons (pv 4) pa_nil)) pe_int) (pe_op op_mul pe_int (pv 3))) pe_int) pe_int) pa_nil)) pe_int))
      (pss_cons (ps_set (i := 5) nd rfl (.inl rfl) (pe_op op_mod (pe_callTy (T := "int") call_int1 (by rfl) T.int_ (by decide +kernel) (pa_cons (pe_op op_pow (pe_add (pe_add (pe_op op_mul (pv 5) (pe_add (pe_op op_mul pe_int (pv 3)) pe_int)) (pe_op op_mul (pe_op op_mul pe_int (pv 3)) (pv 3))) pe_int) pe_int) pa_nil)) pe_int))
      (pss_one (ps_ret (pe_op op_mod (pe_callTy (T := "int") call_int1 (by rfl) T.int_ (by decide +kernel) (pa_cons (pe_op op_fdiv (pv 5) pe_int) pa_nil)) (pv 1))))))))))), ?_⟩
    have ix0 : ∀ {H' : Hp} {a b : V}, H' g = some (.lst [.ref c, a, b]) → (Rd H' g (.tup [.ref c, a, b]) ∨ Rd H' g (.lst [.ref c, a, b])) := fun h => .inr (.inl h)
    have hcg : c ≠ g := fun e => by
      rw [e, hg] at hc
      injection hc with hc
      injection hc with hc
      have := congrArg (·[0]?) hc
      simp only [List.getElem?_cons_zero, List.getElem?_map] at this
      cases h : ns[0]? <;> rw [h] at this <;> cases this
    refine ⟨_, rfl, g, _, 2, .int left, rfl, rfl, ix0 hg, rfl, left, 0, rfl, rfl, _, rfl, ?_⟩
    refine ifB rfl (fun hpos => ?_) (fun hpos => ?_)
    · have hpos' : 0 < left := of_decide_eq_true hpos
      refine ⟨_, rfl, g, _, 2, .int left, rfl, rfl, ix0 hg, rfl, .inl ⟨left, rfl, ?_⟩⟩
      refine ⟨_, rfl, _, rfl, left, many, rfl, rfl, ⟨hm0, by omega⟩, _, rfl, g, _, 2, 2, rfl, rfl, hg, rfl, ?_⟩
      have hm := emod_lt' (a := left) hm0
      refine ⟨_, rfl, .inl ⟨left, rfl, _, rfl, left, many, rfl, rfl, hm0, ?_⟩⟩
      refine q _ _ SameX.put ⟨ns, t, left / many, upd_same, (upd_ne hcg).trans hc, hn, Int.ediv_nonneg hl0 (by omega), ht0, by omega⟩ hm.1 hm.2
    · refine ⟨_, rfl, g, _, 1, .int t, rfl, rfl, ix0 hg, rfl, ?_⟩
      refine ⟨_, rfl, t, 1, rfl, rfl, _, rfl, g, _, 1, 1, rfl, rfl, hg, rfl, ?_⟩
      have x1 : SameX g H (upd H g (.lst ([V.ref c, V.int t, V.int left].set 1 (.int (t + 1))))) := SameX.put
      have hg1 : upd H g (.lst ([V.ref c, V.int t, V.int left].set 1 (.int (t + 1)))) g = some (.lst [.ref c, .int (t + 1), .int left]) := upd_same
      have hc1 : upd H g (.lst ([V.ref c, V.int t, V.int left].set 1 (.int (t + 1)))) c = some (.lst (ns.map V.int)) := (upd_ne hcg).trans hc
      generalize upd H g (.lst ([V.ref c, V.int t, V.int left].set 1 (.int (t + 1)))) = H1 at x1 hg1 hc1 ⊢
      refine ⟨_, rfl, 108707, t, rfl, rfl, .inl ⟨by omega, by omega⟩, _, 12007, rfl, rfl, ?_⟩
      -- the cell
      refine ⟨fun σ' H2 => Same H1 H2 ∧ ∃ cell : Int, σ' = [some (.ref g), some (.int many), none, some (.int t), some (.int cell), none], ?_, ?_⟩
      · refine ⟨_, rfl, g, _, 0, .ref c, rfl, rfl, ix0 hg1, rfl, by decide, fun em H2 n2 e2 h2 => ?_⟩
        refine ⟨c, em, ns, [], rfl, rfl, .inl (e2 _ _ hc1), .inl h2, _, rfl, ?_⟩
        have hg2 := e2 _ _ hg1
        have hc2 := e2 _ _ hc1
        refine ifB rfl (fun hne => ?_) (fun hne => ⟨e2, _, rfl⟩)
        have hne' : ns ≠ [] := of_decide_eq_true hne
        have hlen : (0 : Int) < ns.length := by have := List.length_pos_iff.mpr hne'; omega
        have hm := emod_lt' (a := t) hlen
        obtain ⟨j, hj⟩ : ∃ j : Nat, t % (ns.length : Int) = j := ⟨(t % (ns.length : Int)).toNat, by omega⟩
        have hjl : j < ns.length := by omega
        refine ⟨_, rfl, g, _, 0, .ref c, rfl, rfl, ix0 hg2, rfl, _, rfl, .inl ⟨t, rfl, _, rfl, g, _, 0, .ref c, rfl, rfl, ix0 hg2, rfl, c, _, rfl, .inr (.inl hc2), t, _, rfl, rfl, ?_, c, _, _, .int (ns[j]), rfl, rfl, .inr (.inl hc2), ?_, e2, _, rfl⟩⟩
        · rw [List.length_map]
          exact hlen
        · rw [List.length_map, hj]
          exact atI_nat (by rw [List.getElem?_map, List.getElem?_eq_getElem hjl]; rfl)
      rintro σ' H2 ⟨e2, cell, rfl⟩
      have hg2 := e2 _ _ hg1
      have hc2 := e2 _ _ hc1
      have x2 : SameX g H H2 := x1.trans (Same.x e2)
      refine ⟨fun σ' H' => H' = H2 ∧ σ' = [some (.ref g), some (.int many), none, some (.int t), some (.int cell), none], ?_, ?_⟩
      · refine ⟨_, rfl, _, rfl, g, _, 0, .ref c, rfl, rfl, ix0 hg2, rfl, c, _, rfl, .inr (.inl hc2), t, _, rfl, rfl, _, rfl, ?_⟩
        refine ifB rfl (fun _ => ?_) (fun _ => iteF ⟨rfl, rfl⟩)
        refine ⟨_, rfl, cell, rfl, 10, 18, rfl, rfl, ⟨by omega, by omega, by decide⟩, _, _, rfl, rfl, _, rfl, ?_⟩
        refine ifB rfl (fun hge => ?_) (fun _ => ⟨rfl, rfl⟩)
        have hge' := of_decide_eq_true hge
        refine ⟨_, rfl, cell, rfl, 10, 18, rfl, rfl, ⟨by omega, by omega, by decide⟩, _, _, rfl, rfl, 2, _, rfl, rfl, .inl ⟨by omega, by omega⟩, ?_⟩
        refine ⟨_, rfl, cell, 0, rfl, rfl, .inr ⟨_, rfl, _, _, rfl, rfl, ?_⟩⟩
        obtain ⟨L, hL⟩ : ∃ L : Int, L = 2 * ((if cell < 0 then -cell else cell) - (10 : Int) ^ (18 : Int).toNat) + (if (decide (cell < 0)) = true then (1 : Int) else 0) := ⟨_, rfl⟩
        have hL0 : 0 ≤ L := by
          rw [hL]
          have h1 : 0 ≤ (if cell < 0 then -cell else cell) - (10 : Int) ^ (18 : Int).toNat := by omega
          split <;> omega
        refine ⟨_, rfl, _, rfl, L, many, congrArg V.int hL.symm, rfl, ⟨hm0, by omega⟩, _, rfl, g, _, 2, 2, rfl, rfl, hg2, rfl, ?_⟩
        have hm := emod_lt' (a := L) hm0
        refine ⟨_, rfl, .inl ⟨L, congrArg (fun z => [V.int z]) hL.symm, _, rfl, L, many, rfl, rfl, hm0, ?_⟩⟩
        exact q _ _ (x2.trans SameX.put) ⟨ns, t + 1, L / many, upd_same, (upd_ne hcg).trans hc2, hn, Int.ediv_nonneg hL0 (by omega), by omega, by omega⟩ hm.1 hm.2
      rintro σ' H' ⟨rfl, rfl⟩
      have ht9 : t ≤ 10000 := by omega
      have m1 := emod_lt' (a := cell) (b := 2147483587) (by omega)
      refine ⟨_, rfl, .inl ⟨cell, rfl, cell, 2147483587, rfl, rfl, (show (0 : Int) < 2147483587 by omega), _, rfl, 108707, t, rfl, rfl, .inl ⟨by omega, by omega⟩, _, _, rfl, rfl, _, _, rfl, rfl, _, 5, rfl, rfl, ⟨by omega, by omega, ?_⟩, .inl ⟨_, rfl, _, 2147483629, rfl, rfl, (show (0 : Int) < 2147483629 by omega), ?_⟩⟩⟩
      · show (cell % 2147483587 + 108707 * t + 12007).natAbs < 2 ^ 64
        omega
      obtain ⟨x, hx⟩ : ∃ x : Int, x = (cell % 2147483587 + 108707 * t + 12007) ^ (5 : Int).toNat % 2147483629 := ⟨_, rfl⟩
      have m2 := emod_lt' (a := (cell % 2147483587 + 108707 * t + 12007) ^ (5 : Int).toNat) (b := 2147483629) (by omega)
      rw [← hx] at m2
      have b1 : x * (2 * t + 12007) ≤ 2147483629 * 32007 := Int.mul_le_mul (by omega) (by omega) (by omega) (by omega)
      have b2 : 0 ≤ x * (2 * t + 12007) := Int.mul_nonneg m2.1 (by omega)
      have b3 : 108707 * t * t ≤ 1087070000 * 10000 := Int.mul_le_mul (by omega) (by omega) (by omega) (by omega)
      have b4 : 0 ≤ 108707 * t * t := Int.mul_nonneg (by omega) (by omega)
      refine ⟨_, rfl, _, rfl, 2, t, rfl, rfl, .inl ⟨by omega, by omega⟩, _, _, rfl, rfl, x, 2 * t + 12007, congrArg V.int hx.symm, rfl, .inl ⟨by omega, by omega⟩, _, rfl, 108707, t, rfl, rfl, .inl ⟨by omega, by omega⟩, _, rfl, 108707 * t, t, rfl, rfl, .inr ⟨by omega, by omega⟩, _, _, rfl, rfl, _, _, rfl, rfl, x * (2 * t + 12007) + 108707 * t * t + 12007, 3, rfl, rfl, ⟨by omega, by omega, ?_⟩, .inl ⟨_, rfl, _, 2147483549, rfl, rfl, (show (0 : Int) < 2147483549 by omega), ?_⟩⟩
      · omega
      refine ⟨_, rfl, _, 32, rfl, rfl, ⟨by omega, by omega⟩, .inl ⟨_, rfl, _, rfl, _, many, rfl, rfl, hm0, ?_⟩⟩
      have hm := emod_lt' (a := (x * (2 * t + 12007) + 108707 * t * t + 12007) ^ (3 : Int).toNat % 2147483549 / 32) hm0
      exact q _ _ x2 ⟨ns, t + 1, left, hg2, hc2, hn, hl0, by omega, by omega⟩ hm.1 hm.2
/-! pick -/
theorem scPick : FnScope ["_law_garden_here", "_law_some"] ["_law_garden_here", "_law_some"] (defScope sPick) := ⟨rfl, rfl, rfl, by decide +kernel, rfl, by decide +kernel, by decide +kernel⟩
def spPick : Sp := fun vs H Q _ => ∃ (g c p : Addr) (xs : List V) (B : Nat), vs = [.ref g, .ref p] ∧ (Rd H p (.tup xs) ∨ Rd H p (.lst xs)) ∧ p ≠ g ∧ Gard H g c B ∧ B ≤ 10000 ∧ xs ≠ [] ∧ xs.length ≤ 1000 ∧ ∀ H' x (i : Nat), SameX g H H' → Gard H' g c (B + 1) → xs[i]? = some x → Q x H'
theorem ok_pick (T : Tx K mg) : FnOk P w K mg base CX0 2 T.pick.f T.pick.fd ["_law_garden_here", "_law_some"] spPick := by
  refine okN T.pick.F scPick (fun vs H Q E h => ?_) (fun cdv A outer s0 H vs Q E hr h => ?_)
  · obtain ⟨g, c, p, xs, B, rfl, _⟩ := h
    rfl
  · obtain ⟨g, c, p, xs, B, rfl, hp, hne, hg, hB, hxs, hl, q⟩ := h
    refine ⟨_, pss_one (ps_ret (pe_ixU (pv 1) (pcall T.spade (ok_spade T) hr (pa_cons (pv 0) (pa_cons (pe_lenU T.len_ (pa_cons (pv 1) pa_nil)) pa_nil))) (fun _ _ => rfl))), ?_⟩
    have hpos := List.length_pos_iff.mpr hxs
    refine ⟨_, rfl, _, rfl, _, rfl, p, xs, rfl, hp, g, c, xs.length, B, rfl, hg, by omega, by omega, hB, fun H' x xx hg' h0 h1 => ?_⟩
    obtain ⟨i, rfl⟩ : ∃ i : Nat, x = i := ⟨x.toNat, by omega⟩
    have hi : i < xs.length := by omega
    exact ⟨p, xs, i, xs[i], rfl, rfl, hp.imp (SameX.rd xx hne) (SameX.rd xx hne), atI_nat (List.getElem?_eq_getElem hi), q H' _ i xx hg' (List.getElem?_eq_getElem hi)⟩
end
end MF
end
section
set_option Elab.async false
set_option linter.all false
set_option maxRecDepth 100000
set_option maxHeartbeats 4000000
namespace MF
open PySem PySem.Spec PyProof.Rows L2
/-- a list or a tuple of lands -/
def SeqT (H : Hp) (p : Addr) (ls : List Land) : Prop := ∃ ps : List Addr, (Rd H p (.lst (ps.map V.ref)) ∨ Rd H p (.tup (ps.map V.ref))) ∧ Tus H ps (ls.map l3)
theorem LsD.seq {H : Hp} {p : Addr} {ls : List Land} (h : LsD H p ls) : SeqT H p ls := let ⟨ps, h1, h2⟩ := h; ⟨ps, .inl (.inl h1), tuD_tus h2⟩
theorem TsD.seq {H : Hp} {p : Addr} {ls : List Land} (h : TsD H p ls) : SeqT H p ls := let ⟨ps, h1, h2⟩ := h; ⟨ps, .inr h1, tuD_tus h2⟩
theorem walk_range0 {n : Nat} : Walk (Itr 0 n) n (fun _ => True) (fun i H x H' => H' = H ∧ x = .int (i : Nat)) :=
  walk_range.mono (fun _ h => h) fun i H x H' _ _ ⟨h1, h2⟩ => ⟨h1, by rw [h2]; simp⟩
def intO : Option Int → V | some i => .int i | none => .non
theorem third_app {A B : List Land} {a b : Int} (h : third A a b = none) : third (A ++ B) a b = third B a b := by
  unfold third at h ⊢
  rw [List.find?_append]
  have : A.find? (fun w => decide (w.1 = a ∧ w.2.1 = b)) = none := by
    cases e : A.find? (fun w => decide (w.1 = a ∧ w.2.1 = b)) with
    | none => rfl
    | some x => rw [e] at h; cases h
  rw [this]
  rfl
theorem third_hit {B : List Land} {a b c : Int} : third ((a, b, c) :: B) a b = some c := by simp [third]
theorem third_miss {B : List Land} {w : Land} {a b : Int} (h : ¬ (w.1 = a ∧ w.2.1 = b)) : third (w :: B) a b = third B a b := by simp [third, h]
/-- the items of a land, by the loop's place -/
theorem l3_way {l : Land} {j : Nat} (hj : j < 3) : ∃ u v z, (ways1 l)[j]? = some (u, v, z) ∧ atI ((l3 l).map V.int) (j : Int) = some (.int u) ∧ atI ((l3 l).map V.int) ((j : Int) - 2) = some (.int v) ∧ atI ((l3 l).map V.int) ((j : Int) - 1) = some (.int z) := by
  match j, hj with
  | 0, _ => exact ⟨_, _, _, rfl, rfl, rfl, rfl⟩
  | 1, _ => exact ⟨_, _, _, rfl, rfl, rfl, rfl⟩
  | 2, _ => exact ⟨_, _, _, rfl, rfl, rfl, rfl⟩
section
variable {P : Program} {w : World} {K : PySem.W.Frag} {mg : Str → Option Value} {base : Heap}
theorem scThird : FnScope ["_law_lands_here", "_law_one", "_law_other", "_law_land", "_law_at"] ["_law_lands_here", "_law_one", "_law_other"] (defScope sThird) := ⟨rfl, rfl, rfl, by decide +kernel, rfl, by decide +kernel, by decide +kernel⟩
def spThird : Sp := fun vs H Q _ => ∃ (p : Addr) (a b : Int) (ls : List Land), vs = [.ref p, .int a, .int b] ∧ SeqT H p ls ∧ ∀ H', Same H H' → Q (intO (third (ways ls) a b)) H'
theorem ok_third (T : Tx K mg) : FnOk P w K mg base CX0 1 T.third.f T.third.fd ["_law_lands_here", "_law_one", "_law_other"] spThird := by
  refine okN T.third.F scThird (fun vs H Q E h => ?_) (fun cdv A outer s0 H vs Q E hr h => ?_)
  · obtain ⟨p, a, b, ls, rfl, _⟩ := h
    rfl
  · obtain ⟨p, a, b, ls, rfl, ⟨ps, hp, ht⟩, q⟩ := h
    have nd := scThird.nd
    have hu := hu_of hr
    refine ⟨_, pss_cons (ps_for PassesOwn.never rfl (pi_or (pi_list (pv 0)) (pi_tup (pv 0))) (pg_name (i := 3) nd rfl (.inl rfl))
        (pss_one (ps_for PassesOwn.never rfl (pi_range1 (by rfl) T.range_ (pa_cons pe_int pa_nil)) (pg_name (i := 4) nd rfl (.inl rfl))
          (pss_one (ps_if (pt_cmpR (op_eqTu hu) (pe_tupA (pa_cons (pe_ixU (pv 3) (pv 4) (fun _ _ => rfl)) (pa_cons (pe_ixU (pv 3) (pe_sub (pv 4) pe_int) (fun _ _ => rfl)) pa_nil))) (pe_tupA (pa_cons (pv 1) (pa_cons (pv 2) pa_nil))) rfl)
            (pss_one (ps_ret (pe_ixU (pv 3) (pe_sub (pv 4) pe_int) (fun _ _ => rfl)))) pss_nil)))))
      (pss_one (ps_ret pe_non)), ?_⟩
    -- the loop, over either
    have loop : ∀ {J : It} {G : Hp → Prop} {g : TG} {tb : L2.TS} {D : Ends}, Walk J (ps.map V.ref).length G (YAt (ps.map V.ref)) → (∀ H', Same H H' → G H') →
        (∀ (i : Nat) (l : Land) (r : Addr) (y3 y4 : Option V) (H' : Hp), ls[i]? = some l → Same H H' → Tu H' r (l3 l) → third (ways (ls.take i)) a b = none → g (.ref r) [some (.ref p), some (.int a), some (.int b), y3, y4] H' fun σ2 H2 => tb { D with nx := fun σ' H' => ∃ y3 y4, σ' = [some (.ref p), some (.int a), some (.int b), y3, y4] ∧ Same H H' ∧ third (ways (ls.take (i + 1))) a b = none, ct := fun σ' H' => ∃ y3 y4, σ' = [some (.ref p), some (.int a), some (.int b), y3, y4] ∧ Same H H' ∧ third (ways (ls.take (i + 1))) a b = none, bk := D.nx } σ2 H2) →
        (∀ y3 y4 H', Same H H' → third (ways ls) a b = none → D.nx [some (.ref p), some (.int a), some (.int b), y3, y4] H') →
        ∃ W : Nat → Nat → L2.St → Hp → Prop, (∃ m, W 0 m (L2.start ["_law_lands_here", "_law_one", "_law_other", "_law_land", "_law_at"] [.ref p, .int a, .int b]) H) ∧ ∀ i m σ H, W i m σ H →
          (J.stop i H ∧ D.nx σ H) ∨ (J.go i H ∧ ∃ N : L2.St → Hp → Prop, (∀ σ' H', N σ' H' → ∃ m', m' < m ∧ W (i + 1) m' σ' H') ∧ ∀ x H', J.yld i H x H' → g x σ H' fun σ2 H2 => tb { D with nx := N, ct := N, bk := D.nx } σ2 H2) := by
      intro J G g tb D w hG hs hd
      refine for_it w (fun i σ' H' => ∃ y3 y4, σ' = [some (.ref p), some (.int a), some (.int b), y3, y4] ∧ Same H H' ∧ third (ways (ls.take i)) a b = none) ⟨none, none, rfl, Same.refl H, by simp [ways, third]⟩ (fun i σ' H' _ ⟨_, _, _, e, _⟩ => hG H' e) ?_ ?_
      · rintro i x σ' H1 H2 hi ⟨y3, y4, rfl, e, hn⟩ ⟨rfl, hx⟩
        obtain ⟨r, l, rfl, hl, tu⟩ := tus_at ht hx
        exact hs i l r y3 y4 _ hl e (tu.mono e) hn
      · rintro σ' H' ⟨y3, y4, rfl, e, hn⟩
        have hz : ls.take (ps.map V.ref).length = ls := List.take_of_length_le (by rw [List.length_map, ht.length, List.length_map]; exact Nat.le_refl _)
        rw [hz] at hn
        exact hd y3 y4 H' e hn
    have fin : ∀ y3 y4 H', Same H H' → third (ways ls) a b = none → tRet (tC .non) { nx := fun _ H' => Q .non H', rt := Q } [some (.ref p), some (.int a), some (.int b), y3, y4] H' := fun y3 y4 H' e hn => by
      have := q H' e
      rw [hn] at this
      exact this
    rcases hp with hp | hp
    · refine .inl ⟨_, rfl, p, rfl, ⟨_, .inl hp⟩, loop (walk_list (K := K)) (fun H' e => .inl (Rd.mono e hp)) ?_ fin⟩
      intro i l r y3 y4 H' hl e tu hn
      refine ⟨3, rfl, by omega, by omega, ?_⟩
      refine for_it walk_range0 (fun j σ' H2 => ∃ y4, σ' = [some (.ref p), some (.int a), some (.int b), some (.ref r), y4] ∧ Same H' H2 ∧ third (ways (ls.take i) ++ (ways1 l).take j) a b = none) ⟨y4, rfl, Same.refl _, by simpa using hn⟩ (fun _ _ _ _ _ => trivial) ?_ ?_
      · rintro j x σ' H1 H2 hj ⟨y4, rfl, e2, hn2⟩ ⟨rfl, rfl⟩
        obtain ⟨u, v, z, hw, a1, a2, a3⟩ := l3_way (l := l) hj
        have tu2 := tu.mono e2
        refine ⟨_, rfl, _, rfl, r, _, _, _, rfl, rfl, .inl tu2, a1, _, rfl, _, rfl, _, 2, rfl, rfl, r, _, _, _, rfl, rfl, .inl tu2, a2, s2, fun t1 H3 n3 e3 ht1 => ?_⟩
        refine ⟨_, rfl, _, rfl, s2, fun t2 H4 n4 e4 ht2 => ⟨t1, t2, [u, v], [a, b], rfl, rfl, .inl (e4 _ _ ht1), .inl ht2, _, rfl, ?_⟩⟩
        have e24 : Same _ H4 := Same.trans e3 e4
        refine ifB rfl (fun he => ?_) (fun he => ?_)
        · have he' := of_decide_eq_true he
          simp only [List.cons.injEq, and_true] at he'
          obtain ⟨rfl, rfl⟩ := he'
          have hres : third (ways ls) u v = some z := by
            rw [ways_cut hl, third_app hn]
            have : third ((ways1 l).take j) u v = none := by rw [← third_app hn]; exact hn2
            rw [show ways1 l ++ ways (ls.drop (i + 1)) = (ways1 l).take j ++ ((u, v, z) :: ((ways1 l).drop (j + 1) ++ ways (ls.drop (i + 1)))) by
              conv => lhs; rw [cut_at hw]
              simp only [List.append_assoc, List.cons_append], third_app this]
            exact third_hit
          refine ⟨_, rfl, _, rfl, _, 1, rfl, rfl, r, _, _, _, rfl, rfl, .inl (tu2.mono e24), a3, ?_⟩
          have := q H4 ((e.trans e2).trans e24)
          rw [hres] at this
          exact this
        · have he' := of_decide_eq_false he
          simp only [List.cons.injEq, and_true] at he'
          refine ⟨_, rfl, Same.trans e2 e24, ?_⟩
          rw [List.take_succ, hw, ← List.append_assoc, third_app hn2]
          show third [(u, v, z)] a b = none
          rw [third_miss he']
          rfl
      · rintro σ' H2 ⟨y4, rfl, e2, hn2⟩
        refine ⟨_, _, rfl, e.trans e2, ?_⟩
        rw [take_snoc hl, ways_snoc]
        exact hn2
    · refine .inr ⟨_, rfl, p, rfl, ⟨_, .inl hp⟩, loop (walk_tup (K := K)) (fun H' e => .inl (Rd.mono e hp)) ?_ fin⟩
      intro i l r y3 y4 H' hl e tu hn
      refine ⟨3, rfl, by omega, by omega, ?_⟩
      refine for_it walk_range0 (fun j σ' H2 => ∃ y4, σ' = [some (.ref p), some (.int a), some (.int b), some (.ref r), y4] ∧ Same H' H2 ∧ third (ways (ls.take i) ++ (ways1 l).take j) a b = none) ⟨y4, rfl, Same.refl _, by simpa using hn⟩ (fun _ _ _ _ _ => trivial) ?_ ?_
      · rintro j x σ' H1 H2 hj ⟨y4, rfl, e2, hn2⟩ ⟨rfl, rfl⟩
        obtain ⟨u, v, z, hw, a1, a2, a3⟩ := l3_way (l := l) hj
        have tu2 := tu.mono e2
        refine ⟨_, rfl, _, rfl, r, _, _, _, rfl, rfl, .inl tu2, a1, _, rfl, _, rfl, _, 2, rfl, rfl, r, _, _, _, rfl, rfl, .inl tu2, a2, s2, fun t1 H3 n3 e3 ht1 => ?_⟩
        refine ⟨_, rfl, _, rfl, s2, fun t2 H4 n4 e4 ht2 => ⟨t1, t2, [u, v], [a, b], rfl, rfl, .inl (e4 _ _ ht1), .inl ht2, _, rfl, ?_⟩⟩
        have e24 : Same _ H4 := Same.trans e3 e4
        refine ifB rfl (fun he => ?_) (fun he => ?_)
        · have he' := of_decide_eq_true he
          simp only [List.cons.injEq, and_true] at he'
          obtain ⟨rfl, rfl⟩ := he'
          have hres : third (ways ls) u v = some z := by
            rw [ways_cut hl, third_app hn]
            have : third ((ways1 l).take j) u v = none := by rw [← third_app hn]; exact hn2
            rw [show ways1 l ++ ways (ls.drop (i + 1)) = (ways1 l).take j ++ ((u, v, z) :: ((ways1 l).drop (j + 1) ++ ways (ls.drop (i + 1)))) by
              conv => lhs; rw [cut_at hw]
              simp only [List.append_assoc, List.cons_append], third_app this]
            exact third_hit
          refine ⟨_, rfl, _, rfl, _, 1, rfl, rfl, r, _, _, _, rfl, rfl, .inl (tu2.mono e24), a3, ?_⟩
          have := q H4 ((e.trans e2).trans e24)
          rw [hres] at this
          exact this
        · have he' := of_decide_eq_false he
          simp only [List.cons.injEq, and_true] at he'
          refine ⟨_, rfl, Same.trans e2 e24, ?_⟩
          rw [List.take_succ, hw, ← List.append_assoc, third_app hn2]
          show third [(u, v, z)] a b = none
          rw [third_miss he']
          rfl
      · rintro σ' H2 ⟨y4, rfl, e2, hn2⟩
        refine ⟨_, _, rfl, e.trans e2, ?_⟩
        rw [take_snoc hl, ways_snoc]
        exact hn2
end
end MF
end
section
set_option Elab.async false
set_option linter.all false
set_option maxRecDepth 100000
set_option maxHeartbeats 4000000
namespace MF
open PySem PySem.Spec PyProof.Rows L2
/-- two lists, joined -/
theorem op_catL {X : Cx} : OpR X (binaryOp .Add) (fun x y H Q => ∃ a b xs ys, x = .ref a ∧ y = .ref b ∧ H a = some (.lst xs) ∧ H b = some (.lst ys) ∧ xs.length + ys.length ≤ sizeLine ∧ ∀ p H2, H p = none → Same H H2 → H2 p = some (.lst (xs ++ ys)) → Q (.ref p) H2) := fun pins s σ H x y v u Q I rx ry ⟨a, b, xs, ys, e1, e2, ha, hb, hz, q⟩ =>
  op_cat pins s σ H x y v u Q I rx ry ⟨a, b, xs, ys, e1, e2, ha, hb, hz, fun p n => q p _ n (Same.new n) upd_same⟩
def lawSplit (ls : List Land) (l : Land) (n : Int) : List Land := ls.filter (fun x => decide (x ≠ l)) ++ [(l.1, l.2.1, n), (l.2.1, l.2.2, n), (l.2.2, l.1, n)]
def lawFlip (ls : List Land) (a b c d : Int) : List Land := ls.filter (fun l => decide (a ∉ l3 l) || decide (b ∉ l3 l)) ++ [(c, a, d), (d, b, c)]
section
variable {P : Program} {w : World} {K : PySem.W.Frag} {mg : Str → Option Value} {base : Heap}
theorem scSplit : FnScope ["_law_lands_here", "_law_land", "_law_new", "_law_one", "_law_two", "_law_three", "_law_each"] ["_law_lands_here", "_law_land", "_law_new"] (defScope sSplit) := ⟨rfl, rfl, rfl, by decide +kernel, rfl, by decide +kernel, by decide +kernel⟩
def spSplit : Sp := fun vs H Q _ => ∃ (p t : Addr) (n : Int) (ls : List Land) (l : Land), vs = [.ref p, .ref t, .int n] ∧ LsD H p ls ∧ Tu H t (l3 l) ∧ ls.length ≤ 500 ∧ ∀ H' q, Same H H' → H q = none → LsD H' q (lawSplit ls l n) → Q (.ref q) H'
theorem walk_lands {p : Addr} {ps : List Addr} {ls : List Land} (h : (ps.map V.ref).length = ls.length) : Walk (Itl K p) ls.length (fun H' => SqL K H' p (ps.map V.ref)) (YAt (ps.map V.ref)) := by
  have := walk_list (K := K) (a := p) (xs := ps.map V.ref)
  rw [h] at this
  exact this
theorem ok_split (T : Tx K mg) : FnOk P w K mg base CX0 1 T.split.f T.split.fd ["_law_lands_here", "_law_land", "_law_new"] spSplit := by
  refine okN T.split.F scSplit (fun vs H Q E h => ?_) (fun cdv A outer s0 H vs Q E hr h => ?_)
  · obtain ⟨p, t, n, ls, l, rfl, _⟩ := h
    rfl
  · obtain ⟨p, t, n, ls, ⟨a, b, c⟩, rfl, ⟨ps, hl, hp⟩, ht, h500, q⟩ := h
    have nd := scSplit.nd
    have hu := hu_of hr
    refine ⟨_, pss_cons (ps_asg (pv 1) (pg_tupU (n := 3) rfl (pgs_cons (pg_name (i := 3) nd rfl (.inl rfl)) (pgs_cons (pg_name (i := 4) nd rfl (.inl rfl)) (pgs_cons (pg_name (i := 5) nd rfl (.inl rfl)) pgs_nil)))))
      (pss_one (ps_ret (pe_op op_catL (pe_lcA (own := [("_law_each", 6)]) (g := gName 6) rfl nd (pi_list (pv 0)) (blkOk_by (N := ["_law_lands_here", "_law_land", "_law_new", "_law_one", "_law_two", "_law_three", "_law_each"]) (sc := defScope sSplit) (by decide +kernel)) (fun _ _ _ _ _ => pg_name (i := 6) nd rfl (.inl rfl))
        (fun _ _ _ _ _ => pts_one (pt_cmpR (op_neTu hu) (pv 6) (pv 1) rfl)) (fun _ _ _ _ _ => pv 6))
        (pe_lstA (pa_cons (pe_tupD (pa_cons (pv 3) (pa_cons (pv 4) (pa_cons (pv 2) pa_nil)))) (pa_cons (pe_tupD (pa_cons (pv 4) (pa_cons (pv 5) (pa_cons (pv 2) pa_nil)))) (pa_cons (pe_tupD (pa_cons (pv 5) (pa_cons (pv 3) (pa_cons (pv 2) pa_nil)))) pa_nil))))))), ?_⟩
    have hlen := tuD_len hp
    refine ⟨_, rfl, t, _, rfl, ht, rfl, _, _, rfl, _, _, rfl, _, _, rfl, rfl, ?_⟩
    refine ⟨_, rfl, p, rfl, ⟨_, .inl (.inl hl)⟩, ?_⟩
    refine ⟨Land, ls, fun x => decide (x ≠ (a, b, c)), fun l y H' => ∃ q, y = V.ref q ∧ TuD H' q (l3 l), _, _, walk_lands hlen, sz_lt (by omega), fun H' e' => .inl (.inl (e' _ _ hl)), fun d y H' H'' ex ⟨q, h1, h2⟩ => ⟨q, h1, h2.ext ex⟩, ?_, ?_⟩
    · rintro i l x H2 H3 hd e2 ⟨rfl, hx⟩
      obtain ⟨r, l', rfl, hli, tr⟩ := tuD_at hp hx
      rw [hd] at hli
      cases hli
      have tr' := tr.mono e2
      refine ⟨rfl, _, rfl, _, rfl, r, t, l3 l, l3 (a, b, c), rfl, rfl, tr'.tu, ht.mono e2, _, rfl, ?_, ?_⟩
      · exact decide_eq_decide.mpr (not_congr ⟨l3_inj, fun h => h ▸ rfl⟩)
      · exact ifB rfl (fun _ => ⟨_, rfl, Same.refl _, r, rfl, tr'⟩) (fun _ => Same.refl _)
    · intro D ys H7 nD e7 hD hpr
      obtain ⟨rs, rfl, hr2⟩ := tuD_refs (f := l3) hpr
      refine ⟨_, rfl, _, rfl, _, rfl, s3, fun p1 o1 H8 n8 e8 ho1 hc1 h1 => ?_⟩
      refine ⟨_, rfl, _, rfl, _, rfl, s3, fun p2 o2 H9 n9 e9 ho2 hc2 h2 => ?_⟩
      refine ⟨_, rfl, _, rfl, _, rfl, s3, fun p3 o3 H10 n10 e10 ho3 hc3 h3 => ⟨s3, fun l2 H11 n11 e11 h11 => ?_⟩⟩
      have e711 : Same H7 H11 := e8.trans (e9.trans (e10.trans e11))
      have hl2 := tuD_len hr2
      refine ⟨D, l2, _, _, rfl, rfl, e711 _ _ hD, h11, ?_, fun q2 H12 n12 e12 h12 => ?_⟩
      · rw [hl2]
        refine sz_of (Nat.le_trans (Nat.add_le_add_right (List.length_filter_le _ _) _) ?_)
        simp only [List.length_cons, List.length_nil]
        omega
      have e712 := e711.trans e12
      refine q H12 q2 (e7.trans e712) (Same.none (e7.trans e711) n12) ⟨rs ++ [p1, p2, p3], by rw [h12, List.map_append]; rfl, lsD_app (Paired_mono (fun _ _ z => TuD.mono e712 z) hr2) ?_⟩
      exact .cons ⟨o1, e12 _ _ (e11 _ _ (e10 _ _ (e9 _ _ h1))), ho1, hc1⟩ (.cons ⟨o2, e12 _ _ (e11 _ _ (e10 _ _ h2)), ho2, hc2⟩ (.cons ⟨o3, e12 _ _ (e11 _ _ h3), ho3, hc3⟩ .nil))
/-! the other tie -/
theorem scOtherTie : FnScope ["_law_lands_here", "_law_one", "_law_other", "_law_third_here", "_law_fourth", "_law_land"] ["_law_lands_here", "_law_one", "_law_other"] (defScope sOtherTie) := ⟨rfl, rfl, rfl, by decide +kernel, rfl, by decide +kernel, by decide +kernel⟩
def spOtherTie : Sp := fun vs H Q _ => ∃ (p : Addr) (a b : Int) (ls : List Land), vs = [.ref p, .int a, .int b] ∧ LsD H p ls ∧ ls.length ≤ 500 ∧ (∀ H', Same H H' → Q .non H') ∧
  ∀ c d, third (ways ls) a b = some c → third (ways ls) b a = some d → (∀ l ∈ ls, ¬ (c ∈ l3 l ∧ d ∈ l3 l)) → ∀ H' q, Same H H' → H q = none → LsD H' q (lawFlip ls a b c d) → Q (.ref q) H'
theorem ok_otherTie (T : Tx K mg) : FnOk P w K mg base CX0 2 T.otherTie.f T.otherTie.fd ["_law_lands_here", "_law_one", "_law_other"] spOtherTie := by
  refine okN T.otherTie.F scOtherTie (fun vs H Q E h => ?_) (fun cdv A outer s0 H vs Q E hr h => ?_)
  · obtain ⟨p, a, b, ls, rfl, _⟩ := h
    rfl
  · obtain ⟨p, a, b, ls, rfl, hL, h500, q1, q2⟩ := h
    have nd := scOtherTie.nd
    have hu := hu_of hr
    have hu64 := hr.units
    have hu2 : (A.deeper (envOfC (Str.ofString "_law_other_tie") (defScope sOtherTie) s0.heap.objs.size T.otherTie.f cdv)).units + 2 < cLine := by omega
    refine ⟨_, pss_cons (ps_asg (pe_tupA (pa_cons (pcall T.third (ok_third T) hr (pa_cons (pv 0) (pa_cons (pv 1) (pa_cons (pv 2) pa_nil)))) (pa_cons (pcall T.third (ok_third T) hr (pa_cons (pv 0) (pa_cons (pv 2) (pa_cons (pv 1) pa_nil)))) pa_nil))) (pg_tupU (n := 2) rfl (pgs_cons (pg_name (i := 3) nd rfl (.inr rfl)) (pgs_cons (pg_name (i := 4) nd rfl (.inr rfl)) pgs_nil))))
      (pss_cons (ps_if (PW.pt (pw_or (pt_cmpR op_isN (pv 3) pe_non (nomark _)) (pw_or (pt_cmpR op_isN (pv 4) pe_non (nomark _)) (pw_or1 (pt_cmpR (op_neLT hu2) (pe_lcA (own := [("_law_land", 5)]) (g := gName 5) rfl nd (pi_list (pv 0)) (blkOk_by (N := ["_law_lands_here", "_law_one", "_law_other", "_law_third_here", "_law_fourth", "_law_land"]) (sc := defScope sOtherTie) (by decide +kernel)) (fun _ _ _ _ _ => pg_name (i := 5) nd rfl (.inl rfl))
          (fun _ _ _ _ _ => pts_one (PW.pt (pw_and (pt_cmpR (op_inTu hu) (pv 3) (pv 5) rfl) (pw_and1 (pt_cmpR (op_inTu hu) (pv 4) (pv 5) rfl))))) (fun _ _ _ _ _ => pv 5)) (pe_lstA pa_nil) (nomark _)))))) (pss_one (ps_ret pe_non)) pss_nil)
      (pss_one (ps_ret (pe_op op_catL (pe_lcA (own := [("_law_land", 5)]) (g := gName 5) rfl nd (pi_list (pv 0)) (blkOk_by (N := ["_law_lands_here", "_law_one", "_law_other", "_law_third_here", "_law_fourth", "_law_land"]) (sc := defScope sOtherTie) (by decide +kernel)) (fun _ _ _ _ _ => pg_name (i := 5) nd rfl (.inl rfl))
          (fun _ _ _ _ _ => pts_one (PW.pt (pw_or (pt_cmpR (op_notInTu hu) (pv 1) (pv 5) rfl) (pw_or1 (pt_cmpR (op_notInTu hu) (pv 2) (pv 5) rfl))))) (fun _ _ _ _ _ => pv 5))
        (pe_lstA (pa_cons (pe_tupD (pa_cons (pv 3) (pa_cons (pv 1) (pa_cons (pv 4) pa_nil)))) (pa_cons (pe_tupD (pa_cons (pv 4) (pa_cons (pv 2) (pa_cons (pv 3) pa_nil)))) pa_nil))))))), ?_⟩
    refine ⟨_, rfl, _, rfl, _, rfl, p, a, b, ls, rfl, hL.seq, fun H1 e1 => ?_⟩
    refine ⟨_, rfl, _, rfl, _, rfl, p, b, a, ls, rfl, (hL.mono e1).seq, fun H2 e2 => ⟨s2, fun t H3 n3 e3 h3 => ?_⟩⟩
    have e03 := (e1.trans e2).trans e3
    refine ⟨t, _, rfl, .inl h3, rfl, _, _, rfl, _, _, rfl, rfl, ?_⟩
    cases hc : third (ways ls) a b with
    | none => exact ⟨_, rfl, rfl, _, rfl, iteT (q1 H3 e03)⟩
    | some c =>
      refine ⟨_, rfl, rfl, _, rfl, iteF ?_⟩
      cases hd : third (ways ls) b a with
      | none => exact ⟨_, rfl, rfl, _, rfl, iteT (q1 H3 e03)⟩
      | some d =>
        refine ⟨_, rfl, rfl, _, rfl, iteF ?_⟩
        have hL3 := hL.mono e03
        obtain ⟨ps, hl, hp⟩ := hL3
        have hlen := tuD_len hp
        refine ⟨_, rfl, p, rfl, ⟨_, .inl (.inl hl)⟩, ?_⟩
        refine ⟨Land, ls, fun l => decide (c ∈ l3 l) && decide (d ∈ l3 l), fun l y H' => ∃ q, y = V.ref q ∧ TuD H' q (l3 l), _, _, walk_lands hlen, sz_lt (by omega), fun H' e' => .inl (.inl (e' _ _ hl)), fun d y H' H'' ex ⟨q, h1, h2⟩ => ⟨q, h1, h2.ext ex⟩, ?_, ?_⟩
        · rintro i l x H4 H5 hi e4 ⟨rfl, hx⟩
          obtain ⟨r, l', rfl, hli, tr⟩ := tuD_at hp hx
          rw [hi] at hli
          cases hli
          have tr' := tr.mono e4
          refine ⟨rfl, _, rfl, _, rfl, c, r, l3 l, rfl, rfl, tr'.tu, _, rfl, ?_⟩
          refine ifB rfl (fun h1 => ?_) (fun h1 => ?_)
          · refine ⟨_, rfl, _, rfl, d, r, l3 l, rfl, rfl, tr'.tu, _, rfl, by show decide (d ∈ l3 l) = (decide (c ∈ l3 l) && decide (d ∈ l3 l)); rw [h1]; rfl, ?_⟩
            exact ifB rfl (fun _ => ⟨_, rfl, Same.refl _, r, rfl, tr'⟩) (fun _ => Same.refl _)
          · exact ⟨by show false = (decide (c ∈ l3 l) && decide (d ∈ l3 l)); rw [h1]; rfl, ifF rfl (Same.refl _)⟩
        · intro D ys H7 nD e7 hD hpr
          obtain ⟨rs, rfl, hr2⟩ := tuD_refs (f := l3) hpr
          refine ⟨by decide, fun em H8 n8 e8 h8 => ⟨D, em, rs, [], _, [], rfl, rfl, .inl (e8 _ _ hD), (tuD_tus hr2).mono e8, .inl h8, .nil, _, rfl, ?_⟩⟩
          have e08 := e03.trans (e7.trans e8)
          refine ifB rfl (fun _ => q1 H8 e08) (fun hno => ?_)
          have hno' : ∀ l ∈ ls, ¬ (c ∈ l3 l ∧ d ∈ l3 l) := by
            intro l hl2 ⟨h1, h2⟩
            have : ls.filter (fun l => decide (c ∈ l3 l) && decide (d ∈ l3 l)) = [] := by simpa using hno
            have hm : l ∈ ls.filter (fun l => decide (c ∈ l3 l) && decide (d ∈ l3 l)) := List.mem_filter.mpr ⟨hl2, by simp [h1, h2]⟩
            rw [this] at hm
            cases hm
          have e38 := e7.trans e8
          have hl8 := e38 _ _ hl
          have hp8 := Paired_mono (fun _ _ z => TuD.mono e38 z) hp
          refine ⟨_, rfl, p, rfl, ⟨_, .inl (.inl hl8)⟩, ?_⟩
          refine ⟨Land, ls, fun l => decide (a ∉ l3 l) || decide (b ∉ l3 l), fun l y H' => ∃ q, y = V.ref q ∧ TuD H' q (l3 l), _, _, walk_lands hlen, sz_lt (by omega), fun H' e' => .inl (.inl (e' _ _ hl8)), fun d y H' H'' ex ⟨q, h1, h2⟩ => ⟨q, h1, h2.ext ex⟩, ?_, ?_⟩
          · rintro i l x H4 H5 hi e4 ⟨rfl, hx⟩
            obtain ⟨r, l', rfl, hli, tr⟩ := tuD_at hp8 hx
            rw [hi] at hli
            cases hli
            have tr' := tr.mono e4
            refine ⟨rfl, _, rfl, _, rfl, a, r, l3 l, rfl, rfl, tr'.tu, _, rfl, ?_⟩
            refine ifB rfl (fun h1 => ?_) (fun h1 => ?_)
            · exact ⟨by show true = (decide (a ∉ l3 l) || decide (b ∉ l3 l)); rw [h1]; rfl, ⟨_, rfl, Same.refl _, r, rfl, tr'⟩⟩
            · refine ⟨_, rfl, _, rfl, b, r, l3 l, rfl, rfl, tr'.tu, _, rfl, by show decide (b ∉ l3 l) = (decide (a ∉ l3 l) || decide (b ∉ l3 l)); rw [h1]; rfl, ?_⟩
              exact ifB rfl (fun _ => ⟨_, rfl, Same.refl _, r, rfl, tr'⟩) (fun _ => Same.refl _)
          · intro D2 ys2 H9 nD2 e9 hD2 hpr2
            obtain ⟨rs2, rfl, hr3⟩ := tuD_refs (f := l3) hpr2
            refine ⟨_, rfl, _, rfl, _, rfl, s3, fun p1 o1 H10 n10 e10 ho1 hc1 h1 => ?_⟩
            refine ⟨_, rfl, _, rfl, _, rfl, s3, fun p2 o2 H11 n11 e11 ho2 hc2 h2 => ⟨s2, fun l2 H12 n12 e12 h12 => ?_⟩⟩
            have e912 : Same H9 H12 := e10.trans (e11.trans e12)
            have hl2 := tuD_len hr3
            refine ⟨D2, l2, _, _, rfl, rfl, e912 _ _ hD2, h12, ?_, fun q3 H13 n13 e13 h13 => ?_⟩
            · rw [hl2]
              refine sz_of (Nat.le_trans (Nat.add_le_add_right (List.length_filter_le _ _) _) ?_)
              simp only [List.length_cons, List.length_nil]
              omega
            have e913 := e912.trans e13
            have e0 := e08.trans (e9.trans e912)
            refine q2 c d hc hd hno' H13 q3 (e0.trans e13) (Same.none e0 n13) ⟨rs2 ++ [p1, p2], by rw [h13, List.map_append]; rfl, lsD_app (Paired_mono (fun _ _ z => TuD.mono e913 z) hr3) ?_⟩
            exact .cons ⟨o1, e13 _ _ (e12 _ _ (e11 _ _ h1)), ho1, hc1⟩ (.cons ⟨o2, e13 _ _ (e12 _ _ h2), ho2, hc2⟩ .nil)
end
end MF
end
section
set_option Elab.async false
set_option linter.all false
set_option maxRecDepth 100000
set_option maxHeartbeats 4000000
namespace MF
open PySem PySem.Spec PyProof.Rows L2
section
variable {P : Program} {w : World} {K : PySem.W.Frag} {mg : Str → Option Value} {base : Heap}
theorem scFrame : FnScope ["_law_lands_here", "_law_after", "_law_land", "_law_at", "_law_found"] ["_law_lands_here"] (defScope sFrame) := ⟨rfl, rfl, rfl, by decide +kernel, rfl, by decide +kernel, by decide +kernel⟩
def spFrame : Sp := fun vs H Q _ => ∃ (p : Addr) (ls : List Land) (r : List Int), vs = [.ref p] ∧ LsD H p ls ∧ ls.length ≤ 500 ∧ IsRing (ways ls) r ∧ Base (Tr (ways ls)) ∧ ∀ H' q, Same H H' → TuX H' q r → Q (.ref q) H'
/-- what the dict of followers holds -/
structure Aft (W : List Land) (D : List Land) (l : List (Int × V)) : Prop where
  val : ∀ v x, valV l v = some x → ∃ o, x = .int o ∧ Rim W v o
  key : ∀ u v z, (u, v, z) ∈ D → Rim W z u → z ∈ l.map (·.1)
theorem ok_frame (T : Tx K mg) : FnOk P w K mg base CX0 2 T.frame.f T.frame.fd ["_law_lands_here"] spFrame := by
  refine okN T.frame.F scFrame (fun vs H Q E h => ?_) (fun cdv A outer s0 H vs Q E hr h => ?_)
  · obtain ⟨p, ls, r, rfl, _⟩ := h
    rfl
  · obtain ⟨p, ls, r, rfl, hL, h500, hR, B, q⟩ := h
    have nd := scFrame.nd
    have hu := hu_of hr
    obtain ⟨ps, hl, hp⟩ := hL
    have ht := tuD_tus hp
    have hlen := tuD_len hp
    refine ⟨_, pss_cons (ps_set (i := 1) nd rfl (.inl rfl) pe_dnewKA)
      (pss_cons (ps_for PassesOwn.never rfl (pi_list (pv 0)) (pg_name (i := 2) nd rfl (.inl rfl))
        (pss_one (ps_for PassesOwn.never rfl (pi_range1 (by rfl) T.range_ (pa_cons pe_int pa_nil)) (pg_name (i := 3) nd rfl (.inl rfl))
          (pss_one (ps_if (pt_cmpR op_isN (pcall T.third (ok_third T) hr (pa_cons (pv 0) (pa_cons (pe_ixU (pv 2) (pv 3) (fun _ _ => rfl)) (pa_cons (pe_ixU (pv 2) (pe_sub (pv 3) pe_int) (fun _ _ => rfl)) pa_nil)))) pe_non (nomark _))
            (pss_one (ps_dput hu (pv 1) (pe_ixU (pv 2) (pe_sub (pv 3) pe_int) (fun _ _ => rfl)) (pe_ixU (pv 2) (pv 3) (fun _ _ => rfl)) rfl)) pss_nil)))))
      (pss_cons (ps_set (i := 4) nd rfl (.inl rfl) (pe_lstA (pa_cons (pe_callB (cr_minKI rfl hu) (by rfl) T.min_ (by decide +kernel) (pa_cons (pv 1) pa_nil)) pa_nil)))
      (pss_cons (ps_while PassesOwn.never (pt_cmp (pc_neI (pe_dget hu (pv 1) (pe_ixU (pv 4) (pe_un un_neg pe_int) (fun _ _ => rfl)) (fun _ _ => rfl)) (pe_ixU (pv 4) pe_int (fun _ _ => rfl))))
        (pss_one (ps_expr (pe_bm PySem.F.plainAttrs_list PySem.F.slot_list_append PySem.F.type_list_append mt_append (pv 4) (pa_cons (pe_dget hu (pv 1) (pe_ixU (pv 4) (pe_un un_neg pe_int) (fun _ _ => rfl)) (fun _ _ => rfl)) pa_nil)))))
      (pss_one (ps_ret (pe_tupleU T.tuple_ (pa_cons (pv 4) pa_nil))))))), ?_⟩
    intro D Hd nD eD hD
    refine ⟨_, rfl, p, rfl, ⟨_, .inl (.inl (eD _ _ hl))⟩, ?_⟩
    refine for_it (walk_lands hlen) (fun i σ' H' => ∃ y2 y3, σ' = [some (.ref p), some (.ref D), y2, y3, none] ∧ Same H H' ∧ ∃ l, H' D = some (.dK (iK l)) ∧ Aft (ways ls) (ways (ls.take i)) l ∧ l.length ≤ 3 * i) ⟨none, none, rfl, eD, [], hD, ⟨fun v x hx => (by cases hx), fun u v z hm => (by simp [ways] at hm)⟩, Nat.le_refl _⟩ (fun i σ' H' _ ⟨_, _, _, e, _⟩ => .inl (.inl (e _ _ hl))) ?_ ?_
    · rintro i x σ' H1 H2 hi ⟨y2, y3, rfl, e, l, hl1, ha, hz⟩ ⟨rfl, hx⟩
      obtain ⟨t, ld, rfl, hld, tu⟩ := tus_at ht hx
      refine ⟨3, rfl, by omega, by omega, ?_⟩
      refine for_it walk_range0 (fun j σ' H' => ∃ y3, σ' = [some (.ref p), some (.ref D), some (.ref t), y3, none] ∧ Same H H' ∧ ∃ l, H' D = some (.dK (iK l)) ∧ Aft (ways ls) (ways (ls.take i) ++ (ways1 ld).take j) l ∧ l.length ≤ 3 * i + j) ⟨y3, rfl, e, l, hl1, by simpa using ha, by omega⟩ (fun _ _ _ _ _ => trivial) ?_ ?_
      · rintro j x σ' H3 H4 hj ⟨y3, rfl, e3, l', hl', ha', hz'⟩ ⟨rfl, rfl⟩
        obtain ⟨u, v, z, hw, a1, a2, a3⟩ := l3_way (l := ld) hj
        have tu3 := tu.mono e3
        have hmem : (u, v, z) ∈ ways ls := List.mem_flatMap.mpr ⟨ld, List.mem_of_getElem? hld, List.mem_of_getElem? hw⟩
        refine ⟨_, rfl, _, rfl, _, rfl, t, _, _, _, rfl, rfl, .inl tu3, a1, _, rfl, _, rfl, _, 1, rfl, rfl, t, _, _, _, rfl, rfl, .inl tu3, a3, ?_⟩
        refine ⟨p, u, z, ls, rfl, (LsD.mono e3 ⟨ps, hl, hp⟩).seq, fun H5 e5 => ⟨rfl, _, rfl, ?_⟩⟩
        have e05 := e3.trans e5
        have hl5 := e5 _ _ hl'
        cases hth : third (ways ls) u z with
        | some y =>
          refine iteF ⟨_, rfl, e05, l', hl5, ⟨ha'.val, fun u' v' z' hm hr' => ?_⟩, by omega⟩
          rw [List.take_succ, hw, ← List.append_assoc, List.mem_append] at hm
          rcases hm with hm | hm
          · exact ha'.key u' v' z' hm hr'
          · simp at hm
            obtain ⟨rfl, rfl, rfl⟩ := hm
            have := hr'.2
            rw [hth] at this
            cases this
        | none =>
          have hrim : Rim (ways ls) z u := ⟨⟨v, B.cyc2 hmem⟩, hth⟩
          have tu5 := tu.mono e05
          refine iteT ⟨_, rfl, _, rfl, t, _, _, _, rfl, rfl, .inl tu5, a1, _, rfl, _, rfl, _, rfl, _, 1, rfl, rfl, t, _, _, _, rfl, rfl, .inl tu5, a3, D, _, rfl, .inl ⟨iK l', .inl z, hl5, rfl, ?_, rfl⟩, ?_⟩
          · rw [show (iK l').length = l'.length by simp [iK]]
            have : i < ls.length := (List.getElem?_eq_some_iff.mp hld).1
            exact sz_lt (by omega)
          refine ⟨_, rfl, Same.mut e05 nD, putK l' z (.int u), by rw [upd_same, putK_iK], ⟨fun v' x hx => ?_, fun u' v' z' hm hr' => ?_⟩, Nat.le_trans (putK_most _ _ _) (by omega)⟩
          · rw [valV_put] at hx
            by_cases hva : v' = z
            · rw [if_pos hva] at hx
              cases hx
              exact ⟨u, rfl, hva ▸ hrim⟩
            · rw [if_neg hva] at hx
              exact ha'.val v' x hx
          · rw [List.take_succ, hw, ← List.append_assoc, List.mem_append] at hm
            rw [putK_keys]
            have hz2 : z' ∈ l'.map (·.1) ∨ z' = z := by
              rcases hm with hm | hm
              · exact .inl (ha'.key u' v' z' hm hr')
              · simp at hm
                exact .inr hm.2.2
            by_cases hin : z ∈ l'.map (·.1)
            · rw [if_pos hin]
              rcases hz2 with h | rfl
              · exact h
              · exact hin
            · rw [if_neg hin]
              rcases hz2 with h | rfl
              · exact List.mem_append_left _ h
              · exact List.mem_append_right _ (by simp)
      · rintro σ' H3 ⟨y3, rfl, e3, l', hl', ha', hz'⟩
        refine ⟨_, _, rfl, e3, l', hl', ?_, by omega⟩
        rw [take_snoc hld, ways_snoc]
        exact ha'
    · rintro σ' H3 ⟨y2, y3, rfl, e2, l, hl3, ha, hz⟩
      rw [List.take_of_length_le (Nat.le_refl _)] at ha
      have nxt : ∀ {i : Nat} {v : Int}, r[i]? = some v → ∃ o, valV l v = some (.int o) ∧ r[(i + 1) % r.length]? = some o := by
        intro i v hi
        have hlt : (i + 1) % r.length < r.length := Nat.mod_lt _ (List.length_pos_iff.mpr hR.ne)
        obtain ⟨o, ho⟩ : ∃ o, r[(i + 1) % r.length]? = some o := ⟨_, List.getElem?_eq_getElem hlt⟩
        have hrim := (hR.rim v o).mpr ⟨i, hi, ho⟩
        obtain ⟨c, hc⟩ := hrim.1
        obtain ⟨x, hx⟩ := valV_some (ha.key o c v (B.cyc hc) hrim)
        obtain ⟨o', rfl, hr2⟩ := ha.val v x hx
        obtain ⟨j, hj, hj2⟩ := (hR.rim v o').mp hr2
        have hij : i = j := (List.getElem?_inj (List.getElem?_eq_some_iff.mp hi).1 hR.nd).mp (hi.trans hj.symm)
        subst hij
        exact ⟨o', hx, hj2⟩
      have keys : ∀ v, v ∈ l.map (·.1) → ∃ i, r[i]? = some v := fun v hm => by
        obtain ⟨x, hx⟩ := valV_some hm
        obtain ⟨o, rfl, hr2⟩ := ha.val v x hx
        obtain ⟨i, hi, _⟩ := (hR.rim v o).mp hr2
        exact ⟨i, hi⟩
      have keys' : ∀ {i v}, r[i]? = some v → v ∈ l.map (·.1) := fun {i v} hi => by
        obtain ⟨o, ho, _⟩ := nxt hi
        exact valV_in ho
      obtain ⟨r0, rt, hr0⟩ : ∃ r0 rt, r = r0 :: rt := by
        cases r with
        | nil => exact absurd rfl hR.ne
        | cons a b => exact ⟨a, b, rfl⟩
      have h00 : r[0]? = some r0 := by rw [hr0]; rfl
      refine ⟨_, rfl, D, iK l, l.map (·.1), rfl, .inl hl3, iK_keys l, List.ne_nil_of_mem (keys' h00), fun m hm => ⟨s1, fun fl H4 n4 e4 h4 => ?_⟩⟩
      have hm0 : m = r0 := by
        obtain ⟨i, hi⟩ := keys m hm.1
        have h1 := hR.least m (List.mem_of_getElem? hi) r0 h00
        have h2 := hm.2 r0 (keys' h00)
        omega
      subst hm0
      refine while_m (fun n σ' H' => ∃ k last, r[k]? = some last ∧ σ' = [some (.ref p), some (.ref D), y2, y3, some (.ref fl)] ∧ Same H3 H' ∧ H' fl = some (.lst ((r.take k ++ [last]).map V.int)) ∧ n = r.length - k) r.length ⟨0, m, h00, rfl, e4, h4, rfl⟩ ?_
      rintro n σ' H' ⟨k, last, hk0, rfl, e', hf, rfl⟩
      have hkl := (List.getElem?_eq_some_iff.mp hk0).1
      have htk : r.take k ++ [last] = r.take (k + 1) := (take_snoc hk0).symm
      have hfirst : atI ((r.take k ++ [last]).map V.int) 0 = some (.int m) := by
        rw [htk, hr0]
        exact atI_nat (j := 0) rfl
      obtain ⟨o, ho, ho2⟩ := nxt hk0
      have hgD : DGet H' D (.int last) (some (.int o)) := .inl ⟨iK l, .inl last, .inl (e' _ _ hl3), rfl, by rw [valV_iK, ho]⟩
      refine ⟨_, rfl, _, rfl, 1, rfl, fl, _, _, _, rfl, rfl, .inr (.inl hf), atI_lastM, D, .int o, rfl, hgD, ?_⟩
      refine ⟨_, rfl, fl, _, 0, .int m, rfl, rfl, .inr (.inl hf), hfirst, o, m, rfl, rfl, _, rfl, ?_⟩
      by_cases hc : o = m
      · refine ifF (by simp [hc]) ⟨_, rfl, fl, _, rfl, .inl ⟨.inl hf, fun t H5 e5 h5 => q H5 t ((e2.trans e').trans e5) ?_⟩⟩
        show H5 t = some (.tup (r.map V.int))
        rw [h5, htk]
        have hkk : k + 1 = r.length := by
          have hlt : (k + 1) % r.length < r.length := Nat.mod_lt _ (by omega)
          have h0 : r[(k + 1) % r.length]? = r[0]? := by rw [ho2, h00, hc]
          have := (List.getElem?_inj hlt hR.nd).mp h0
          rcases Nat.lt_or_ge (k + 1) r.length with h | h
          · rw [Nat.mod_eq_of_lt h] at this
            omega
          · omega
        rw [hkk, List.take_length]
      · refine ifT (by simp [hc]) ⟨fun σ' H' => ∃ n' < r.length - k, ∃ k last, r[k]? = some last ∧ σ' = [some (.ref p), some (.ref D), y2, y3, some (.ref fl)] ∧ Same H3 H' ∧ H' fl = some (.lst ((r.take k ++ [last]).map V.int)) ∧ n' = r.length - k, fun σ' H' ⟨n', h1, h2⟩ => ⟨n', h1, h2⟩, ?_⟩
        refine ⟨_, rfl, .inl ⟨rfl, _, .inl (.inl hf)⟩, _, rfl, _, rfl, 1, rfl, fl, _, _, _, rfl, rfl, .inr (.inl hf), atI_lastM, D, .int o, rfl, hgD, fl, _, _, rfl, rfl, hf, ?_, ?_⟩
        · rw [List.length_map, htk, List.length_take]
          have : r.length ≤ 3 * ls.length := by
            have h1 := nodup_len_le (ys := l.map (·.1)) hR.nd fun x hx => by
              obtain ⟨i, hi, rfl⟩ := List.mem_iff_getElem.mp hx
              exact keys' (List.getElem?_eq_getElem hi)
            rw [List.length_map] at h1
            omega
          exact sz_lt (by omega)
        · have hkk : k + 1 < r.length := by
            rcases Nat.lt_or_ge (k + 1) r.length with h | h
            · exact h
            · have : k + 1 = r.length := by omega
              rw [this, Nat.mod_self, h00] at ho2
              exact absurd (Option.some.inj ho2).symm hc
          rw [Nat.mod_eq_of_lt hkk] at ho2
          refine ⟨r.length - (k + 1), by omega, k + 1, o, ho2, rfl, Same.mut e' n4, ?_, rfl⟩
          rw [upd_same, htk, List.map_append]
          rfl
end
end MF
end
section
set_option linter.all false
set_option maxRecDepth 100000
namespace MF
/-! Good under a new dot and under another tie -/
theorem rim_bd {W : List Land} {v o : Int} : Rim W v o ↔ Bd (Tr W) v o := by
  unfold Rim Bd
  rw [third_none]
theorem IsRing.of_bd {W W' : List Land} {r : List Int} (h : IsRing W r) (e : ∀ x y, Bd (Tr W') x y ↔ Bd (Tr W) x y) : IsRing W' r :=
  ⟨h.ne, h.nd, fun v o => by rw [rim_bd, e, ← rim_bd]; exact h.rim v o, h.least⟩
theorem way1_r3 {a b c x y z : Int} : (x, y, z) ∈ ways1 (a, b, c) ↔ R3 a b c x y z := by
  simp [ways1, R3]
theorem mem_ways_r3 {ls : List Land} {x y z : Int} : (x, y, z) ∈ ways ls ↔ ∃ l ∈ ls, R3 l.1 l.2.1 l.2.2 x y z := by
  unfold ways
  rw [List.mem_flatMap]
  constructor
  · rintro ⟨⟨a, b, c⟩, hl, h⟩
    exact ⟨_, hl, way1_r3.mp h⟩
  · rintro ⟨⟨a, b, c⟩, hl, h⟩
    exact ⟨_, hl, way1_r3.mpr h⟩
/-- one way, one land -/
theorem uniq_land : ∀ {ls : List Land}, ((ways ls).map key).Nodup → ∀ {l l' : Land}, l ∈ ls → l' ∈ ls → ∀ {w w' : Land}, w ∈ ways1 l → w' ∈ ways1 l' → key w = key w' → l = l'
  | [], _, l, l', h, _, _, _, _, _, _ => by cases h
  | x :: ls, hn, l, l', h, h', w, w', hw, hw', e => by
    rw [show ways (x :: ls) = ways1 x ++ ways ls from rfl, List.map_append, List.nodup_append] at hn
    have sep : ∀ {m : Land}, m ∈ ls → ∀ {u u' : Land}, u ∈ ways1 x → u' ∈ ways1 m → key u ≠ key u' := fun {m} hm {u u'} hu hu' =>
      hn.2.2 _ (List.mem_map.mpr ⟨u, hu, rfl⟩) _ (List.mem_map.mpr ⟨u', List.mem_flatMap.mpr ⟨m, hm, hu'⟩, rfl⟩)
    rcases List.mem_cons.mp h with e1 | g1
    · rcases List.mem_cons.mp h' with e2 | g2
      · rw [e1, e2]
      · exact absurd e (sep g2 (e1 ▸ hw) hw')
    · rcases List.mem_cons.mp h' with e2 | g2
      · exact absurd e.symm (sep g1 (e2 ▸ hw') hw)
      · exact uniq_land hn.2.1 g1 g2 hw hw' e
theorem ways_sublist {ls : List Land} (p : Land → Bool) : (ways (ls.filter p)).Sublist (ways ls) := by
  induction ls with
  | nil => exact List.Sublist.refl _
  | cons x ls ih =>
    rw [List.filter_cons]
    split
    · exact List.Sublist.append (List.Sublist.refl _) ih
    · exact ih.trans (List.sublist_append_right _ _)
theorem lands_nodup {ls : List Land} (h : ((ways ls).map key).Nodup) : ls.Nodup := by
  induction ls with
  | nil => exact List.nodup_nil
  | cons x ls ih =>
    rw [show ways (x :: ls) = ways1 x ++ ways ls from rfl, List.map_append, List.nodup_append] at h
    refine List.nodup_cons.mpr ⟨fun hx => ?_, ih h.2.1⟩
    have hx1 : x ∈ ways1 x := by simp [ways1]
    exact h.2.2 (key x) (List.mem_map.mpr ⟨x, hx1, rfl⟩) (key x) (List.mem_map.mpr ⟨x, List.mem_flatMap.mpr ⟨x, hx, hx1⟩, rfl⟩) rfl
theorem filter_length {α : Type} [DecidableEq α] {ls gone : List α} {keep : α → Bool} (hn : ls.Nodup) (hg : gone.Nodup) (h : ∀ x, x ∈ gone ↔ x ∈ ls ∧ keep x = false) : (ls.filter keep).length + gone.length = ls.length := by
  have e := filter_split keep ls
  have : (ls.filter fun x => !keep x).length = gone.length := len_of_mem' (hn.sublist List.filter_sublist) hg fun x => by
    rw [List.mem_filter, h]
    simp
  omega
theorem nodup_keys_app {ls ms : List Land} (h1 : ((ways ls).map key).Nodup) (h2 : ((ways ms).map key).Nodup) (h3 : ∀ x y c d, (x, y, c) ∈ ways ls → (x, y, d) ∈ ways ms → False) : ((ways (ls ++ ms)).map key).Nodup := by
  rw [show ways (ls ++ ms) = ways ls ++ ways ms by simp [ways], List.map_append, List.nodup_append]
  refine ⟨h1, h2, ?_⟩
  rintro ⟨x, y⟩ hx ⟨x', y'⟩ hy e
  cases e
  obtain ⟨c, hc⟩ := key_mem.mp hx
  obtain ⟨d, hd⟩ := key_mem.mp hy
  exact h3 x y c d hc hd
section
variable {ls : List Land} {n : Nat} {r : List Int} {a b c d : Int}
/-- the new dot in the land (a, b, c) -/
theorem Good.split (g : Good ls n r) (hl : (a, b, c) ∈ ls) {keep : Land → Bool} (hk : ∀ l ∈ ls, keep l = false ↔ l = (a, b, c)) (h58 : n + 1 ≤ 59) :
    Good (ls.filter keep ++ [(a, b, (n : Int)), (b, c, (n : Int)), (c, a, (n : Int))]) (n + 1) r := by
  have hT : (a, b, c) ∈ ways ls := mem_ways_of hl
  have hn : ∀ x y z, Tr (ways ls) x y z → x ≠ (n : Int) := fun x y z h e => by
    have := (g.dots x).mp ⟨y, z, h⟩
    omega
  have e : Tr (ways (ls.filter keep ++ [(a, b, (n : Int)), (b, c, (n : Int)), (c, a, (n : Int))])) = Split (Tr (ways ls)) a b c n := by
    funext x y z
    apply propext
    unfold Split
    show (x, y, z) ∈ ways _ ↔ _
    rw [mem_ways_r3]
    simp only [List.mem_append, List.mem_filter, List.mem_cons, List.not_mem_nil, or_false]
    constructor
    · rintro ⟨⟨u, v, w⟩, (⟨hm, hkp⟩ | hm), hr⟩
      · refine .inl ⟨mem_ways_r3.mpr ⟨_, hm, hr⟩, fun hr' => ?_⟩
        have : ((u, v, w) : Land) = (a, b, c) := uniq_land g.nd hm hl (way1_r3.mpr hr) (way1_r3.mpr hr') rfl
        have := (hk _ hm).mpr this
        rw [hkp] at this
        cases this
      · simp only [Prod.mk.injEq] at hm
        rcases hm with ⟨rfl, rfl, rfl⟩ | ⟨rfl, rfl, rfl⟩ | ⟨rfl, rfl, rfl⟩
        · exact .inr (.inl hr)
        · exact .inr (.inr (.inl hr))
        · exact .inr (.inr (.inr hr))
    · rintro (⟨h, hr⟩ | h | h | h)
      · obtain ⟨l, hm, hr'⟩ := mem_ways_r3.mp h
        refine ⟨l, .inl ⟨hm, ?_⟩, hr'⟩
        cases hkp : keep l with
        | true => rfl
        | false =>
          have := (hk l hm).mp hkp
          subst this
          exact absurd hr' hr
      · exact ⟨_, .inr (.inl rfl), h⟩
      · exact ⟨_, .inr (.inr (.inl rfl)), h⟩
      · exact ⟨_, .inr (.inr (.inr rfl)), h⟩
  have hab := g.B.ne hT
  have hbc := g.B.ne2 hT
  have hca := g.B.ne3 hT
  have na := hn _ _ _ hT
  have nb := hn _ _ _ (g.B.cyc hT)
  have nc := hn _ _ _ (g.B.cyc2 hT)
  refine { nd := ?_, B := e ▸ split_base g.B hT hn, C := e ▸ split_conn g.B g.C hT hn, L := e ▸ split_link g.B g.L hT hn, dots := fun x => ?_, ring := g.ring.of_bd fun x y => by rw [e]; exact split_bd g.B hT hn x y, num := ?_, r3 := g.r3, n59 := h58 }
  · refine nodup_keys_app (g.nd.sublist ((ways_sublist keep).map key)) ?_ ?_
    · simp [ways, ways1, key]
      grind
    · intro x y u w h1 h2
      have h1' : (x, y, u) ∈ ways ls := (ways_sublist keep).subset h1
      have hx := hn _ _ _ h1'
      have hy := hn _ _ _ (g.B.cyc h1')
      obtain ⟨l, hm, hr⟩ := mem_ways_r3.mp h1
      rw [List.mem_filter] at hm
      have key1 : ∀ z, R3 a b c x y z → False := fun z hz => by
        have : l = (a, b, c) := uniq_land g.nd hm.1 hl (w := (x, y, u)) (w' := (x, y, z)) (way1_r3.mpr hr) (way1_r3.mpr hz) rfl
        have := (hk l hm.1).mpr this
        rw [hm.2] at this
        cases this
      simp [ways, ways1] at h2
      rcases h2 with ⟨rfl, rfl, _⟩ | ⟨rfl, rfl, _⟩ | ⟨rfl, rfl, _⟩ | ⟨rfl, rfl, _⟩ | ⟨rfl, rfl, _⟩ | ⟨rfl, rfl, _⟩ | ⟨rfl, rfl, _⟩ | ⟨rfl, rfl, _⟩ | ⟨rfl, rfl, _⟩
      · exact key1 c (.inl ⟨rfl, rfl, rfl⟩)
      · exact hy rfl
      · exact hx rfl
      · exact key1 a (.inr (.inl ⟨rfl, rfl, rfl⟩))
      · exact hy rfl
      · exact hx rfl
      · exact key1 b (.inr (.inr ⟨rfl, rfl, rfl⟩))
      · exact hy rfl
      · exact hx rfl
  · show (∃ y z, Tr (ways _) x y z) ↔ _
    rw [e, split_dots g.B hT]
    have := g.dots x
    rw [show (∃ y z, Tr (ways ls) x y z) = (∃ b c, (x, b, c) ∈ ways ls) from rfl, this]
    omega
  · have := filter_length (keep := keep) (gone := [(a, b, c)]) (lands_nodup g.nd) (by simp) fun x => by
      rw [List.mem_singleton]
      constructor
      · rintro rfl
        exact ⟨hl, (hk _ hl).mpr rfl⟩
      · rintro ⟨h1, h2⟩
        exact (hk x h1).mp h2
    have := g.num
    simp at *
    omega
/-- the other tie -/
theorem Good.flip (g : Good ls n r) (h1 : (a, b, c) ∈ ways ls) (h2 : (b, a, d) ∈ ways ls) (hcd : c ≠ d) (m1 : ∀ z, (c, d, z) ∉ ways ls) (m2 : ∀ z, (d, c, z) ∉ ways ls) {keep : Land → Bool}
    (hk : ∀ l ∈ ls, keep l = false ↔ (R3 l.1 l.2.1 l.2.2 a b c ∨ R3 l.1 l.2.1 l.2.2 b a d)) : Good (ls.filter keep ++ [(c, a, d), (d, b, c)]) n r ∧ Tr (ways (ls.filter keep ++ [(c, a, d), (d, b, c)])) = Flip (Tr (ways ls)) a b c d := by
  have flipR : ∀ {p q s x y z : Int}, R3 p q s x y z → R3 x y z p q s := by
    intro p q s x y z h
    unfold R3 at *
    rcases h with ⟨rfl, rfl, rfl⟩ | ⟨rfl, rfl, rfl⟩ | ⟨rfl, rfl, rfl⟩ <;> simp
  have transR : ∀ {p q s u v w x y z : Int}, R3 p q s u v w → R3 u v w x y z → R3 p q s x y z := by
    intro p q s u v w x y z h k
    unfold R3 at *
    rcases h with ⟨rfl, rfl, rfl⟩ | ⟨rfl, rfl, rfl⟩ | ⟨rfl, rfl, rfl⟩ <;> rcases k with ⟨rfl, rfl, rfl⟩ | ⟨rfl, rfl, rfl⟩ | ⟨rfl, rfl, rfl⟩ <;> simp
  obtain ⟨l1, hl1, r1⟩ := mem_ways_r3.mp h1
  obtain ⟨l2, hl2, r2⟩ := mem_ways_r3.mp h2
  have e : Tr (ways (ls.filter keep ++ [(c, a, d), (d, b, c)])) = Flip (Tr (ways ls)) a b c d := by
    funext x y z
    apply propext
    unfold Flip
    show (x, y, z) ∈ ways _ ↔ _
    rw [mem_ways_r3]
    simp only [List.mem_append, List.mem_filter, List.mem_cons, List.not_mem_nil, or_false]
    constructor
    · rintro ⟨⟨u, v, w⟩, (⟨hm, hkp⟩ | hm), hr⟩
      · have hnot : ¬ (R3 u v w a b c ∨ R3 u v w b a d) := fun h => by
          have := (hk _ hm).mpr h
          rw [hkp] at this
          cases this
        exact .inl ⟨mem_ways_r3.mpr ⟨_, hm, hr⟩, fun hr' => hnot (.inl (transR hr (flipR hr'))), fun hr' => hnot (.inr (transR hr (flipR hr')))⟩
      · simp only [Prod.mk.injEq] at hm
        rcases hm with ⟨rfl, rfl, rfl⟩ | ⟨rfl, rfl, rfl⟩
        · exact .inr (.inl hr)
        · exact .inr (.inr hr)
    · rintro (⟨h, hr, hr2⟩ | h | h)
      · obtain ⟨l, hm, hr'⟩ := mem_ways_r3.mp h
        refine ⟨l, .inl ⟨hm, ?_⟩, hr'⟩
        cases hkp : keep l with
        | true => rfl
        | false =>
          rcases (hk l hm).mp hkp with k | k
          · exact absurd (transR (flipR k) hr') hr
          · exact absurd (transR (flipR k) hr') hr2
      · exact ⟨_, .inr (.inl rfl), h⟩
      · exact ⟨_, .inr (.inr rfl), h⟩
  have hab := g.B.ne h1
  have hbc := g.B.ne2 h1
  have hca := g.B.ne3 h1
  have had := g.B.ne2 h2
  have hdb := g.B.ne3 h2
  have l12 : l1 ≠ l2 := fun z => by
    subst z
    have := transR (flipR r1) r2
    unfold R3 at this
    rcases this with ⟨z, _, _⟩ | ⟨_, z, _⟩ | ⟨z, _, _⟩
    · exact hab z.symm
    · exact hca z.symm
    · exact hbc z
  refine ⟨{ nd := ?_, B := e ▸ flip_base g.B h1 h2 hcd m1 m2, C := e ▸ flip_conn g.B g.C h1 h2 hcd, L := e ▸ flip_link g.B g.L h1 h2 hcd m1 m2, dots := fun x => ?_, ring := g.ring.of_bd fun x y => by rw [e]; exact flip_bd g.B h1 h2 hcd m1 m2 x y, num := ?_, r3 := g.r3, n59 := g.n59 }, e⟩
  · refine nodup_keys_app (g.nd.sublist ((ways_sublist keep).map key)) ?_ ?_
    · simp [ways, ways1, key]
      grind
    · intro x y u w k1 k2
      have k1' : (x, y, u) ∈ ways ls := (ways_sublist keep).subset k1
      obtain ⟨l, hm, hr⟩ := mem_ways_r3.mp k1
      rw [List.mem_filter] at hm
      have gone1 : ∀ z, R3 a b c x y z → False := fun z hz => by
        have : l = l1 := uniq_land g.nd hm.1 hl1 (w := (x, y, u)) (w' := (x, y, z)) (way1_r3.mpr hr) (way1_r3.mpr (transR r1 hz)) rfl
        subst this
        have := (hk l hm.1).mpr (.inl r1)
        rw [hm.2] at this
        cases this
      have gone2 : ∀ z, R3 b a d x y z → False := fun z hz => by
        have : l = l2 := uniq_land g.nd hm.1 hl2 (w := (x, y, u)) (w' := (x, y, z)) (way1_r3.mpr hr) (way1_r3.mpr (transR r2 hz)) rfl
        subst this
        have := (hk l hm.1).mpr (.inr r2)
        rw [hm.2] at this
        cases this
      simp [ways, ways1] at k2
      rcases k2 with ⟨rfl, rfl, _⟩ | ⟨rfl, rfl, _⟩ | ⟨rfl, rfl, _⟩ | ⟨rfl, rfl, _⟩ | ⟨rfl, rfl, _⟩ | ⟨rfl, rfl, _⟩
      · exact gone1 b (.inr (.inr ⟨rfl, rfl, rfl⟩))
      · exact gone2 b (.inr (.inl ⟨rfl, rfl, rfl⟩))
      · exact m2 _ k1'
      · exact gone2 a (.inr (.inr ⟨rfl, rfl, rfl⟩))
      · exact gone1 a (.inr (.inl ⟨rfl, rfl, rfl⟩))
      · exact m1 _ k1'
  · show (∃ y z, Tr (ways _) x y z) ↔ _
    rw [e, flip_dots g.B h1 h2]
    exact g.dots x
  · have := filter_length (keep := keep) (gone := [l1, l2]) (lands_nodup g.nd) (by simp [l12]) fun x => by
      simp only [List.mem_cons, List.not_mem_nil, or_false]
      constructor
      · rintro (rfl | rfl)
        · exact ⟨hl1, (hk _ hl1).mpr (.inl r1)⟩
        · exact ⟨hl2, (hk _ hl2).mpr (.inr r2)⟩
      · rintro ⟨k1, k2⟩
        rcases (hk x k1).mp k2 with k | k
        · exact .inl (uniq_land g.nd k1 hl1 (w := (a, b, c)) (w' := (a, b, c)) (way1_r3.mpr k) (way1_r3.mpr r1) rfl)
        · exact .inr (uniq_land g.nd k1 hl2 (w := (b, a, d)) (w' := (b, a, d)) (way1_r3.mpr k) (way1_r3.mpr r2) rfl)
    have := g.num
    simp at *
    omega
end
end MF
end
section
set_option linter.all false
set_option maxRecDepth 100000
namespace MF
/-! the first maps, by a check -/
def imgs (W : List Land) (p : Pr) : List Pr := (match third W p.1 p.2 with | some c => [(p.2, c)] ++ (if (third W p.2 p.1).isSome = true then [(p.2, p.1)] else []) | none => [])
def grow (W : List Land) : Nat → List Pr → List Pr
  | 0, S => S
  | k + 1, S => grow W k (nub (S ++ S.flatMap (imgs W)))
theorem grow_sound {W : List Land} {P : Int → Int → Prop} (h1 : ∀ a b c, Tr W a b c → P a b → P b c) (h2 : ∀ a b c d, Tr W a b c → Tr W b a d → P a b → P b a) : ∀ (k : Nat) (S : List Pr), (∀ p ∈ S, P p.1 p.2) → ∀ p ∈ grow W k S, P p.1 p.2
  | 0, S, h, p, hp => h p hp
  | k + 1, S, h, p, hp => by
    refine grow_sound h1 h2 k _ (fun q hq => ?_) p hp
    rw [mem_nub, List.mem_append, List.mem_flatMap] at hq
    rcases hq with hq | ⟨⟨a, b⟩, hx, hq⟩
    · exact h q hq
    · unfold imgs at hq
      have hP := h _ hx
      cases hc : third W a b with
      | none => simp [hc] at hq
      | some c =>
        have t := third_mem hc
        simp only [hc] at hq
        rcases List.mem_append.mp hq with hq | hq
        · rw [List.mem_singleton] at hq
          subst hq
          exact h1 _ _ _ t hP
        · split at hq
          · rename_i hs
            rw [List.mem_singleton] at hq
            subst hq
            obtain ⟨d, hd⟩ := third_isSome.mp hs
            exact h2 _ _ _ _ t hd hP
          · cases hq
theorem base_of {ls : List Land} (hn : ((ways ls).map key).Nodup) (hd : ∀ l ∈ ls, Dis l) : Base (Tr (ways ls)) where
  cyc := fun {a b c} h => by
    have := mem_ways.mp h
    exact mem_ways.mpr (by rcases this with h | h | h <;> simp [h])
  fn := fun h1 h2 => nodup_fn hn h1 h2
  ne := fun {a b c} h => by
    rcases mem_ways.mp h with h | h | h
    · exact (hd _ h).1
    · exact (hd _ h).2.2
    · exact (hd _ h).2.1.symm
theorem conn_of {W : List Land} (B : Base (Tr W)) {k : Nat} {s : Pr} (h : ∀ w ∈ W, key w ∈ grow W k [s]) : Conn (Tr W) := by
  intro P h1 h2 a b c a' b' c' t t' hP
  have all : ∀ {P : Int → Int → Prop}, (∀ a b c, Tr W a b c → P a b → P b c) → (∀ a b c d, Tr W a b c → Tr W b a d → P a b → P b a) → P s.1 s.2 → ∀ a b c, Tr W a b c → P a b := fun {P} h1 h2 hs a b c t =>
    grow_sound h1 h2 k [s] (fun p hp => by rw [List.mem_singleton] at hp; rw [hp]; exact hs) _ (h _ t)
  by_cases hs : P s.1 s.2
  · exact all h1 h2 hs _ _ _ t'
  · exact absurd hP (all (P := fun a b => ¬ P a b) (fun a b c t hn hq => hn (h1 _ _ _ (B.cyc2 t) (h1 _ _ _ (B.cyc t) hq))) (fun a b c d t u hn hq => hn (h2 _ _ _ _ u t hq)) hs _ _ _ t)
/-- the dots about v that hang together with those in S -/
def growL (W : List Land) (v : Int) : Nat → List Int → List Int
  | 0, S => S
  | k + 1, S => growL W v k (nub (S ++ (W.filter fun w => decide (w.1 = v) && decide (w.2.1 ∈ S)).map (·.2.2) ++ (W.filter fun w => decide (w.1 = v) && decide (w.2.2 ∈ S)).map (·.2.1)))
theorem growL_sound {W : List Land} {v : Int} {P : Int → Prop} (h : ∀ o t, Tr W v o t → (P o ↔ P t)) : ∀ (k : Nat) (S : List Int), (∀ p ∈ S, P p) → ∀ p ∈ growL W v k S, P p
  | 0, S, hS, p, hp => hS p hp
  | k + 1, S, hS, p, hp => by
    refine growL_sound h k _ (fun q hq => ?_) p hp
    rw [mem_nub, List.mem_append, List.mem_append, List.mem_map, List.mem_map] at hq
    rcases hq with (hq | ⟨⟨a, b, c⟩, hw, rfl⟩) | ⟨⟨a, b, c⟩, hw, rfl⟩
    · exact hS q hq
    · rw [List.mem_filter, Bool.and_eq_true, decide_eq_true_eq, decide_eq_true_eq] at hw
      obtain ⟨hw, rfl, hs⟩ := hw
      exact (h b c hw).mp (hS _ hs)
    · rw [List.mem_filter, Bool.and_eq_true, decide_eq_true_eq, decide_eq_true_eq] at hw
      obtain ⟨hw, rfl, hs⟩ := hw
      exact (h b c hw).mpr (hS _ hs)
theorem link_of {W : List Land} {k : Nat} (h : ∀ w ∈ W, ∀ w' ∈ W, w'.1 = w.1 → w'.2.1 ∈ growL W w.1 k [w.2.1]) : Link (Tr W) := by
  intro v P hP o t o' t' h1 h2 ho
  exact growL_sound hP k [o] (fun p hp => by rw [List.mem_singleton] at hp; rw [hp]; exact ho) _ (h _ h1 _ h2 rfl)
def goodB (ls : List Land) (n : Nat) (r : List Int) (k : Nat) (s : Pr) : Bool :=
  decide (((ways ls).map key).Nodup) && (ls.all fun l => decide (l.1 ≠ l.2.1 ∧ l.1 ≠ l.2.2 ∧ l.2.1 ≠ l.2.2)) && ((ways ls).all fun w => decide (key w ∈ grow (ways ls) k [s])) &&
  ((ways ls).all fun w => (ways ls).all fun w' => if w'.1 = w.1 then decide (w'.2.1 ∈ growL (ways ls) w.1 k [w.2.1]) else true) &&
  ((ways ls).all fun w => decide (0 ≤ w.1 ∧ w.1 < n)) && ((List.range n).all fun i => (ways ls).any fun w => decide (w.1 = (i : Int))) &&
  decide (r.Nodup) && ((ways ls).all fun w => (third (ways ls) w.2.1 w.1).isSome || (List.range r.length).any fun i => decide (r.getD i 0 = w.1 ∧ r.getD ((i + 1) % r.length) 0 = w.2.1)) &&
  ((List.range r.length).all fun i => (third (ways ls) (r.getD i 0) (r.getD ((i + 1) % r.length) 0)).isSome && (third (ways ls) (r.getD ((i + 1) % r.length) 0) (r.getD i 0)).isNone) &&
  (r.all fun x => decide (r.getD 0 0 ≤ x)) && decide (ls.length + r.length + 2 = 2 * n ∧ 3 ≤ r.length ∧ n ≤ 59)
theorem good_of {ls : List Land} {n : Nat} {r : List Int} {k : Nat} {s : Pr} (h : goodB ls n r k s = true) : Good ls n r := by
  simp only [goodB, Bool.and_eq_true, List.all_eq_true, decide_eq_true_eq] at h
  obtain ⟨⟨⟨⟨⟨⟨⟨⟨⟨⟨h1, h2⟩, h3⟩, h4⟩, h5⟩, h6⟩, h7⟩, h8⟩, h9⟩, h10⟩, h11⟩ := h
  have B := base_of h1 h2
  have gd : ∀ {i : Nat} {x : Int}, r[i]? = some x → r.getD i 0 = x := fun {i x} e => by simp [List.getD, e]
  have dg : ∀ {i : Nat}, i < r.length → r[i]? = some (r.getD i 0) := fun {i} e => by simp [List.getD, List.getElem?_eq_getElem e]
  have hpos : 0 < r.length := by omega
  exact {
    nd := h1
    B := B
    C := conn_of B h3
    L := link_of (k := k) fun w hw w' hw' e => by
      have := h4 w hw w' hw'
      rw [if_pos e] at this
      exact of_decide_eq_true this
    dots := fun x => by
      constructor
      · rintro ⟨b, c, h⟩
        exact h5 _ h
      · rintro ⟨h, h'⟩
        have := h6 x.toNat (List.mem_range.mpr (by omega))
        obtain ⟨⟨a, b, c⟩, hw, e⟩ := List.any_eq_true.mp this
        have e := of_decide_eq_true e
        simp only at e
        exact ⟨b, c, by rw [show x = a by omega]; exact hw⟩
    ring := {
      ne := fun e => by rw [e] at hpos; simp at hpos
      nd := h7
      rim := fun v o => by
        constructor
        · rintro ⟨⟨c, hc⟩, hnone⟩
          have := h8 _ hc
          simp only [hnone, Option.isSome_none, Bool.false_or] at this
          obtain ⟨i, hi, e⟩ := List.any_eq_true.mp this
          have e := of_decide_eq_true e
          have hi := List.mem_range.mp hi
          refine ⟨i, ?_, ?_⟩
          · rw [dg hi, e.1]
          · rw [dg (Nat.mod_lt _ hpos), e.2]
        · rintro ⟨i, e1, e2⟩
          have := h9 i (List.mem_range.mpr (List.getElem?_eq_some_iff.mp e1).1)
          rw [gd e1, gd e2] at this
          refine ⟨third_isSome.mp this.1, ?_⟩
          cases z : third (ways ls) o v with
          | none => rfl
          | some y => rw [z] at this; simp at this
      least := fun x hx y hy => by
        have := h10 x hx
        rw [gd hy] at this
        exact this }
    num := h11.1
    r3 := h11.2.1
    n59 := h11.2.2 }
def fan (k : Nat) : List Land := (List.range (k - 2)).map fun i : Nat => (0, (i : Int) + 1, (i : Int) + 1 + 1)
def wheel (k : Nat) : List Land := (List.range k).map fun i : Nat => ((i : Int), ((i : Int) + 1) % (k : Int), (k : Int))
def rim0 (k : Nat) : List Int := (List.range k).map fun i : Nat => (i : Int)
theorem fan3 : Good (fan 3) 3 (rim0 3) := good_of (k := 12) (s := (0, 1)) (by decide +kernel)
theorem fan4 : Good (fan 4) 4 (rim0 4) := good_of (k := 12) (s := (0, 1)) (by decide +kernel)
theorem fan5 : Good (fan 5) 5 (rim0 5) := good_of (k := 12) (s := (0, 1)) (by decide +kernel)
theorem fan6 : Good (fan 6) 6 (rim0 6) := good_of (k := 12) (s := (0, 1)) (by decide +kernel)
theorem wheel3 : Good (wheel 3) 4 (rim0 3) := good_of (k := 12) (s := (0, 1)) (by decide +kernel)
theorem wheel4 : Good (wheel 4) 5 (rim0 4) := good_of (k := 12) (s := (0, 1)) (by decide +kernel)
theorem wheel5 : Good (wheel 5) 6 (rim0 5) := good_of (k := 12) (s := (0, 1)) (by decide +kernel)
theorem wheel6 : Good (wheel 6) 7 (rim0 6) := good_of (k := 12) (s := (0, 1)) (by decide +kernel)
end MF
end
section
set_option linter.all false
set_option maxRecDepth 100000
namespace MF
/-! other names for the dots -/
def ren (nm : Int → Int) (l : Land) : Land := (nm l.1, nm l.2.1, nm l.2.2)
theorem ways_ren (nm : Int → Int) (ls : List Land) : ways (ls.map (ren nm)) = (ways ls).map (ren nm) := by
  induction ls with
  | nil => rfl
  | cons x ls ih =>
    rw [List.map_cons, show ways (ren nm x :: ls.map (ren nm)) = ways1 (ren nm x) ++ ways (ls.map (ren nm)) from rfl, ih, show ways (x :: ls) = ways1 x ++ ways ls from rfl, List.map_append]
    rfl
theorem least_ex : ∀ {l : List Int}, l ≠ [] → ∃ m ∈ l, ∀ y ∈ l, m ≤ y
  | [], h => absurd rfl h
  | [x], _ => ⟨x, by simp, by simp⟩
  | x :: y :: l, _ => by
    obtain ⟨m, hm, h⟩ := least_ex (l := y :: l) (by simp)
    by_cases e : x ≤ m
    · exact ⟨x, List.mem_cons_self, fun z hz => by
        rcases List.mem_cons.mp hz with rfl | hz
        · exact Int.le_refl _
        · exact Int.le_trans e (h z hz)⟩
    · exact ⟨m, List.mem_cons_of_mem _ hm, fun z hz => by
        rcases List.mem_cons.mp hz with rfl | hz
        · omega
        · exact h z hz⟩
/-- the ring from its i-th place -/
def turn (r : List Int) (i : Nat) : List Int := (List.range r.length).map fun j => r.getD ((i + j) % r.length) 0
theorem turn_length (r : List Int) (i : Nat) : (turn r i).length = r.length := by simp [turn]
theorem turn_at {r : List Int} {i j : Nat} (h : j < r.length) : (turn r i)[j]? = r[(i + j) % r.length]? := by
  have hm : (i + j) % r.length < r.length := Nat.mod_lt _ (by omega)
  unfold turn
  rw [List.getElem?_map, List.getElem?_range h]
  simp [List.getD, List.getElem?_eq_getElem hm]
theorem ring_turn {W : List Land} {r : List Int} {i : Nat} (nd : r.Nodup) (ne : r ≠ []) (rim : ∀ v o, Rim W v o ↔ ∃ i, r[i]? = some v ∧ r[(i + 1) % r.length]? = some o) (least : ∀ x ∈ r, ∀ y, r[i]? = some y → y ≤ x) (hi : i < r.length) : IsRing W (turn r i) := by
  have hpos : 0 < r.length := List.length_pos_iff.mpr ne
  have inj : ∀ {j j' : Nat}, j < r.length → j' < r.length → (i + j) % r.length = (i + j') % r.length → j = j' := by
    intro j j' hj hj' e
    have d1 := Nat.div_add_mod (i + j) r.length
    have d2 := Nat.div_add_mod (i + j') r.length
    have c1 : (i + j) / r.length ≤ 1 := by
      have : i + j < 2 * r.length := by omega
      have := (Nat.div_lt_iff_lt_mul hpos).mpr this
      omega
    have c2 : (i + j') / r.length ≤ 1 := by
      have : i + j' < 2 * r.length := by omega
      have := (Nat.div_lt_iff_lt_mul hpos).mpr this
      omega
    have q1 : (i + j) / r.length = 0 ∨ (i + j) / r.length = 1 := Nat.le_one_iff_eq_zero_or_eq_one.mp c1
    have q2 : (i + j') / r.length = 0 ∨ (i + j') / r.length = 1 := Nat.le_one_iff_eq_zero_or_eq_one.mp c2
    have m1 : (i + j) % r.length < r.length := Nat.mod_lt _ hpos
    have m2 : (i + j') % r.length < r.length := Nat.mod_lt _ hpos
    rcases q1 with q1 | q1 <;> rcases q2 with q2 | q2 <;> rw [q1] at d1 <;> rw [q2] at d2 <;> simp at d1 d2 <;> omega
  have nxt : ∀ {j : Nat}, (i + (j + 1) % r.length) % r.length = ((i + j) % r.length + 1) % r.length := by
    intro j
    rw [Nat.add_mod_mod, Nat.mod_add_mod, Nat.add_assoc]
  refine ⟨?_, ?_, fun v o => ?_, ?_⟩
  · intro e
    have := turn_length r i
    rw [e] at this
    simp at this
    omega
  · unfold turn
    refine nodup_map_on (fun x hx y hy e => ?_) List.nodup_range
    have hx' := List.mem_range.mp hx
    have hy' := List.mem_range.mp hy
    have hmx : (i + x) % r.length < r.length := Nat.mod_lt _ hpos
    have hmy : (i + y) % r.length < r.length := Nat.mod_lt _ hpos
    simp only [List.getD, List.getElem?_eq_getElem hmx, List.getElem?_eq_getElem hmy, Option.getD_some] at e
    refine inj hx' hy' ?_
    exact (List.getElem?_inj hmx nd).mp (by rw [List.getElem?_eq_getElem hmx, List.getElem?_eq_getElem hmy, e])
  · rw [rim, turn_length]
    constructor
    · rintro ⟨m, h1, h2⟩
      have hm := (List.getElem?_eq_some_iff.mp h1).1
      have hj : (m + (r.length - i)) % r.length < r.length := Nat.mod_lt _ hpos
      have e : (i + (m + (r.length - i)) % r.length) % r.length = m := by
        rw [Nat.add_mod_mod, show i + (m + (r.length - i)) = m + r.length by omega, Nat.add_mod_right, Nat.mod_eq_of_lt hm]
      refine ⟨(m + (r.length - i)) % r.length, ?_, ?_⟩
      · rw [turn_at hj, e]
        exact h1
      · rw [turn_at (Nat.mod_lt _ hpos), nxt, e]
        exact h2
    · rintro ⟨j, h1, h2⟩
      have hj : j < r.length := by
        have := (List.getElem?_eq_some_iff.mp h1).1
        rwa [turn_length] at this
      rw [turn_at hj] at h1
      rw [turn_at (Nat.mod_lt _ hpos), nxt] at h2
      exact ⟨_, h1, h2⟩
  · intro x hx y hy
    rw [turn_at hpos, Nat.add_zero, Nat.mod_eq_of_lt hi] at hy
    refine least x ?_ y hy
    obtain ⟨j, hj, e⟩ := List.mem_iff_getElem.mp hx
    rw [turn_length] at hj
    have := turn_at (r := r) (i := i) hj
    rw [List.getElem?_eq_getElem (by rw [turn_length]; exact hj), e] at this
    exact List.mem_of_getElem? this.symm
theorem Good.rename {ls : List Land} {n : Nat} {r : List Int} (g : Good ls n r) {nm : Int → Int} (h1 : ∀ x : Int, 0 ≤ x → x < n → 0 ≤ nm x ∧ nm x < n) (h2 : ∀ x y : Int, 0 ≤ x → x < n → 0 ≤ y → y < n → nm x = nm y → x = y) (h3 : ∀ y : Int, 0 ≤ y → y < n → ∃ x : Int, 0 ≤ x ∧ x < n ∧ nm x = y) :
    ∃ r', Good (ls.map (ren nm)) n r' ∧ r'.length = r.length := by
  have eW := ways_ren nm ls
  have mem : ∀ {x y z : Int}, (x, y, z) ∈ ways (ls.map (ren nm)) ↔ ∃ a b c, (a, b, c) ∈ ways ls ∧ nm a = x ∧ nm b = y ∧ nm c = z := by
    intro x y z
    rw [eW, List.mem_map]
    constructor
    · rintro ⟨⟨a, b, c⟩, h, e⟩
      simp only [ren, Prod.mk.injEq] at e
      exact ⟨a, b, c, h, e.1, e.2.1, e.2.2⟩
    · rintro ⟨a, b, c, h, rfl, rfl, rfl⟩
      exact ⟨_, h, rfl⟩
  have dot1 : ∀ {a b c : Int}, (a, b, c) ∈ ways ls → (0 ≤ a ∧ a < n) ∧ (0 ≤ b ∧ b < n) ∧ 0 ≤ c ∧ c < n := fun {a b c} h => ⟨(g.dots a).mp ⟨_, _, h⟩, (g.dots b).mp ⟨_, _, g.B.cyc h⟩, (g.dots c).mp ⟨_, _, g.B.cyc2 h⟩⟩
  have inj : ∀ {a b : Int}, (0 ≤ a ∧ a < n) → (0 ≤ b ∧ b < n) → nm a = nm b → a = b := fun ha hb e => h2 _ _ ha.1 ha.2 hb.1 hb.2 e
  have hnd : ((ways (ls.map (ren nm))).map key).Nodup := by
    rw [eW, List.map_map, show key ∘ ren nm = (fun p : Int × Int => (nm p.1, nm p.2)) ∘ key from rfl, ← List.map_map]
    refine nodup_map_on (fun p hp q hq e => ?_) g.nd
    obtain ⟨p1, p2⟩ := p
    obtain ⟨q1, q2⟩ := q
    obtain ⟨c, hc⟩ := key_mem.mp hp
    obtain ⟨d, hd⟩ := key_mem.mp hq
    simp only [Prod.mk.injEq] at e
    have k1 := dot1 hc
    have k2 := dot1 hd
    rw [inj k1.1 k2.1 e.1, inj k1.2.1 k2.2.1 e.2]
  have B : Base (Tr (ways (ls.map (ren nm)))) := {
    cyc := fun {a b c} h => by
      obtain ⟨x, y, z, k, rfl, rfl, rfl⟩ := mem.mp h
      exact mem.mpr ⟨y, z, x, g.B.cyc k, rfl, rfl, rfl⟩
    fn := fun k1 k2 => nodup_fn hnd k1 k2
    ne := fun {a b c} h => by
      obtain ⟨x, y, z, k, rfl, rfl, rfl⟩ := mem.mp h
      exact fun e => g.B.ne k (inj (dot1 k).1 (dot1 k).2.1 e) }
  have rim' : ∀ v o, Rim (ways (ls.map (ren nm))) v o ↔ ∃ i, (r.map nm)[i]? = some v ∧ (r.map nm)[(i + 1) % (r.map nm).length]? = some o := by
    intro v o
    have : Rim (ways (ls.map (ren nm))) v o ↔ ∃ x y, Rim (ways ls) x y ∧ nm x = v ∧ nm y = o := by
      constructor
      · rintro ⟨⟨c, hc⟩, hnone⟩
        obtain ⟨x, y, z, h, rfl, rfl, rfl⟩ := mem.mp hc
        exact ⟨x, y, ⟨⟨z, h⟩, third_none.mpr fun d hd => third_none.mp hnone (nm d) (mem.mpr ⟨y, x, d, hd, rfl, rfl, rfl⟩)⟩, rfl, rfl⟩
      · rintro ⟨x, y, ⟨⟨z, h⟩, hnone⟩, rfl, rfl⟩
        refine ⟨⟨nm z, mem.mpr ⟨x, y, z, h, rfl, rfl, rfl⟩⟩, third_none.mpr fun d hd => ?_⟩
        obtain ⟨y', x', d', h', e1, e2, rfl⟩ := mem.mp hd
        rw [inj (dot1 h').1 (dot1 h).2.1 e1, inj (dot1 h').2.1 (dot1 h).1 e2] at h'
        exact third_none.mp hnone d' h'
    rw [this, List.length_map]
    constructor
    · rintro ⟨x, y, hr, rfl, rfl⟩
      obtain ⟨i, e1, e2⟩ := (g.ring.rim x y).mp hr
      exact ⟨i, by rw [List.getElem?_map, e1]; rfl, by rw [List.getElem?_map, e2]; rfl⟩
    · rintro ⟨i, e1, e2⟩
      rw [List.getElem?_map] at e1 e2
      obtain ⟨x, ex, rfl⟩ := Option.map_eq_some_iff.mp e1
      obtain ⟨y, ey, rfl⟩ := Option.map_eq_some_iff.mp e2
      exact ⟨x, y, (g.ring.rim x y).mpr ⟨i, ex, ey⟩, rfl, rfl⟩
  have rdot : ∀ x ∈ r, 0 ≤ x ∧ x < n := fun x hx => by
    obtain ⟨i, hi, rfl⟩ := List.mem_iff_getElem.mp hx
    have hm : (i + 1) % r.length < r.length := Nat.mod_lt _ (by omega)
    obtain ⟨⟨c, hc⟩, _⟩ := (g.ring.rim r[i] r[(i + 1) % r.length]).mpr ⟨i, List.getElem?_eq_getElem hi, List.getElem?_eq_getElem hm⟩
    exact (dot1 hc).1
  have rnd : (r.map nm).Nodup := nodup_map_on (fun x hx y hy e => inj (rdot x hx) (rdot y hy) e) g.ring.nd
  have rne : r.map nm ≠ [] := by
    intro e
    have := g.ring.ne
    simp at e
    exact this e
  obtain ⟨m, hm, hle⟩ := least_ex rne
  obtain ⟨i, hi, rfl⟩ := List.mem_iff_getElem.mp hm
  refine ⟨turn (r.map nm) i, {
    nd := hnd
    B := B
    C := fun P p1 p2 a b c a' b' c' t t' hP => by
      obtain ⟨x, y, z, h, rfl, rfl, rfl⟩ := mem.mp t
      obtain ⟨x', y', z', h', rfl, rfl, rfl⟩ := mem.mp t'
      exact g.C (fun a b => P (nm a) (nm b)) (fun a b c t q => p1 _ _ _ (mem.mpr ⟨a, b, c, t, rfl, rfl, rfl⟩) q) (fun a b c d t u q => p2 _ _ _ _ (mem.mpr ⟨a, b, c, t, rfl, rfl, rfl⟩) (mem.mpr ⟨b, a, d, u, rfl, rfl, rfl⟩) q) x y z x' y' z' h h' hP
    L := fun v P hp o t o' t' k1 k2 ho => by
      obtain ⟨x, y, z, h, rfl, rfl, rfl⟩ := mem.mp k1
      obtain ⟨x', y', z', h', e, rfl, rfl⟩ := mem.mp k2
      have := inj (dot1 h').1 (dot1 h).1 e
      subst this
      exact g.L x' (fun o => P (nm o)) (fun o t q => hp _ _ (mem.mpr ⟨x', o, t, q, rfl, rfl, rfl⟩)) y z y' z' h h' ho
    dots := fun x => by
      constructor
      · rintro ⟨b, c, h⟩
        obtain ⟨x', y, z, k, rfl, rfl, rfl⟩ := mem.mp h
        exact h1 _ (dot1 k).1.1 (dot1 k).1.2
      · rintro ⟨q1, q2⟩
        obtain ⟨x', a1, a2, rfl⟩ := h3 x q1 q2
        obtain ⟨b, c, h⟩ := (g.dots x').mpr ⟨a1, a2⟩
        exact ⟨_, _, mem.mpr ⟨x', b, c, h, rfl, rfl, rfl⟩⟩
    ring := ring_turn rnd rne rim' (fun x hx y hy => by rw [List.getElem?_eq_getElem hi] at hy; cases hy; exact hle x hx) hi
    num := by rw [turn_length, List.length_map, List.length_map]; exact g.num
    r3 := by rw [turn_length, List.length_map]; exact g.r3
    n59 := g.n59 }, by rw [turn_length, List.length_map]⟩
end MF
end
section
set_option Elab.async false
set_option linter.all false
set_option maxRecDepth 100000
set_option maxHeartbeats 4000000
namespace MF
open PySem PySem.Spec PyProof.Rows L2
theorem LsD.sx {g : Addr} {H H' : Hp} (x : SameX g H H') {gs : List V} (hg : H g = some (.lst gs)) {p : Addr} {ls : List Land} (n : p ≠ g) (h : LsD H p ls) : LsD H' p ls := let ⟨ps, h1, h2⟩ := h; ⟨ps, x _ _ n h1, Paired_mono (fun _ _ z => TuD.ext (x.ext hg) z) h2⟩
theorem Gard.at_ {H : Hp} {g c : Addr} {B : Nat} (h : Gard H g c B) : ∃ gs, H g = some (.lst gs) := let ⟨ns, t, l, h1, _⟩ := h; ⟨_, h1⟩
/-- the largest dot of a whole map -/
def tMaxDot (i j : Nat) : TE := fun σ H Q => ∃ p ls n r, σ[i]? = some (some (.ref p)) ∧ i ≠ j ∧ j < σ.length ∧ LsD H p ls ∧ Good ls n r ∧ ∀ H', Same H H' → Q (.int ((n : Int) - 1)) H'
theorem most_dot {ls : List Land} {n : Nat} {r : List Int} (g : Good ls n r) {ks : List Int} (hks : Paired (fun a k => Most (l3 a) k) ls ks) {k : Int} (hk1 : k ∈ ks) (hk2 : ∀ y, y ∈ ks → y ≤ k) : k = (n : Int) - 1 := by
  have npos := g.n_pos
  obtain ⟨i, hi, rfl⟩ := List.mem_iff_getElem.mp hk1
  obtain ⟨a, ha, hka⟩ := paired_getR hks (List.getElem?_eq_getElem hi)
  have h1 := (g.dots ks[i]).mp (mem_dot.mpr ⟨a, List.mem_of_getElem? ha, hka.1⟩)
  obtain ⟨b, hb, hnb⟩ := mem_dot.mp ((g.dots ((n : Int) - 1)).mpr (by omega))
  obtain ⟨j, hj, rfl⟩ := List.mem_iff_getElem.mp hb
  obtain ⟨k', hk', hkb⟩ := paired_get hks (List.getElem?_eq_getElem hj)
  have h2 := hk2 k' (List.mem_of_getElem? hk')
  have h3 := hkb.2 _ hnb
  omega
theorem most_list {H : Hp} : ∀ {rs : List Land} {ys : List V}, Paired (fun a y => ∃ k, y = V.int k ∧ Most (l3 a) k) rs ys → ∃ ks : List Int, ys = ks.map V.int ∧ Paired (fun a k => Most (l3 a) k) rs ks
  | _, _, .nil => ⟨[], rfl, .nil⟩
  | _, _, .cons ⟨k, e, hk⟩ t => by
    obtain ⟨ks, e2, h2⟩ := most_list (H := H) t
    exact ⟨k :: ks, by rw [e, e2]; rfl, .cons hk h2⟩
theorem pe_maxdot {X : Cx} {i j : Nat} {nm : Str} {elt tg iter : Expr} {scope : Scope} {p pos pos2 : Pos} (hc : X.calm = true) (hN : X.N.Nodup) (hm : X.mg "max" = none) (hi : PI X tg iter (iList X.K (tVar i))) (ok : BlkOk X.N X.env.scope scope [(nm, j)]) (hg : InBlk X scope fun B => PG B tg (gName j))
    (he : InBlk X scope fun B => PE B elt (fun σ H Q => tCons (tVar j) tNil σ H fun vs H1 => ∃ (p : Addr) (ns : List Int), vs = [.ref p] ∧ Tu H1 p ns ∧ ns ≠ [] ∧ ∀ m, Most ns m → Q (.int m) H1)) (gl : Gl X "max" := by rfl) (hs : ∀ x, foldedSetIterable iter X.env x = pure x := by intro _; rfl)
    (ha : starEach [.ListComp elt [⟨tg, iter, [], 0⟩] scope pos2] X.env = (false, eval (.ListComp elt [⟨tg, iter, [], 0⟩] scope pos2) X.env) :: starEach [] X.env := by rfl) :
    PE X (.Call (.Name "max" p) [.ListComp elt [⟨tg, iter, [], 0⟩] scope pos2] [] pos) (tMaxDot i j) := by
  refine PE_imp (pe_callB (id := "max") (cr_max hc) gl hm (by decide +kernel) (pa_cons (pe_lcA (own := [(nm, j)]) (tt := tYes) hc hN hi ok hg (fun _ _ _ _ _ => pts_nil) he hs) pa_nil) (by decide) (by decide) ha rfl) fun σ H Q ⟨p, ls, n, r, h1, hij, hj, hL, g, q⟩ => ?_
  obtain ⟨ps, hl, hp⟩ := hL
  have hplen := tuD_len hp
  have hsm := g.small
  refine ⟨_, h1, p, rfl, ⟨_, .inl (.inl hl)⟩, ?_⟩
  refine ⟨Land, ls, fun _ => true, fun a y _ => ∃ k, y = .int k ∧ Most (l3 a) k, _, _, walk_lands (K := X.K) hplen, sz_lt (by omega), fun H' e' => .inl (.inl (e' _ _ hl)), fun _ _ _ _ _ h => h, ?_, ?_⟩
  · rintro t a x H2' H3' ha' e' ⟨rfl, hx⟩
    obtain ⟨q2, b, rfl, hb, tb⟩ := tuD_at hp hx
    rw [ha'] at hb
    cases hb
    refine ⟨?_, rfl, _, ?_, q2, l3 a, rfl, (tb.mono e').tu, by simp [l3], fun k hk => ⟨Same.refl _, k, rfl, hk⟩⟩
    · show ((σ.set j none).set j (some (.ref q2))).set j none = σ.set j none
      rw [List.set_set, List.set_set]
    · show ((σ.set j none).set j (some (.ref q2)))[j]? = some (some (.ref q2))
      rw [List.set_set, List.getElem?_set_self hj]
  · intro D ys H10 nD e10 hD hpr
    rw [List.filter_eq_self.mpr (fun _ _ => rfl)] at hpr
    obtain ⟨ks, rfl, hks⟩ := most_list (H := H) hpr
    refine ⟨D, ks, rfl, .inl (.inl hD), ?_, fun k hk1 hk2 => ?_⟩
    · rw [← Paired_len hks]
      exact g.len1
    · rw [most_dot g hks hk1 hk2]
      exact q H10 e10
section
variable {P : Program} {w : World} {K : PySem.W.Frag} {mg : Str → Option Value} {base : Heap}
theorem Gard.ne {H : Hp} {g c p : Addr} {B : Nat} (h : Gard H g c B) (n : H p = none) : p ≠ g := fun e => by
  obtain ⟨gs, hg⟩ := h.at_
  rw [e, hg] at n
  cases n
theorem eraseIdx_map' {α β : Type} {f : α → β} {l : List α} {j : Nat} : (l.map f).eraseIdx j = (l.eraseIdx j).map f := by
  rw [List.eraseIdx_eq_take_drop_succ, List.eraseIdx_eq_take_drop_succ, List.map_append, List.map_take, List.map_drop]
theorem eraseIdx_perm' {α : Type} {l : List α} {j : Nat} (h : j < l.length) : ([l[j]] ++ l.eraseIdx j).Perm l := by
  rw [List.eraseIdx_eq_take_drop_succ]
  refine List.Perm.trans (List.perm_middle (l₁ := l.take j)).symm ?_
  rw [← List.drop_eq_getElem_cons h, List.take_append_drop]
/-- a list of new lands, one by one -/
theorem lsD_of {H : Hp} {D : Addr} {α : Type} {f : α → Land} {xs : List α} {ys : List V} (h : H D = some (.lst ys)) (p : Paired (fun x y => ∃ q, y = V.ref q ∧ TuD H q (l3 (f x))) xs ys) : LsD H D (xs.map f) := by
  obtain ⟨qs, rfl, hq⟩ := tuD_refs (f := fun x => l3 (f x)) p
  exact ⟨qs, h, by rw [List.map_map]; exact hq⟩
theorem fan_good {k : Nat} (h : k = 3 ∨ k = 4 ∨ k = 5 ∨ k = 6) : Good (fan k) k (rim0 k) := by
  rcases h with rfl | rfl | rfl | rfl
  · exact fan3
  · exact fan4
  · exact fan5
  · exact fan6
theorem wheel_good {k : Nat} (h : k = 3 ∨ k = 4 ∨ k = 5 ∨ k = 6) : Good (wheel k) (k + 1) (rim0 k) := by
  rcases h with rfl | rfl | rfl | rfl
  · exact wheel3
  · exact wheel4
  · exact wheel5
  · exact wheel6
theorem both_in {ls : List Land} {n : Nat} {r : List Int} (g : Good ls n r) {a b c d : Int} (h1 : (a, b, c) ∈ ways ls) (h2 : (b, a, d) ∈ ways ls) {l : Land} (hl : l ∈ ls) : (a ∈ l3 l ∧ b ∈ l3 l) ↔ (R3 l.1 l.2.1 l.2.2 a b c ∨ R3 l.1 l.2.1 l.2.2 b a d) := by
  have hab := g.B.ne h1
  have w : ∀ {x y z : Int}, R3 l.1 l.2.1 l.2.2 x y z → (x, y, z) ∈ ways ls := fun h => mem_ways_r3.mpr ⟨l, hl, h⟩
  obtain ⟨p, q, s⟩ := l
  simp only [l3, List.mem_cons, List.not_mem_nil, or_false] at *
  constructor
  · rintro ⟨ha, hb⟩
    have k1 : ∀ z, R3 p q s a b z → R3 p q s a b c := fun z hz => by rw [← g.B.fn (w hz) h1]; exact hz
    have k2 : ∀ z, R3 p q s b a z → R3 p q s b a d := fun z hz => by rw [← g.B.fn (w hz) h2]; exact hz
    rcases ha with rfl | rfl | rfl <;> rcases hb with rfl | rfl | rfl
    · exact absurd rfl hab
    · exact .inl (k1 s (.inl ⟨rfl, rfl, rfl⟩))
    · exact .inr (k2 q (.inr (.inr ⟨rfl, rfl, rfl⟩)))
    · exact .inr (k2 s (.inl ⟨rfl, rfl, rfl⟩))
    · exact absurd rfl hab
    · exact .inl (k1 p (.inr (.inl ⟨rfl, rfl, rfl⟩)))
    · exact .inl (k1 q (.inr (.inr ⟨rfl, rfl, rfl⟩)))
    · exact .inr (k2 p (.inr (.inl ⟨rfl, rfl, rfl⟩)))
    · exact absurd rfl hab
  · unfold R3
    rintro ((⟨rfl, rfl, rfl⟩ | ⟨rfl, rfl, rfl⟩ | ⟨rfl, rfl, rfl⟩) | (⟨rfl, rfl, rfl⟩ | ⟨rfl, rfl, rfl⟩ | ⟨rfl, rfl, rfl⟩)) <;> simp
/-- no land with both thirds: the two are not tied -/
theorem far {ls : List Land} {n : Nat} {r : List Int} (g : Good ls n r) {a b c d : Int} (h1 : (a, b, c) ∈ ways ls) (hno : ∀ l ∈ ls, ¬ (c ∈ l3 l ∧ d ∈ l3 l)) : c ≠ d ∧ (∀ z, (c, d, z) ∉ ways ls) ∧ ∀ z, (d, c, z) ∉ ways ls := by
  have mem2 : ∀ {x y z : Int}, (x, y, z) ∈ ways ls → ∃ l ∈ ls, x ∈ l3 l ∧ y ∈ l3 l ∧ z ∈ l3 l := fun {x y z} h => by
    obtain ⟨⟨p, q, s⟩, hl, hr⟩ := mem_ways_r3.mp h
    refine ⟨_, hl, ?_⟩
    unfold R3 at hr
    rcases hr with ⟨rfl, rfl, rfl⟩ | ⟨rfl, rfl, rfl⟩ | ⟨rfl, rfl, rfl⟩ <;> simp [l3]
  refine ⟨fun e => ?_, fun z h => ?_, fun z h => ?_⟩
  · subst e
    obtain ⟨l, hl, _, _, hc⟩ := mem2 h1
    exact hno l hl ⟨hc, hc⟩
  · obtain ⟨l, hl, hc, hd, _⟩ := mem2 h
    exact hno l hl ⟨hc, hd⟩
  · obtain ⟨l, hl, hd, hc, _⟩ := mem2 h
    exact hno l hl ⟨hc, hd⟩
theorem lawFlip_good {ls : List Land} {n : Nat} {r : List Int} (g : Good ls n r) {a b c d : Int} (h1 : (a, b, c) ∈ ways ls) (h2 : (b, a, d) ∈ ways ls) (hno : ∀ l ∈ ls, ¬ (c ∈ l3 l ∧ d ∈ l3 l)) : Good (lawFlip ls a b c d) n r := by
  obtain ⟨hcd, m1, m2⟩ := far g h1 hno
  refine (g.flip h1 h2 hcd m1 m2 fun l hl => ?_).1
  rw [← both_in g h1 h2 hl]
  simp
theorem lawSplit_good {ls : List Land} {n : Nat} {r : List Int} (g : Good ls n r) {l : Land} (hl : l ∈ ls) (h : n + 1 ≤ 59) : Good (lawSplit ls l n) (n + 1) r := by
  obtain ⟨a, b, c⟩ := l
  exact g.split hl (fun x _ => by simp) h
theorem scLands : FnScope ["_law_garden_here", "_law_many", "_law_corners", "_law_lands_here", "_law_turn", "_law_land", "_law_fresh", "_law_names", "_law_left", "_law_at", "_law_one", "_law_two", "_law_three"] ["_law_garden_here", "_law_many"] (defScope sLands) := ⟨rfl, rfl, rfl, by decide +kernel, rfl, by decide +kernel, by decide +kernel⟩
abbrev nLands : List Str := ["_law_garden_here", "_law_many", "_law_corners", "_law_lands_here", "_law_turn", "_law_land", "_law_fresh", "_law_names", "_law_left", "_law_at", "_law_one", "_law_two", "_law_three"]
def spLands : Sp := fun vs H Q _ => ∃ (g c : Addr), vs = [.ref g, .int 3] ∧ Gard H g c 0 ∧ ∀ H' q ls n r, SameX g H H' → Gard H' g c 40 → q ≠ g → H q = none → LsD H' q ls → Good ls n r → n ≤ 10 → Q (.ref q) H'
theorem ok_lands (T : Tx K mg) : FnOk P w K mg base CX0 3 T.lands.f T.lands.fd ["_law_garden_here", "_law_many"] spLands := by
  refine okN T.lands.F scLands (fun vs H Q E h => ?_) (fun cdv A outer s0 H vs Q E hr h => ?_)
  · obtain ⟨g, c, rfl, _⟩ := h
    rfl
  · obtain ⟨g, c, rfl, hg, q⟩ := h
    have nd := scLands.nd
    have hu := hu_of hr
    refine ⟨_, pss_cons (ps_set (i := 2) nd rfl (.inr rfl) (pcall T.pick (ok_pick T) hr (pa_cons (pv 0) (pa_cons (pe_lstA (pa_cons pe_int (pa_cons pe_int (pa_cons pe_int (pa_cons pe_int pa_nil))))) pa_nil))))
      (pss_cons (ps_setLcA (i := 3) (own := [("_law_at", 9)]) (g := gName 9) (tt := tYes) rfl nd rfl rfl (sw_true rfl rfl rfl (by decide +kernel)) (pi_range2 (by rfl) T.range_ (pa_cons pe_int (pa_cons (pe_sub (pv 2) pe_int) pa_nil))) (blkOk_by (N := nLands) (sc := defScope sLands) (by decide +kernel)) (fun _ _ _ _ _ => pg_name (i := 9) nd rfl (.inl rfl)) (fun _ _ _ _ _ => pts_nil)
          (fun _ _ _ _ _ => pe_tupD (pa_cons pe_int (pa_cons (pv 9) (pa_cons (pe_add (pv 9) pe_int) pa_nil)))))
      (pss_cons (PS_up (ps_if (pt_cmp (pc_eqI (pcall T.spade ((ok_spade T).mono (k := 2) (by decide)) hr (pa_cons (pv 0) (pa_cons pe_int pa_nil))) pe_int)) (pss_one (ps_setLcA (i := 3) (own := [("_law_at", 9)]) (g := gName 9) (tt := tYes) rfl nd rfl rfl (sw_true rfl rfl rfl (by decide +kernel)) (pi_range1 (by rfl) T.range_ (pa_cons (pv 2) pa_nil)) (blkOk_by (N := nLands) (sc := defScope sLands) (by decide +kernel)) (fun _ _ _ _ _ => pg_name (i := 9) nd rfl (.inl rfl)) (fun _ _ _ _ _ => pts_nil)
          (fun _ _ _ _ _ => pe_tupD (pa_cons (pv 9) (pa_cons (pe_op op_mod (pe_callTy (T := "int") call_int1 (by rfl) T.int_ (by decide +kernel) (pa_cons (pe_add (pv 9) pe_int) pa_nil)) (pv 2)) (pa_cons (pv 2) pa_nil)))))) pss_nil))
      (pss_cons (ps_for PassesOwn.never rfl (pi_range1 (by rfl) T.range_ (pa_cons (pcall T.spade ((ok_spade T).mono (k := 2) (by decide)) hr (pa_cons (pv 0) (pa_cons (pe_add (pv 1) pe_int) pa_nil))) pa_nil)) (pg_name (i := 4) nd rfl (.inl rfl))
        (pss_one (ps_set (i := 3) nd rfl (.inl rfl) (pcall T.split ((ok_split T).mono (k := 2) (by decide)) hr (pa_cons (pv 3) (pa_cons (pcall T.pick (ok_pick T) hr (pa_cons (pv 0) (pa_cons (pv 3) pa_nil))) (pa_cons (pe_add (pe_maxdot (i := 3) (nm := "_law_land") (j := 5) rfl nd T.max_ (pi_list (pv 3)) (blkOk_by (N := nLands) (sc := defScope sLands) (by decide +kernel)) (fun _ _ _ _ _ => pg_name (i := 5) nd rfl (.inl rfl)) (fun _ _ _ _ _ => pe_maxTu rfl hu T.max_ (pa_cons (pv 5) pa_nil))) pe_int) pa_nil)))))))
      (pss_cons (ps_for PassesOwn.never rfl (pi_range1 (by rfl) T.range_ (pa_cons (pcall T.pick (ok_pick T) hr (pa_cons (pv 0) (pa_cons (pe_lstA (pa_cons pe_int (pa_cons pe_int (pa_cons pe_int (pa_cons pe_int pa_nil))))) pa_nil))) pa_nil)) (pg_name (i := 4) nd rfl (.inl rfl))
        (pss_cons (ps_set (i := 5) nd rfl (.inl rfl) (pcall T.pick (ok_pick T) hr (pa_cons (pv 0) (pa_cons (pv 3) pa_nil))))
        (pss_cons (ps_set (i := 6) nd rfl (.inl rfl) (pcall T.otherTie (ok_otherTie T) hr (pa_cons (pv 3) (pa_cons (pe_ixU (pv 5) pe_int (fun _ _ => rfl)) (pa_cons (pe_ixU (pv 5) pe_int (fun _ _ => rfl)) pa_nil)))))
        (pss_one (ps_set (i := 3) nd rfl (.inl rfl) (pe_ifExp (pt_cmpR op_notN (pv 6) pe_non (nomark _)) (pv 6) (pv 3)))))))
      (pss_cons (ps_asg (pe_tupA (pa_cons (pe_lstA pa_nil) (pa_cons (pe_listRg rfl (by rfl) T.list_ (prg_1 (by rfl) T.range_ (pe_add (pe_maxdot (i := 3) (nm := "_law_land") (j := 5) rfl nd T.max_ (pi_list (pv 3)) (blkOk_by (N := nLands) (sc := defScope sLands) (by decide +kernel)) (fun _ _ _ _ _ => pg_name (i := 5) nd rfl (.inl rfl)) (fun _ _ _ _ _ => pe_maxTu rfl hu T.max_ (pa_cons (pv 5) pa_nil))) pe_int))) pa_nil))) (pg_tupU (n := 2) rfl (pgs_cons (pg_name (i := 7) nd rfl (.inr rfl)) (pgs_cons (pg_name (i := 8) nd rfl (.inl rfl)) pgs_nil))))
      (pss_cons (ps_while PassesOwn.never (pt_cmpR (op_neLI hu) (pv 8) (pe_lstA pa_nil) (nomark _))
        (pss_one (ps_expr (pe_bm PySem.F.plainAttrs_list PySem.F.slot_list_append PySem.F.type_list_append mt_append (pv 7) (pa_cons (pe_bm PySem.F.plainAttrs_list PySem.F.slot_list_pop PySem.F.type_list_pop mt_popAt (pv 8) (pa_cons (PE_up (pe_ifExp (pt_cmp (pc_eqI (pcall T.spade ((ok_spade T).mono (k := 2) (by decide)) hr (pa_cons (pv 0) (pa_cons pe_int pa_nil))) pe_int)) (pcall T.spade ((ok_spade T).mono (k := 2) (by decide)) hr (pa_cons (pv 0) (pa_cons (pe_lenU T.len_ (pa_cons (pv 8) pa_nil)) pa_nil))) pe_int)) pa_nil)) pa_nil)))))
      (pss_one (ps_ret (pe_lcA (own := [("_law_one", 10), ("_law_two", 11), ("_law_three", 12)]) (tt := tYes) rfl nd (pi_list (pv 3)) (blkOk_by (N := nLands) (sc := defScope sLands) (by decide +kernel)) (fun _ _ _ _ _ => pg_tupU (n := 3) rfl (pgs_cons (pg_name (i := 10) nd rfl (.inl rfl)) (pgs_cons (pg_name (i := 11) nd rfl (.inl rfl)) (pgs_cons (pg_name (i := 12) nd rfl (.inl rfl)) pgs_nil)))) (fun _ _ _ _ _ => pts_nil)
          (fun _ _ _ _ _ => pe_tupD (pa_cons (pe_ixU (pv 7) (pv 10) (fun _ _ => rfl)) (pa_cons (pe_ixU (pv 7) (pv 11) (fun _ _ => rfl)) (pa_cons (pe_ixU (pv 7) (pv 12) (fun _ _ => rfl)) pa_nil))))))))))))), ?_⟩
    -- corners
    refine ⟨_, rfl, (show 4 ≤ sizeLine by decide), fun l0 H1 n1 e1 h1 => ⟨g, c, l0, _, 0, rfl, .inr (.inl h1), hg.ne n1, hg.mono e1, by omega, by simp, (show 4 ≤ 1000 by decide), fun H2 x i x2 g2 hx => ?_⟩⟩
    obtain ⟨k, hk, rfl⟩ : ∃ k : Nat, (k = 3 ∨ k = 4 ∨ k = 5 ∨ k = 6) ∧ x = .int (k : Nat) := by
      match i, hx with
      | 0, hx => cases hx; exact ⟨3, by simp, rfl⟩
      | 1, hx => cases hx; exact ⟨4, by simp, rfl⟩
      | 2, hx => cases hx; exact ⟨5, by simp, rfl⟩
      | 3, hx => cases hx; exact ⟨6, by simp, rfl⟩
    have k36 : 3 ≤ k ∧ k ≤ 6 := by omega
    have xx2 : SameX g H H2 := (Same.x e1).trans x2
    -- the fan
    refine ⟨_, rfl, _, 1, rfl, rfl, 1, _, rfl, ⟨by omega, by omega, by omega, by omega⟩, ?_⟩
    refine ⟨Nat, List.range (k - 2), fun _ => true, fun i y H' => ∃ q, y = V.ref q ∧ TuD H' q (l3 (0, (i : Int) + 1, (i : Int) + 1 + 1)), fun _ => True, YFn fun i => .int (1 + (i : Nat)), ?_, sz_lt (by rw [List.length_range]; omega), fun _ _ => trivial, fun d y H' H'' ex ⟨q, h1, h2⟩ => ⟨q, h1, h2.ext ex⟩, ?_, ?_⟩
    · have := walk_range (lo := 1) (n := k - 2)
      rw [List.length_range, show ((k : Int) - 1 - 1).toNat = k - 2 by omega]
      exact this
    · rintro j d x H3 H4 hd e3 ⟨rfl, rfl⟩
      have hdj : d = j := by
        rw [List.getElem?_range (by rw [← List.length_range (n := k - 2)]; exact (List.getElem?_eq_some_iff.mp hd).1)] at hd
        exact (Option.some.inj hd).symm
      subst hdj
      refine ⟨rfl, rfl, _, rfl, _, rfl, _, 1, rfl, rfl, s3, fun q o H5 n5 e5 ho hc h5 => ⟨e5, q, rfl, o, ?_, ho, hc⟩⟩
      rw [h5]
      simp only [l3, List.map_cons, List.map_nil, Int.add_comm 1 (d : Int)]
    intro p3 ys H3 n3 e3 h3 hpr
    rw [List.filter_eq_self.mpr (fun _ _ => rfl)] at hpr
    have L3 : LsD H3 p3 (fan k) := lsD_of (f := fun i : Nat => (0, (i : Int) + 1, (i : Int) + 1 + 1)) h3 hpr
    have g3 := g2.mono e3
    have hpg3 : p3 ≠ g := g2.ne n3
    have x3 : SameX g H H3 := xx2.trans (Same.x e3)
    -- or the wheel
    refine ⟨fun σ' H' => ∃ p ls n r, σ' = [some (.ref g), some (.int 3), some (.int (k : Nat)), some (.ref p), none, none, none, none, none, none, none, none, none] ∧ LsD H' p ls ∧ Good ls n r ∧ n ≤ 7 ∧ p ≠ g ∧ SameX g H H' ∧ Gard H' g c 2, ?_, ?_⟩
    · refine ⟨_, rfl, g, c, 2, 1, rfl, g3, by omega, by omega, by omega, fun H4 x x4 g4 h0 h2 => ⟨x, 0, rfl, rfl, _, rfl, ?_⟩⟩
      obtain ⟨gs3, hgs3⟩ := g3.at_
      refine ifB rfl (fun _ => ?_) (fun _ => ⟨p3, fan k, k, rim0 k, rfl, L3.sx x4 hgs3 hpg3, fan_good hk, by omega, hpg3, x3.trans x4, g4⟩)
      refine ⟨_, rfl, _, rfl, by omega, by omega, ?_⟩
      refine ⟨Nat, List.range k, fun _ => true, fun i y H' => ∃ q, y = V.ref q ∧ TuD H' q (l3 ((i : Int), ((i : Int) + 1) % (k : Int), (k : Int))), fun _ => True, fun i H x H' => H' = H ∧ x = .int (i : Nat), ?_, sz_lt (by rw [List.length_range]; omega), fun _ _ => trivial, fun d y H' H'' ex ⟨q, h1, h2⟩ => ⟨q, h1, h2.ext ex⟩, ?_, ?_⟩
      · have := walk_range0 (n := k)
        rw [List.length_range]
        exact this
      · rintro j d x H5 H6 hd e5 ⟨rfl, rfl⟩
        have hdj : d = j := by
          rw [List.getElem?_range (by rw [← List.length_range (n := k)]; exact (List.getElem?_eq_some_iff.mp hd).1)] at hd
          exact (Option.some.inj hd).symm
        subst hdj
        refine ⟨rfl, rfl, _, rfl, _, rfl, _, 1, rfl, rfl, .inl ⟨_, rfl, _, rfl, _, (k : Nat), rfl, rfl, (show (0 : Int) < (k : Nat) by omega), _, rfl, s3, fun q o H7 n7 e7 ho hc h7 => ⟨e7, q, rfl, o, h7, ho, hc⟩⟩⟩
      · intro p5 ys H5 n5 e5 h5 hpr5
        rw [List.filter_eq_self.mpr (fun _ _ => rfl)] at hpr5
        exact ⟨p5, wheel k, k + 1, rim0 k, rfl, lsD_of (f := fun i : Nat => ((i : Int), ((i : Int) + 1) % (k : Int), (k : Int))) h5 hpr5, wheel_good hk, by omega, g4.ne n5, (x3.trans x4).trans (Same.x e5), g4.mono e5⟩
    rintro σ4 H4 ⟨p4, ls4, n4, r4, rfl, L4, G4, hn4, hp4, x4, g4⟩
    -- more dots
    refine ⟨_, rfl, _, rfl, 3, 1, rfl, rfl, g, c, 4, 2, rfl, g4, by omega, by omega, by omega, fun H5 m x5 g5 m0 m4 => ⟨m, rfl, by omega, by omega, ?_⟩⟩
    obtain ⟨gs4, hgs4⟩ := g4.at_
    refine for_it walk_range0 (fun i σ' H' => ∃ p ls r y4, σ' = [some (.ref g), some (.int 3), some (.int (k : Nat)), some (.ref p), y4, none, none, none, none, none, none, none, none] ∧ LsD H' p ls ∧ Good ls (n4 + i) r ∧ p ≠ g ∧ SameX g H H' ∧ Gard H' g c (3 + i)) ⟨p4, ls4, r4, none, rfl, L4.sx x5 hgs4 hp4, G4, hp4, x4.trans x5, g5⟩ (fun _ _ _ _ _ => trivial) ?_ ?_
    · rintro i x σ' H6 H7 hi ⟨p, ls, r, y4, rfl, L, G, hp, xx, gg⟩ ⟨rfl, rfl⟩
      have hi4 : i < 3 := by omega
      have hsm := G.small
      obtain ⟨ps, hl, hpd⟩ := L
      have hplen := tuD_len hpd
      have hlen1 := G.len1
      obtain ⟨gs, hgs⟩ := gg.at_
      refine ⟨_, rfl, _, rfl, _, rfl, g, c, p, _, 3 + i, rfl, .inr (.inl hl), hp, gg, by omega, ?_, by rw [hplen]; omega, fun H8 y j x8 g8 hy => ?_⟩
      · intro e
        have h0 := congrArg List.length e
        rw [hplen, List.length_nil] at h0
        omega
      obtain ⟨t, l, rfl, hl', tl⟩ := tuD_at hpd hy
      have L8 : LsD H8 p ls := LsD.sx x8 hgs hp ⟨ps, hl, hpd⟩
      have tl8 := tl.ext (x8.ext hgs)
      refine ⟨p, ls, n4 + i, r, rfl, by decide, (show 5 < 13 by decide), L8, G, fun H9 e9 => ⟨_, 1, rfl, rfl, ?_⟩⟩
      refine ⟨p, t, _, ls, l, rfl, L8.mono e9, (tl8.mono e9).tu, by omega, fun H10 p10 e10 n10 L10 => ?_⟩
      rw [show ((n4 + i : Nat) : Int) - 1 + 1 = ((n4 + i : Nat) : Int) by omega] at L10
      refine ⟨p10, _, r, _, rfl, L10, ?_, (g8.mono e9).ne n10, (xx.trans x8).trans (Same.x (e9.trans e10)), (g8.mono (e9.trans e10)).le (by omega)⟩
      have := lawSplit_good G (List.mem_of_getElem? hl') (by omega)
      rw [show n4 + (i + 1) = n4 + i + 1 by omega]
      exact this
    rintro σ5 H5' ⟨p5, ls5, r5, y4, rfl, L5, G5, hp5, x5', g5'⟩
    generalize hn5 : n4 + m.toNat = n5 at G5
    have hn510 : n5 ≤ 10 := by omega
    have g6 : Gard H5' g c 6 := g5'.le (by omega)
    clear g5' g5 x5 hgs4 L4 G4 x4 g4
    -- other ties
    refine ⟨_, rfl, (show 4 ≤ sizeLine by decide), fun l0' H6 n6 e6 h6 => ⟨g, c, l0', _, 6, rfl, .inr (.inl h6), g6.ne n6, g6.mono e6, by omega, by simp, (show 4 ≤ 1000 by decide), fun H7 x i x7 g7 hx => ?_⟩⟩
    obtain ⟨m2, hm2, rfl⟩ : ∃ m2 : Nat, m2 ≤ 6 ∧ x = .int (m2 : Nat) := by
      match i, hx with
      | 0, hx => cases hx; exact ⟨0, by omega, rfl⟩
      | 1, hx => cases hx; exact ⟨1, by omega, rfl⟩
      | 2, hx => cases hx; exact ⟨3, by omega, rfl⟩
      | 3, hx => cases hx; exact ⟨6, by omega, rfl⟩
    refine ⟨_, rfl, by omega, by omega, ?_⟩
    obtain ⟨gs6, hgs6⟩ := (g6.mono e6).at_
    refine for_it walk_range0 (fun i σ' H' => ∃ p ls r y4 y5 y6, σ' = [some (.ref g), some (.int 3), some (.int (k : Nat)), some (.ref p), y4, y5, y6, none, none, none, none, none, none] ∧ LsD H' p ls ∧ Good ls n5 r ∧ p ≠ g ∧ SameX g H H' ∧ Gard H' g c (7 + i)) ⟨p5, ls5, r5, y4, none, none, rfl, (L5.mono e6).sx x7 hgs6 hp5, G5, hp5, (x5'.trans (Same.x e6)).trans x7, g7⟩ (fun _ _ _ _ _ => trivial) ?_ ?_
    · rintro i x σ' H8 H9 hi ⟨p, ls, r, y4, y5, y6, rfl, L, G, hp, xx, gg⟩ ⟨rfl, rfl⟩
      rw [show ((m2 : Nat) : Int).toNat = m2 by omega] at hi
      have hsm := G.small
      obtain ⟨ps, hl, hpd⟩ := L
      have hplen := tuD_len hpd
      have hlen1 := G.len1
      obtain ⟨gs, hgs⟩ := gg.at_
      refine ⟨_, rfl, _, rfl, g, c, p, _, 7 + i, rfl, .inr (.inl hl), hp, gg, by omega, ?_, by rw [hplen]; omega, fun H10 y j x10 g10 hy => ?_⟩
      · intro e
        have h0 := congrArg List.length e
        rw [hplen, List.length_nil] at h0
        omega
      obtain ⟨t, l, rfl, hl', tl⟩ := tuD_at hpd hy
      have L10 : LsD H10 p ls := LsD.sx x10 hgs hp ⟨ps, hl, hpd⟩
      have tl10 := tl.ext (x10.ext hgs)
      have xx10 := xx.trans x10
      refine ⟨_, rfl, _, rfl, t, _, 0, .int l.1, rfl, rfl, .inl tl10.tu, rfl, _, rfl, t, _, 1, .int l.2.1, rfl, rfl, .inl tl10.tu, rfl, ?_⟩
      refine ⟨p, l.1, l.2.1, ls, rfl, L10, by omega, fun H11 e11 => ?_, fun c d hc hd hno H11 p11 e11 n11 L11 => ?_⟩
      · exact ⟨_, rfl, rfl, _, rfl, ifF rfl ⟨_, rfl, p, ls, r, _, _, _, rfl, L10.mono e11, G, hp, xx10.trans (Same.x e11), (g10.mono e11).le (by omega)⟩⟩
      · have t1 := third_mem hc
        have t2 := third_mem hd
        exact ⟨_, rfl, rfl, _, rfl, ifT rfl ⟨_, rfl, p11, _, r, _, _, _, rfl, L11, lawFlip_good G t1 t2 hno, g10.ne n11, xx10.trans (Same.x e11), (g10.mono e11).le (by omega)⟩⟩
    rintro σ8 H8 ⟨p8, ls8, r8, y4, y5, y6, rfl, L8, G8, hp8, x8, g8'⟩
    have g8 : Gard H8 g c 13 := g8'.le (by omega)
    clear g8' g7 g6 G5 L5 x5' x7
    -- the names
    refine ⟨by decide, fun nl H9 n9 e9 h9 => ?_⟩
    refine ⟨p8, ls8, n5, r8, rfl, by decide, (show 5 < 13 by decide), L8.mono e9, G8, fun H10 e10 => ⟨_, 1, rfl, rfl, _, rfl, ?_, fun ll nll => ?_⟩⟩
    · exact ⟨by omega, by omega, by omega, by omega, by omega⟩
    have hll : upd H10 ll (.lst (rgV 0 ((n5 : Int) - 1 + 1))) ll = some (.lst (((List.range n5).map fun i : Nat => (i : Int)).map V.int)) := by
      rw [upd_same]
      unfold rgV
      rw [show ((n5 : Int) - 1 + 1 - 0).toNat = n5 by omega, List.map_map]
      congr 2
      refine List.map_congr_left fun i _ => ?_
      show V.int (0 + (i : Int)) = V.int (i : Int)
      rw [Int.zero_add]
    have e1011 : Same H10 (upd H10 ll (.lst (rgV 0 ((n5 : Int) - 1 + 1)))) := Same.new nll
    have hnl10 : H10 nl = some (.lst []) := e10 _ _ h9
    have hnl : nl ≠ ll := fun e => by rw [e, nll] at hnl10; cases hnl10
    generalize upd H10 ll (.lst (rgV 0 ((n5 : Int) - 1 + 1))) = H11 at hll e1011 ⊢
    refine ⟨s2, fun tp H12 n12 e12 h12 => ⟨tp, _, rfl, .inl h12, rfl, _, _, rfl, _, _, rfl, rfl, ?_⟩⟩
    have e812 : Same H8 H12 := (e9.trans e10).trans (e1011.trans e12)
    have g12 := g8.mono e812
    have hng : nl ≠ g := g8.ne n9
    have hlg : ll ≠ g := (g8.mono (e9.trans e10)).ne nll
    have x12 : SameX g H H12 := x8.trans (Same.x e812)
    have L12 := L8.mono e812
    have nnl : H nl = none := SameX.none x8 n9 hng
    have nll' : H ll = none := SameX.none (x8.trans (Same.x (e9.trans e10))) nll hlg
    have hp8n : p8 ≠ nl := fun e => by obtain ⟨ps, h, _⟩ := L8; rw [e, n9] at h; cases h
    have hp8l : p8 ≠ ll := fun e => by obtain ⟨ps, h, _⟩ := L8.mono (e9.trans e10); rw [e, nll] at h; cases h
    have h7n : H12 nl = some (.lst (([] : List Int).map V.int)) := e12 _ _ (e1011 _ _ hnl10)
    have h8n : H12 ll = some (.lst (((List.range n5).map fun i : Nat => (i : Int)).map V.int)) := e12 _ _ hll
    refine while_m (fun mm σ' H' => ∃ ms rest : List Int, σ' = [some (.ref g), some (.int 3), some (.int (k : Nat)), some (.ref p8), y4, y5, y6, some (.ref nl), some (.ref ll), none, none, none, none] ∧ H' nl = some (.lst (ms.map V.int)) ∧ H' ll = some (.lst (rest.map V.int)) ∧ (ms ++ rest).Perm ((List.range n5).map fun i : Nat => (i : Int)) ∧ LsD H' p8 ls8 ∧ SameX g H H' ∧ Gard H' g c (13 + 2 * ms.length) ∧ mm = rest.length) _
      ⟨[], _, rfl, h7n, h8n, .refl _, L12, x12, g12, rfl⟩ ?_
    rintro mm σ' H' ⟨ms, rest, rfl, hn, hl, hpm, L, xx, gg, rfl⟩
    have hml : ms.length + rest.length = n5 := by
      have := hpm.length_eq
      simpa using this
    obtain ⟨gs, hgs⟩ := gg.at_
    refine ⟨_, rfl, by decide, fun em H13 n13 e13 h13 => ⟨ll, em, rest, [], rfl, rfl, .inl (e13 _ _ hl), .inl h13, _, rfl, ?_⟩⟩
    have hn13 := e13 _ _ hn
    have hl13 := e13 _ _ hl
    have gg13 := gg.mono e13
    have hgs13 := e13 _ _ hgs
    refine ifB rfl (fun hc => ?_) (fun hc => ?_)
    · have hne : rest ≠ [] := of_decide_eq_true hc
      have hrp := List.length_pos_iff.mpr hne
      refine ⟨fun σ' H' => ∃ m' < rest.length, ∃ ms rest : List Int, σ' = [some (.ref g), some (.int 3), some (.int (k : Nat)), some (.ref p8), y4, y5, y6, some (.ref nl), some (.ref ll), none, none, none, none] ∧ H' nl = some (.lst (ms.map V.int)) ∧ H' ll = some (.lst (rest.map V.int)) ∧ (ms ++ rest).Perm ((List.range n5).map fun i : Nat => (i : Int)) ∧ LsD H' p8 ls8 ∧ SameX g H H' ∧ Gard H' g c (13 + 2 * ms.length) ∧ m' = rest.length, fun σ' H' ⟨m', h1, h2⟩ => ⟨m', h1, h2⟩, ?_⟩
      refine ⟨_, rfl, .inl ⟨rfl, _, .inl (.inl hn13)⟩, _, rfl, .inl ⟨rfl, _, .inl (.inl hl13)⟩, ?_⟩
      refine ⟨fun v H2 => ∃ i : Nat, v = .int (i : Nat) ∧ i < rest.length ∧ SameX g H13 H2 ∧ Gard H2 g c (13 + 2 * ms.length + 2), ?_, ?_⟩
      · refine ⟨_, rfl, g, c, 2, _, rfl, gg13, by omega, by omega, by omega, fun H14 x x14 g14 h0 h2 => ⟨x, 0, rfl, rfl, _, rfl, ?_⟩⟩
        refine ifB rfl (fun _ => ?_) (fun _ => ⟨0, rfl, hrp, x14, g14.le (by omega)⟩)
        have hl14 := x14 _ _ hlg hl13
        refine ⟨_, rfl, _, rfl, ll, _, rfl, .inr (.inl hl14), g, c, _, _, rfl, g14, ?_, ?_, by omega, fun H15 y x15 g15 h3 h4 => ?_⟩
        · rw [List.length_map]; omega
        · rw [List.length_map]; omega
        rw [List.length_map] at h4
        exact ⟨y.toNat, by rw [show ((y.toNat : Nat) : Int) = y by omega], by omega, x14.trans x15, g15⟩
      rintro v H14 ⟨i, rfl, hi, x14, g14⟩
      have hl14 := x14 _ _ hlg hl13
      have hn14 := x14 _ _ hng hn13
      obtain ⟨j, hj1, hj2, hj3, _⟩ := atI_get (xs := rest.map V.int) (i := (i : Nat)) (v := .int rest[i]) (atI_nat (by rw [List.getElem?_map, List.getElem?_eq_getElem hi]; rfl))
      rw [List.length_map] at hj3
      rw [List.getElem?_map, List.getElem?_eq_getElem hj3] at hj2
      have hji : rest[j] = rest[i] := by
        simp only [Option.map_some, Option.some.injEq, V.int.injEq] at hj2
        exact hj2
      refine ⟨ll, _, _, j, .int rest[j], rfl, rfl, hl14, by omega, by omega, hj1, by rw [List.getElem?_map, List.getElem?_eq_getElem hj3]; rfl, ?_⟩
      have hnl14 : upd H14 ll (.lst ((rest.map V.int).eraseIdx j)) nl = some (.lst (ms.map V.int)) := (upd_ne hnl).trans hn14
      refine ⟨nl, _, _, rfl, rfl, hnl14, by rw [List.length_map]; exact sz_lt (by omega), ?_⟩
      have L14 : LsD H14 p8 ls8 := LsD.sx x14 hgs13 hp8 (L.mono e13)
      have X1 : Ext H14 (upd H14 ll (.lst ((rest.map V.int).eraseIdx j))) := Ext.put hl14
      have X2 : Ext (upd H14 ll (.lst ((rest.map V.int).eraseIdx j))) (upd (upd H14 ll (.lst ((rest.map V.int).eraseIdx j))) nl (.lst (ms.map V.int ++ [.int rest[j]]))) := Ext.put hnl14
      refine ⟨rest.length - 1, by omega, ms ++ [rest[j]], rest.eraseIdx j, rfl, ?_, ?_, ?_, ?_, ?_, ?_, ?_⟩
      · rw [upd_same, List.map_append]; rfl
      · rw [upd_ne (Ne.symm hnl), upd_same, eraseIdx_map']
      · refine List.Perm.trans ?_ hpm
        rw [List.append_assoc]
        exact List.Perm.append_left ms (eraseIdx_perm' hj3)
      · obtain ⟨ps, h1, h2⟩ := L14
        exact ⟨ps, (upd_ne hp8n).trans ((upd_ne hp8l).trans h1), Paired_mono (fun _ _ z => TuD.ext (X1.trans X2) z) h2⟩
      · intro b x hb hx
        have hb1 : b ≠ nl := fun e => by rw [e, nnl] at hx; cases hx
        have hb2 : b ≠ ll := fun e => by rw [e, nll'] at hx; cases hx
        rw [upd_ne hb1, upd_ne hb2]
        exact x14 _ _ hb (e13 _ _ (xx _ _ hb hx))
      · obtain ⟨ns, t, left, q1, q2, q3⟩ := g14
        have hcn : c ≠ nl ∧ c ≠ ll := by
          obtain ⟨ns0, t0, left0, z1, z2, z3⟩ := hg
          exact ⟨fun e => (by rw [e, nnl] at z2; cases z2), fun e => (by rw [e, nll'] at z2; cases z2)⟩
        refine ⟨ns, t, left, (upd_ne (Ne.symm hng)).trans ((upd_ne (Ne.symm hlg)).trans q1), (upd_ne hcn.1).trans ((upd_ne hcn.2).trans q2), q3.1, q3.2.1, q3.2.2.1, ?_⟩
        have := q3.2.2.2
        rw [List.length_append, List.length_singleton]
        omega
      · rw [List.length_eraseIdx_of_lt hj3]
    · have hre : rest = [] := by simpa using hc
      subst hre
      rw [List.append_nil] at hpm
      obtain ⟨ps, hL, hpd⟩ := L.mono e13
      have hplen := tuD_len hpd
      have hsm := G8.small
      have hmem : ∀ x : Int, x ∈ ms ↔ 0 ≤ x ∧ x < n5 := fun x => by
        rw [hpm.mem_iff, List.mem_map]
        constructor
        · rintro ⟨i, hi, rfl⟩
          rw [List.mem_range] at hi
          omega
        · rintro ⟨h1, h2⟩
          exact ⟨x.toNat, List.mem_range.mpr (by omega), by omega⟩
      have hmnd : ms.Nodup := hpm.nodup_iff.mpr (nodup_map_on (fun x _ y _ e => by have e' : (x : Int) = (y : Int) := e; omega) List.nodup_range)
      have hmlen : ms.length = n5 := by simpa using hpm.length_eq
      have hget : ∀ x : Int, 0 ≤ x → x < n5 → ms[x.toNat]? = some (ms.getD x.toNat 0) := fun x h1 h2 => by
        have : x.toNat < ms.length := by omega
        simp [List.getD, List.getElem?_eq_getElem this]
      obtain ⟨r', Gr, hr'⟩ := G8.rename (nm := fun x => ms.getD x.toNat 0) (fun x h1 h2 => (hmem _).mp (List.mem_of_getElem? (hget x h1 h2))) (fun x y h1 h2 h3 h4 e => by
          have := (List.getElem?_inj (by omega : x.toNat < ms.length) hmnd (j := y.toNat)).mp (by rw [hget x h1 h2, hget y h3 h4, e])
          omega) (fun y h1 h2 => by
          obtain ⟨i, hi, e⟩ := List.mem_iff_getElem.mp ((hmem y).mpr ⟨h1, h2⟩)
          exact ⟨(i : Nat), by omega, by omega, by simp [List.getD, List.getElem?_eq_getElem hi, e]⟩)
      refine ⟨_, rfl, p8, rfl, ⟨_, .inl (.inl hL)⟩, ?_⟩
      refine ⟨Land, ls8, fun _ => true, fun l y H' => ∃ q, y = V.ref q ∧ TuD H' q (l3 (ren (fun x => ms.getD x.toNat 0) l)), _, _, walk_lands (K := K) hplen, sz_lt (by omega), fun H' e' => .inl (.inl (e' _ _ hL)), fun d y H' H'' ex ⟨q, h1, h2⟩ => ⟨q, h1, h2.ext ex⟩, ?_, ?_⟩
      · rintro i l x H14 H15 hi e14 ⟨rfl, hx⟩
        obtain ⟨t, l', rfl, hli, tl⟩ := tuD_at hpd hx
        rw [hi] at hli
        cases hli
        have tl' := tl.mono e14
        have hn15 := e14 _ _ hn13
        have hd : ∀ x ∈ l3 l, 0 ≤ x ∧ x < n5 := fun x hx => (G8.dots x).mp (mem_dot.mpr ⟨l, List.mem_of_getElem? hi, hx⟩)
        have hat : ∀ x ∈ l3 l, atI (ms.map V.int) x = some (.int (ms.getD x.toNat 0)) := fun x hx => by
          obtain ⟨h1, h2⟩ := hd x hx
          have := atI_nat (xs := ms.map V.int) (j := x.toNat) (v := .int (ms.getD x.toNat 0)) (by rw [List.getElem?_map, hget x h1 h2]; rfl)
          rwa [show ((x.toNat : Nat) : Int) = x by omega] at this
        refine ⟨t, _, rfl, tl'.tu, rfl, _, _, rfl, _, _, rfl, _, _, rfl, rfl, rfl, rfl, ?_⟩
        refine ⟨_, rfl, _, rfl, nl, _, _, _, rfl, rfl, .inr (.inl hn15), hat l.1 (by simp [l3]), _, rfl, _, rfl, nl, _, _, _, rfl, rfl, .inr (.inl hn15), hat l.2.1 (by simp [l3]), _, rfl, _, rfl, nl, _, _, _, rfl, rfl, .inr (.inl hn15), hat l.2.2 (by simp [l3]), s3, fun q5 o5 H16 n16 e16 ho hc h16 => ⟨e16, q5, rfl, o5, h16, ho, hc⟩⟩
      · intro D ys H14 nD e14 hD hpr
        rw [List.filter_eq_self.mpr (fun _ _ => rfl)] at hpr
        have xf : SameX g H H14 := (xx.trans (Same.x e13)).trans (Same.x e14)
        have hDg : D ≠ g := gg13.ne nD
        exact q H14 D _ n5 r' xf ((gg13.mono e14).le (by omega)) hDg (SameX.none (xx.trans (Same.x e13)) nD hDg) (lsD_of (f := ren fun x => ms.getD x.toNat 0) hD hpr) Gr hn510
end
end MF
end
section
set_option linter.all false
set_option maxRecDepth 100000
namespace MF
/-! sorted rows -/
theorem srt_sorted (l : List (List Int)) : (srt l).Pairwise (· ≤ ·) := by
  have h := List.pairwise_mergeSort (le := fun a b : List Int => decide (a ≤ b)) (fun a b c h1 h2 => decide_eq_true (List.le_trans (of_decide_eq_true h1) (of_decide_eq_true h2))) (fun a b => by rcases List.le_total a b with h | h <;> simp [h]) l
  exact h.imp fun h => of_decide_eq_true h
theorem sorted_eq : ∀ {l m : List (List Int)}, l.Pairwise (· ≤ ·) → m.Pairwise (· ≤ ·) → l.Perm m → l = m
  | [], m, _, _, p => by
    have := p.length_eq
    cases m with
    | nil => rfl
    | cons _ _ => simp at this
  | a :: l, [], _, _, p => by
    have := p.length_eq
    simp at this
  | a :: l, b :: m, h1, h2, p => by
    rw [List.pairwise_cons] at h1 h2
    have hab : a = b := by
      have ha : a ∈ b :: m := p.mem_iff.mp List.mem_cons_self
      have hb : b ∈ a :: l := p.mem_iff.mpr List.mem_cons_self
      rcases List.mem_cons.mp ha with rfl | ha
      · rfl
      · rcases List.mem_cons.mp hb with rfl | hb
        · rfl
        · exact List.le_antisymm (h1.1 b hb) (h2.1 a ha)
    subst hab
    rw [sorted_eq h1.2 h2.2 p.cons_inv]
theorem srt_perm_eq {l m : List (List Int)} (p : l.Perm m) : srt l = srt m := sorted_eq (srt_sorted l) (srt_sorted m) ((srt_perm l).trans (p.trans (srt_perm m).symm))
theorem srt_id {l : List (List Int)} (h : l.Pairwise (· ≤ ·)) : srt l = l := sorted_eq (srt_sorted l) h (srt_perm l)
/-! sums -/
theorem sum_add (f g : Nat → Nat) : ∀ l : List Nat, (l.map fun i => f i + g i).sum = (l.map f).sum + (l.map g).sum
  | [] => rfl
  | x :: l => by
    have := sum_add f g l
    simp only [List.map_cons, List.sum_cons]
    omega
theorem sum_one (v : Int) : ∀ n : Nat, 0 ≤ v → v < n → ((List.range n).map fun i : Nat => if v = (i : Int) then 1 else 0).sum = 1 := by
  intro n
  induction n with
  | zero => intro h1 h2; omega
  | succ n ih =>
    intro h1 h2
    rw [List.range_succ, List.map_append, List.sum_append]
    by_cases e : v = (n : Int)
    · have : ((List.range n).map fun i : Nat => if v = (i : Int) then 1 else 0).sum = 0 := by
        have hz : ∀ l : List Nat, (∀ i ∈ l, i < n) → (l.map fun i : Nat => if v = (i : Int) then 1 else 0).sum = 0 := by
          intro l
          induction l with
          | nil => intro _; rfl
          | cons x l ih2 =>
            intro h
            have hx := h x List.mem_cons_self
            simp only [List.map_cons, List.sum_cons]
            rw [if_neg (by omega), ih2 fun i hi => h i (List.mem_cons_of_mem _ hi)]
        exact hz _ fun i hi => List.mem_range.mp hi
      rw [this]
      simp [e]
    · rw [ih h1 (by omega)]
      simp [e]
theorem sum_filter (n : Nat) : ∀ L : List Pr, (∀ p ∈ L, 0 ≤ p.1 ∧ p.1 < n) → ((List.range n).map fun i : Nat => (L.filter fun p => decide (p.1 = (i : Int))).length).sum = L.length
  | [], _ => by
    have : ∀ l : List Nat, (l.map fun _ => 0).sum = 0 := by
      intro l
      induction l with
      | nil => rfl
      | cons x l ih => simp only [List.map_cons, List.sum_cons]; omega
    simpa using this (List.range n)
  | p :: L, h => by
    have ih := sum_filter n L fun q hq => h q (List.mem_cons_of_mem _ hq)
    have hp := h p List.mem_cons_self
    have e : ((List.range n).map fun i : Nat => ((p :: L).filter fun p => decide (p.1 = (i : Int))).length) = (List.range n).map fun i : Nat => (if p.1 = (i : Int) then 1 else 0) + (L.filter fun p => decide (p.1 = (i : Int))).length := by
      refine List.map_congr_left fun i _ => ?_
      by_cases z : p.1 = (i : Int)
      · simp [z]; omega
      · simp [z]
    rw [e, sum_add, sum_one p.1 n hp.1 hp.2, ih, List.length_cons]
    omega
/-! the rounds of a whole map -/
section
variable {ls : List Land} {n : Nat} {r : List Int} {W : List Land}
/-- what the ways of a map are, in any order -/
structure GoodW (W : List Land) (n : Nat) (r : List Int) : Prop where
  nd : (W.map key).Nodup
  B : Base (Tr W)
  L : Link (Tr W)
  dots : ∀ x, (∃ b c, (x, b, c) ∈ W) ↔ 0 ≤ x ∧ x < n
  ring : IsRing W r
theorem Good.w (g : Good ls n r) (p : W.Perm (ways ls)) : GoodW W n r := by
  have e : Tr W = Tr (ways ls) := by
    funext a b c
    exact propext p.mem_iff
  exact ⟨((p.map key).nodup_iff).mpr g.nd, e ▸ g.B, e ▸ g.L, fun x => by rw [← g.dots]; simp only [p.mem_iff], g.ring.perm p.symm g.nd⟩
/-- whether the round closes -/
theorem round_end (g : GoodW W n r) {v f : Int} {fs : List Int} (hf : IsFirst W v (outs W v) f) (hr : IsRound W v f fs) : ∃ l last, fs = l ++ [last] ∧ Rnd W v f l last ∧ if v ∈ r then third W v last = none else third W v last = some f := by
  have mem := round_mem g.B g.nd g.L hf hr
  obtain ⟨l, last, rfl, rn, he⟩ := hr
  refine ⟨l, last, rfl, rn, ?_⟩
  split
  · rename_i hv
    rcases he with he | he
    · exact he
    · exfalso
      obtain ⟨i, hi, hiv⟩ := List.mem_iff_getElem.mp hv
      have hm : (i + 1) % r.length < r.length := Nat.mod_lt _ (by omega)
      have hrim := (g.ring.rim v r[(i + 1) % r.length]).mpr ⟨i, by rw [List.getElem?_eq_getElem hi, hiv], List.getElem?_eq_getElem hm⟩
      have hback : (f, v, last) ∈ W := g.B.cyc (g.B.cyc (third_mem he))
      rcases hf.2 with h | h
      · exact third_none.mp h _ hback
      · obtain ⟨c, hc⟩ := hrim.1
        exact h _ (mem_outs.mpr ⟨c, hc⟩) hrim.2
  · rename_i hv
    rcases he with he | he
    · exfalso
      have : last ∈ l ++ [last] := by simp
      rcases (mem last).mp this with ⟨c, hc⟩ | ⟨c, hc⟩
      · exact third_none.mp he c hc
      · obtain ⟨i, h1, h2⟩ := (g.ring.rim last v).mp ⟨⟨c, hc⟩, he⟩
        exact hv (List.mem_of_getElem? h2)
    · exact he
/-- the pairs that the law goes over -/
def zp (r : List Int) (v : Int) (fs : List Int) : List Pr := fs.zip (fs.tail ++ if v ∈ r then [] else fs.take 1)
theorem mem_zp (g : GoodW W n r) {v f : Int} {fs : List Int} (hf : IsFirst W v (outs W v) f) (hr : IsRound W v f fs) (o t : Int) : (o, t) ∈ zp r v fs ↔ (v, o, t) ∈ W := by
  have mem := round_mem g.B g.nd g.L hf hr
  obtain ⟨l, last, rfl, rn, he⟩ := round_end g hf hr
  have hhead := rn.head
  have third_of : ∀ {i : Nat} {a b : Int}, (l ++ [last])[i]? = some a → ((l ++ [last]).tail ++ if v ∈ r then [] else (l ++ [last]).take 1)[i]? = some b → third W v a = some b := by
    intro i a b h1 h2
    by_cases hi : i < l.length
    · rw [List.getElem?_append_left (by simp; omega), List.getElem?_tail] at h2
      exact rn.chain i a b h1 h2
    · have hil := (List.getElem?_eq_some_iff.mp h1).1
      have hie : i = l.length := by simp at hil; omega
      subst hie
      rw [List.getElem?_append_right (by simp)] at h2
      split at h2
      · simp at h2
      · rename_i hv
        rw [if_neg hv] at he
        have hb : b = f := by
          cases hl : l ++ [last] with
          | nil => simp at hl
          | cons x xs =>
            have hlx : xs.length = l.length := by
              have := congrArg List.length hl
              simp at this
              omega
            rw [hl] at hhead h2
            rw [List.tail_cons, show l.length - xs.length = 0 by omega] at h2
            have h2' : some x = some b := h2
            have hh : some x = some f := hhead
            rw [hh] at h2'
            exact (Option.some.inj h2').symm
        have ha : a = last := by simpa using h1.symm
        rw [ha, he, hb]
  unfold zp
  constructor
  · intro h
    obtain ⟨i, hi, e⟩ := List.mem_iff_getElem.mp h
    have h1 := List.getElem?_eq_getElem hi
    rw [e, List.getElem?_zip_eq_some] at h1
    exact third_mem (third_of h1.1 h1.2)
  · intro h
    have hs := (third_some g.nd).mpr h
    obtain ⟨i, hi, e⟩ := List.mem_iff_getElem.mp ((mem o).mpr (.inl ⟨t, h⟩))
    have h1 : (l ++ [last])[i]? = some o := by rw [List.getElem?_eq_getElem hi, e]
    have hlen : i < ((l ++ [last]).tail ++ if v ∈ r then [] else (l ++ [last]).take 1).length := by
      by_cases hil : i < l.length
      · simp; omega
      · have hie : i = l.length := by simp at hi; omega
        subst hie
        have ho : o = last := by simpa using h1.symm
        split
        · rename_i hv
          rw [if_pos hv, ← ho, hs] at he
          cases he
        · simp
    have h2 := List.getElem?_eq_getElem hlen
    have := third_of h1 h2
    rw [hs] at this
    have h3 : ((l ++ [last]).zip ((l ++ [last]).tail ++ if v ∈ r then [] else (l ++ [last]).take 1))[i]? = some (o, t) := by
      rw [List.getElem?_zip_eq_some]
      exact ⟨h1, by rw [h2, Option.some.inj this]⟩
    exact List.mem_of_getElem? h3
theorem zip_fst_sub {α β : Type} : ∀ (xs : List α) (ys : List β), ((xs.zip ys).map (·.1)).Sublist xs
  | [], ys => by simp
  | x :: xs, [] => by simp
  | x :: xs, y :: ys => by
    rw [List.zip_cons_cons, List.map_cons]
    exact (zip_fst_sub xs ys).cons₂ x
theorem nodup_tagged {f : Nat → List Land} (hf : ∀ i, (f i).Nodup) (ht : ∀ i, ∀ x ∈ f i, x.1 = (i : Int)) : ∀ {l : List Nat}, l.Nodup → (l.flatMap f).Nodup
  | [], _ => List.nodup_nil
  | i :: l, h => by
    rw [List.nodup_cons] at h
    rw [List.flatMap_cons, List.nodup_append]
    refine ⟨hf i, nodup_tagged hf ht h.2, fun x hx y hy e => ?_⟩
    subst e
    obtain ⟨j, hj, hxj⟩ := List.mem_flatMap.mp hy
    have h1 := ht i x hx
    have h2 := ht j x hxj
    have : i = j := by omega
    exact h.1 (this ▸ hj)
theorem zp_nodup {v : Int} {fs : List Int} (h : fs.Nodup) : (zp r v fs).Nodup := by
  refine nodup_of_map (f := (·.1)) ?_
  unfold zp
  exact h.sublist (zip_fst_sub _ _)
/-- all the ways, from the rounds -/
theorem rounds_ways (g : GoodW W n r) {rds : List (List Int)} (hl : rds.length = n) (h : ∀ (i : Nat) (rd : List Int), rds[i]? = some rd → ∃ f, IsFirst W i (outs W i) f ∧ IsRound W i f rd) :
    ((List.range n).flatMap fun i : Nat => (zp r (i : Int) (rds.getD i [])).map fun p => ((i : Int), p.1, p.2)).Perm W := by
  have hW : W.Nodup := nodup_of_map g.nd
  have rd : ∀ i : Nat, i < n → ∃ f, IsFirst W i (outs W i) f ∧ IsRound W i f (rds.getD i []) := fun i hi => h i _ (by simp [List.getD, List.getElem?_eq_getElem (show i < rds.length by omega)])
  refine (List.perm_ext_iff_of_nodup ?_ hW).mpr ?_
  · have key2 : ∀ {l : List Nat}, l.Nodup → (∀ i ∈ l, i < n) → (l.flatMap fun i : Nat => (zp r (i : Int) (rds.getD i [])).map fun p => ((i : Int), p.1, p.2)) = l.flatMap fun i : Nat => if i < n then (zp r (i : Int) (rds.getD i [])).map fun p => ((i : Int), p.1, p.2) else [] := by
      intro l _ hl2
      induction l with
      | nil => rfl
      | cons x l ih =>
        rename_i hnd
        rw [List.flatMap_cons, List.flatMap_cons, if_pos (hl2 x List.mem_cons_self), ih (List.nodup_cons.mp hnd).2 fun i hi => hl2 i (List.mem_cons_of_mem _ hi)]
    rw [key2 List.nodup_range fun i hi => List.mem_range.mp hi]
    refine nodup_tagged (fun i => ?_) (fun i x hx => ?_) List.nodup_range
    · split
      · rename_i hi
        obtain ⟨f, hf, l, last, e, rn, _⟩ := rd i hi
        refine nodup_map_on (fun x _ y _ e => ?_) (zp_nodup (by rw [e]; exact rn.nd))
        simp only [Prod.mk.injEq] at e
        exact Prod.ext e.2.1 e.2.2
      · exact List.nodup_nil
    · split at hx
      · obtain ⟨p, _, rfl⟩ := List.mem_map.mp hx
        rfl
      · cases hx
  · rintro ⟨a, b, c⟩
    rw [List.mem_flatMap]
    constructor
    · rintro ⟨i, hi, hx⟩
      obtain ⟨f, hf, hr⟩ := rd i (List.mem_range.mp hi)
      obtain ⟨⟨o, t⟩, hp, e⟩ := List.mem_map.mp hx
      simp only [Prod.mk.injEq] at e
      obtain ⟨rfl, rfl, rfl⟩ := e
      exact (mem_zp g hf hr o t).mp hp
    · intro hx
      have hd := (g.dots a).mp ⟨b, c, hx⟩
      have hi : a.toNat < n := by omega
      obtain ⟨f, hf, hr⟩ := rd a.toNat hi
      refine ⟨a.toNat, List.mem_range.mpr hi, List.mem_map.mpr ⟨(b, c), ?_, ?_⟩⟩
      · refine (mem_zp g hf hr b c).mpr ?_
        rw [show ((a.toNat : Nat) : Int) = a by omega]
        exact hx
      · rw [show ((a.toNat : Nat) : Int) = a by omega]
end
end MF
end
section
set_option linter.all false
set_option maxRecDepth 100000
namespace MF
section
variable {ls : List Land} {n : Nat} {r : List Int} {W : List Land}
theorem ring_dots (g : GoodW W n r) {x : Int} (hx : x ∈ r) : 0 ≤ x ∧ x < n := by
  obtain ⟨i, hi, rfl⟩ := List.mem_iff_getElem.mp hx
  have hm : (i + 1) % r.length < r.length := Nat.mod_lt _ (by omega)
  obtain ⟨⟨c, hc⟩, _⟩ := (g.ring.rim r[i] r[(i + 1) % r.length]).mpr ⟨i, List.getElem?_eq_getElem hi, List.getElem?_eq_getElem hm⟩
  exact (g.dots _).mp ⟨_, _, hc⟩
theorem inner_length (g : GoodW W n r) : (inner n r).length + r.length = n := by
  have hnd : ((List.range n).map fun i : Nat => (i : Int)).Nodup := nodup_map_on (fun x _ y _ e => by have e' : (x : Int) = (y : Int) := e; omega) List.nodup_range
  have h1 := filter_length (ls := (List.range n).map fun i : Nat => (i : Int)) (gone := r) (keep := fun d => decide (d ∉ r)) hnd g.ring.nd fun x => by
    rw [List.mem_map]
    constructor
    · intro hx
      obtain ⟨a, b⟩ := ring_dots g hx
      exact ⟨⟨x.toNat, List.mem_range.mpr (by omega), by omega⟩, by simpa using hx⟩
    · rintro ⟨_, hx⟩
      simpa using hx
  rw [List.length_map, List.length_range] at h1
  exact h1
theorem mem_inner {x : Int} : x ∈ inner n r ↔ (0 ≤ x ∧ x < n) ∧ x ∉ r := by
  unfold inner
  rw [List.mem_filter, List.mem_map, decide_eq_true_eq]
  constructor
  · rintro ⟨⟨i, hi, rfl⟩, h⟩
    rw [List.mem_range] at hi
    exact ⟨by omega, h⟩
  · rintro ⟨h, h'⟩
    exact ⟨⟨x.toNat, List.mem_range.mpr (by omega), by omega⟩, h'⟩
theorem round_nodup {v f : Int} {fs : List Int} (hr : IsRound W v f fs) : fs.Nodup := by
  obtain ⟨l, last, rfl, rn, _⟩ := hr
  exact rn.nd
theorem rounds_sum (g : GoodW W n r) {rds : List (List Int)} (hl : rds.length = n) (h : ∀ (i : Nat) (rd : List Int), rds[i]? = some rd → ∃ f, IsFirst W i (outs W i) f ∧ IsRound W i f rd) : (rds.map (·.length)).sum = 2 * (ties W).length := by
  rw [ties_length g.ring g.B g.nd, ← both_length, ← sum_filter n (both W r) fun p hp => ?_]
  · congr 1
    apply List.ext_getElem
    · simp [hl]
    · intro i h1 h2
      rw [List.getElem_map, List.getElem_map, List.getElem_range]
      have hi : i < rds.length := by simpa using h1
      obtain ⟨f, hf, hr⟩ := h i rds[i] (List.getElem?_eq_getElem hi)
      rw [← List.length_map (f := fun p : Pr => p.2) (as := (both W r).filter _)]
      refine len_of_mem' (round_nodup hr) (nodup_map_on (fun x hx y hy e => ?_) ((both_nodup g.ring g.nd).sublist List.filter_sublist)) fun x => ?_
      · rw [List.mem_filter, decide_eq_true_eq] at hx hy
        exact Prod.ext (hx.2.trans hy.2.symm) e
      · rw [round_mem g.B g.nd g.L hf hr, List.mem_map]
        constructor
        · intro hx
          exact ⟨((i : Int), x), List.mem_filter.mpr ⟨(mem_both g.ring).mpr hx, by simp⟩, rfl⟩
        · rintro ⟨⟨a, b⟩, hp, rfl⟩
          rw [List.mem_filter, decide_eq_true_eq] at hp
          obtain ⟨hp, e⟩ := hp
          simp only at e
          subst e
          exact (mem_both g.ring).mp hp
  · obtain ⟨a, b⟩ := p
    rcases (mem_both g.ring).mp hp with ⟨c, hc⟩ | ⟨c, hc⟩
    · exact (g.dots a).mp ⟨_, _, hc⟩
    · exact (g.dots a).mp ⟨_, _, g.B.cyc hc⟩
theorem ties_at (g : GoodW W n r) {v f : Int} {fs : List Int} (hf : IsFirst W v (outs W v) f) (hr : IsRound W v f fs) : (ties W).filter (fun t => decide (v ∈ t)) = srt (fs.map fun o => [min v o, max v o]) := by
  refine sorted_eq ((srt_sorted _).sublist List.filter_sublist) (srt_sorted _) ?_
  have hne : ∀ o ∈ fs, o ≠ v := fun o ho e => by
    subst e
    rcases (round_mem g.B g.nd g.L hf hr o).mp ho with ⟨c, hc⟩ | ⟨c, hc⟩ <;> exact g.B.ne hc rfl
  have n1 : (ties W).Nodup := (srt_perm _).nodup_iff.mpr (nub_nodup _)
  have n2 : (fs.map fun o => [min v o, max v o]).Nodup := nodup_map_on (fun x hx y hy e => by
    have h1 := hne x hx
    have h2 := hne y hy
    simp only [List.cons.injEq, and_true] at e
    omega) (round_nodup hr)
  refine (List.perm_ext_iff_of_nodup (n1.sublist List.filter_sublist) ((srt_perm _).nodup_iff.mpr n2)).mpr fun ns => ?_
  rw [mem_srt, List.mem_filter, decide_eq_true_eq, List.mem_map]
  show ns ∈ srt _ ∧ _ ↔ _
  rw [mem_srt, mem_tie g.ring g.B]
  constructor
  · rintro ⟨⟨a, b, rfl, hab, hm⟩, hv⟩
    simp only [List.mem_cons, List.not_mem_nil, or_false] at hv
    rcases hv with rfl | rfl
    · exact ⟨b, (round_mem g.B g.nd g.L hf hr b).mpr ((mem_both g.ring).mp hm), by rw [Int.min_eq_left (by omega), Int.max_eq_right (by omega)]⟩
    · exact ⟨a, (round_mem g.B g.nd g.L hf hr a).mpr ((mem_both g.ring).mp ((both_comm g.ring).mp hm)), by rw [Int.min_eq_right (by omega), Int.max_eq_left (by omega)]⟩
  · rintro ⟨o, ho, rfl⟩
    have hm := (mem_both g.ring).mpr ((round_mem g.B g.nd g.L hf hr o).mp ho)
    have h1 := hne o ho
    by_cases hlt : v < o
    · rw [Int.min_eq_left (by omega), Int.max_eq_right (by omega)]
      exact ⟨⟨v, o, rfl, hlt, hm⟩, by simp⟩
    · rw [Int.min_eq_right (by omega), Int.max_eq_left (by omega)]
      exact ⟨⟨o, v, rfl, by omega, (both_comm g.ring).mp hm⟩, by simp⟩
theorem rot_cyc {a b c : Int} (d : Dis (a, b, c)) : rot (b, c, a) = rot (a, b, c) := by
  obtain ⟨d1, d2, d3⟩ := d
  simp only at d1 d2 d3
  unfold rot
  simp only
  by_cases h1 : a ≤ b ∧ a ≤ c
  · rw [if_pos h1, if_neg (by omega), if_neg (by omega)]
  · rw [if_neg h1]
    by_cases h2 : b ≤ a ∧ b ≤ c
    · rw [if_pos h2, if_pos (by omega)]
    · rw [if_neg h2, if_neg (by omega), if_pos (by omega)]
theorem ways_rots {ls : List Land} (hd : ∀ l ∈ ls, Dis l) (hr : ∀ l ∈ ls, rot l = l) : (ways ls).map rot = ls.flatMap fun l => [l, l, l] := by
  induction ls with
  | nil => rfl
  | cons x ls ih =>
    rw [show ways (x :: ls) = ways1 x ++ ways ls from rfl, List.map_append, ih (fun l h => hd l (List.mem_cons_of_mem _ h)) (fun l h => hr l (List.mem_cons_of_mem _ h)), List.flatMap_cons]
    congr 1
    obtain ⟨a, b, c⟩ := x
    have dx := hd _ List.mem_cons_self
    have rx := hr _ List.mem_cons_self
    have d2 : Dis (b, c, a) := ⟨dx.2.2, dx.1.symm, dx.2.1.symm⟩
    show [rot (a, b, c), rot (b, c, a), rot (c, a, b)] = _
    rw [rot_cyc d2, rot_cyc dx, rx]
theorem flat3 {α : Type} : ∀ ls : List α, (ls.flatMap fun l => [l, l, l]).Perm ((List.replicate 3 ls).flatten)
  | [] => .refl _
  | x :: ls => by
    have ih := flat3 ls
    rw [List.flatMap_cons]
    show (x :: x :: x :: ls.flatMap fun l => [l, l, l]).Perm (x :: ls ++ (x :: ls ++ (x :: ls ++ [])))
    refine List.Perm.cons x ?_
    have ih' : (ls.flatMap fun l => [l, l, l]).Perm (ls ++ (ls ++ (ls ++ []))) := ih
    have e1 : (x :: (ls ++ (ls ++ (ls ++ [])))).Perm (ls ++ (ls ++ x :: (ls ++ []))) := by
      have := (List.perm_middle (a := x) (l₁ := ls ++ ls) (l₂ := ls ++ [])).symm
      simpa only [List.append_assoc] using this
    have e2 : (x :: (ls ++ (ls ++ x :: (ls ++ [])))).Perm (ls ++ x :: (ls ++ x :: (ls ++ []))) := (List.perm_middle (a := x) (l₁ := ls) (l₂ := ls ++ x :: (ls ++ []))).symm
    exact (List.Perm.cons x ((List.Perm.cons x ih').trans e1)).trans e2
end
end MF
namespace MF
theorem flatMap_map' {α β γ : Type} (f : α → List β) (h : β → γ) : ∀ l : List α, (l.flatMap f).map h = l.flatMap fun a => (f a).map h
  | [] => rfl
  | x :: l => by rw [List.flatMap_cons, List.flatMap_cons, List.map_append, flatMap_map' f h l]
theorem met_sorted {ls : List Land} {n : Nat} {r : List Int} {W : List Land} (g : GoodW W n r) (p : W.Perm (ways ls)) (hd : ∀ l ∈ ls, Dis l) (hr : ∀ l ∈ ls, rot l = l) {rds : List (List Int)} (hl : rds.length = n) (h : ∀ (i : Nat) (rd : List Int), rds[i]? = some rd → ∃ f, IsFirst W i (outs W i) f ∧ IsRound W i f rd) :
    srt (((List.range n).flatMap fun i : Nat => (zp r (i : Int) (rds.getD i [])).map fun p => rot ((i : Int), p.1, p.2)).map l3) = srt ((List.replicate 3 (ls.map l3)).flatten) := by
  refine srt_perm_eq ?_
  have e : ((List.range n).flatMap fun i : Nat => (zp r (i : Int) (rds.getD i [])).map fun p => rot ((i : Int), p.1, p.2)) = ((List.range n).flatMap fun i : Nat => (zp r (i : Int) (rds.getD i [])).map fun p => ((i : Int), p.1, p.2)).map rot := by
    rw [flatMap_map']
    congr 1
    funext i
    rw [List.map_map]
    rfl
  rw [e]
  have q := ((rounds_ways g hl h).trans p).map rot
  rw [ways_rots hd hr] at q
  have q2 := (q.trans (flat3 ls)).map l3
  rw [List.map_flatten, List.map_replicate] at q2
  exact q2
end MF
end
section
set_option Elab.async false
set_option linter.all false
set_option maxRecDepth 100000
set_option maxHeartbeats 4000000
namespace MF
open PySem PySem.Spec PyProof.Rows L2
theorem pe_min2 {X : Cx} {a b : Expr} {t : TA} {p pos : Pos} (hc : X.calm = true) (hm : X.mg "min" = none) (ha : PA X [a, b] t) (hg : Gl X "min" := by rfl) (hs : starEach [a, b] X.env = (false, eval a X.env) :: starEach [b] X.env := by rfl) (hpl : (backTo pos (starEach [b] X.env)).any (·.1) = false := by rfl) :
    PE X (.Call (.Name "min" p) [a, b] [] pos) (fun σ H Q => t σ H fun vs H1 => ∃ i j : Int, vs = [.int i, .int j] ∧ Q (.int (min i j)) H1) :=
  PE_imp (pe_callB (id := "min") (call_min2 hc) hg hm (by decide +kernel) (PA_up ha) (by decide) (by decide) hs hpl) fun σ H Q q => ⟨_, q, fun vs H1 ⟨i, j, e, k⟩ => ⟨i, j, e, by
    rw [show (if j < i then j else i) = min i j by split <;> omega]
    exact k⟩⟩
theorem pe_max2 {X : Cx} {a b : Expr} {t : TA} {p pos : Pos} (hc : X.calm = true) (hm : X.mg "max" = none) (ha : PA X [a, b] t) (hg : Gl X "max" := by rfl) (hs : starEach [a, b] X.env = (false, eval a X.env) :: starEach [b] X.env := by rfl) (hpl : (backTo pos (starEach [b] X.env)).any (·.1) = false := by rfl) :
    PE X (.Call (.Name "max" p) [a, b] [] pos) (fun σ H Q => t σ H fun vs H1 => ∃ i j : Int, vs = [.int i, .int j] ∧ Q (.int (max i j)) H1) :=
  PE_imp (pe_callB (id := "max") (call_max2 hc) hg hm (by decide +kernel) (PA_up ha) (by decide) (by decide) hs hpl) fun σ H Q q => ⟨_, q, fun vs H1 ⟨i, j, e, k⟩ => ⟨i, j, e, by
    rw [show (if j > i then j else i) = max i j by split <;> omega]
    exact k⟩⟩
theorem walk_zipT {K : PySem.W.Frag} {a b : Addr} {xs ys : List V} {n : Nat} (hn : n = min xs.length ys.length) : Walk (RZ.ItzT K a b) n (fun H => SqT K H a xs ∧ SqT K H b ys) (YPair (fun i => xs[i]?) (fun i => ys[i]?)) := by
  subst hn
  refine ⟨fun i H hi q => ?_, fun H q => ⟨xs, ys, q.1, q.2, by omega⟩, fun i H v H' _ q y => ?_⟩
  · have h1 : i < xs.length := by omega
    have h2 : i < ys.length := by omega
    exact ⟨xs, ys, xs[i], ys[i], q.1, q.2, by simp [h1], by simp [h2]⟩
  · obtain ⟨T, x, z, h1, h2, h3, h4, h5⟩ := y
    exact ⟨T, x, z, h1, h2, h3, h4 xs q.1, h5 ys q.2⟩
theorem tus_refs {H : Hp} {α : Type} {f : α → List Int} : ∀ {xs : List α} {ys : List V}, Paired (fun x y => ∃ q, y = V.ref q ∧ Tu H q (f x)) xs ys → ∃ qs : List Addr, ys = qs.map V.ref ∧ Tus H qs (xs.map f)
  | _, _, .nil => ⟨[], rfl, .nil⟩
  | _, _, .cons ⟨q, e, h⟩ t => by
    obtain ⟨qs, e1, h1⟩ := tus_refs t
    exact ⟨q :: qs, by rw [e, e1]; rfl, .cons h h1⟩
theorem rounds_split {H : Hp} {W : List Land} : ∀ {is : List Nat} {ys : List V}, Paired (fun (i : Nat) y => ∃ p rd f, y = V.ref p ∧ TuX H p rd ∧ IsFirst W i (outs W i) f ∧ IsRound W i f rd) is ys →
    ∃ (ps : List Addr) (rds : List (List Int)), ys = ps.map V.ref ∧ Paired (TuX H) ps rds ∧ Paired (fun (i : Nat) rd => ∃ f, IsFirst W i (outs W i) f ∧ IsRound W i f rd) is rds
  | _, _, .nil => ⟨[], [], rfl, .nil, .nil⟩
  | _, _, .cons ⟨p, rd, f, e, h1, h2, h3⟩ t => by
    obtain ⟨ps, rds, e1, k1, k2⟩ := rounds_split t
    exact ⟨p :: ps, rd :: rds, by rw [e, e1]; rfl, .cons h1 k1, .cons ⟨f, h2, h3⟩ k2⟩
theorem cut_tail (rd : List Int) : cutV (rd.map V.int) (some 1) none = rd.tail.map V.int := by
  cases rd with
  | nil => rfl
  | cons x xs =>
    unfold cutV
    have e1 : HT.sIx ((x :: xs).map V.int).length 0 (some 1) = 1 := by
      unfold HT.sIx
      simp
    have e2 : HT.sIx ((x :: xs).map V.int).length ((x :: xs).map V.int).length none = xs.length + 1 := by
      unfold HT.sIx
      simp
    rw [e1, e2]
    show List.take xs.length (List.map V.int xs) = List.map V.int xs
    exact List.take_of_length_le (by simp)
theorem cut_head (rd : List Int) : cutV (rd.map V.int) none (some 1) = (rd.take 1).map V.int := by
  cases rd with
  | nil => rfl
  | cons x xs =>
    unfold cutV
    have e1 : HT.sIx ((x :: xs).map V.int).length 0 none = 0 := rfl
    have e2 : HT.sIx ((x :: xs).map V.int).length ((x :: xs).map V.int).length (some 1) = 1 := by
      unfold HT.sIx
      simp
    rw [e1, e2]
    simp
theorem sum_cast : ∀ rds : List (List Int), (rds.map fun rd => (rd.length : Int)).sum = (((rds.map (·.length)).sum : Nat) : Int)
  | [] => rfl
  | x :: l => by
    have := sum_cast l
    simp only [List.map_cons, List.sum_cons]
    omega
section
variable {P : Program} {w : World} {K : PySem.W.Frag} {mg : Str → Option Value} {base : Heap}
abbrev nCounts : List Str := ["_law_chart", "_law_corners", "_law_inner", "_law_dot", "_law_lands_here", "_law_ties", "_law_rounds", "_law_met", "_law_found", "_law_later", "_law_each", "_law_tie", "_law_other", "_law_one"]
theorem scCounts : FnScope ["_law_chart", "_law_corners", "_law_inner", "_law_dot", "_law_lands_here", "_law_ties", "_law_rounds", "_law_met", "_law_found", "_law_later", "_law_each", "_law_tie", "_law_other", "_law_one"] ["_law_chart", "_law_corners", "_law_inner"] (defScope sCounts) := ⟨rfl, rfl, rfl, by decide +kernel, rfl, by decide +kernel, by decide +kernel⟩
def spCounts (C : Addr) : Sp := fun vs H Q _ => ∃ (m : Addr) (ls : List Land) (n : Nat) (r : List Int) (c i : Int), vs = [.ref m, .int c, .int i] ∧ c = r.length ∧ i = (n : Int) - r.length ∧ MapAt C H m ls n r ∧ ∀ H', Same H H' → Q (.bl true) H'
theorem ok_counts (T : Tx K mg) : FnOk P w K mg base CX0 6 T.counts.f T.counts.fd ["_law_chart", "_law_corners", "_law_inner"] (spCounts T.CMap) := by
  refine okN T.counts.F scCounts (fun vs H Q E h => ?_) (fun cdv A outer s0 H vs Q E hr h => ?_)
  · obtain ⟨m, ls, n, r, c, i, rfl, _⟩ := h
    rfl
  · obtain ⟨m, ls, n, r, cc, ci, rfl, rfl, rfl, hm, q⟩ := h
    have nd := scCounts.nd
    have hu := hu_of hr
    have hu64 := hr.units
    have hu2 : (A.deeper (envOfC (Str.ofString "_law_counts_right") (defScope sCounts) s0.heap.objs.size T.counts.f cdv)).units + 2 < cLine := by omega
    have hu3 : (A.deeper (envOfC (Str.ofString "_law_counts_right") (defScope sCounts) s0.heap.objs.size T.counts.f cdv)).units + 3 < cLine := by omega
    refine ⟨_, pss_cons (ps_par3 (i := 4) (j := 5) (l := 6) rfl nd rfl rfl rfl (by decide) (by decide) (by decide) rfl rfl rfl (pa_cons (pe_fldU T.clMap T.na_lands (pv 0)) (pa_cons (pcall T.tiesOf ((ok_tiesOf T).mono (k := 5) (by decide)) hr (pa_cons (pv 0) pa_nil)) (pa_cons (pe_lcA (own := [("_law_dot", 3)]) (g := gName 3) (tt := tYes) rfl nd (pi_range1 (by rfl) T.range_ (pa_cons (pe_fldU T.clMap T.na_dots (pv 0)) pa_nil)) (blkOk_by (N := nCounts) (sc := defScope sCounts) (by decide +kernel)) (fun _ _ _ _ _ => pg_name (i := 3) nd rfl (.inl rfl)) (fun _ _ _ _ _ => pts_nil)
          (fun _ _ _ _ _ => pcall T.roundOf (ok_roundOf T) hr (pa_cons (pv 0) (pa_cons (pv 3) pa_nil)))) pa_nil))) (by rfl))
      (pss_cons (ps_if (PW.pt (pw_or (pt_cmpR (op_neLI hu) (pe_lstA (pa_cons (pe_fldU T.clMap T.na_dots (pv 0)) (pa_cons (pe_lenU T.len_ (pa_cons (pe_fldU T.clMap T.na_frame (pv 0)) pa_nil)) (pa_cons (pe_lenU T.len_ (pa_cons (pe_fldU T.clMap T.na_inner (pv 0)) pa_nil)) pa_nil)))) (pe_lstA (pa_cons (pe_add (pv 1) (pv 2)) (pa_cons (pv 1) (pa_cons (pv 2) pa_nil)))) (nomark _))
          (pw_or1 (pt_cmp (pc_neI (pe_lenU T.len_ (pa_cons (pv 4) pa_nil)) (pe_sub (pe_add (pv 1) (pe_op op_mul pe_int (pv 2))) pe_int)))))) (pss_one (ps_ret pe_bl)) pss_nil)
      (pss_cons (ps_if (PW.pt (pw_or (pt_cmp (pc_neI (pe_lenU T.len_ (pa_cons (pv 5) pa_nil)) (pe_sub (pe_add (pe_fldU T.clMap T.na_dots (pv 0)) (pe_lenU T.len_ (pa_cons (pv 4) pa_nil))) pe_int)))
          (pw_or1 (pt_cmp (pc_neI (pe_callB (cr_sum rfl) (by rfl) T.sum_ (by decide +kernel) (pa_cons (pe_lcA (own := [("_law_each", 10)]) (g := gName 10) (tt := tYes) rfl nd (pi_list (pv 6)) (blkOk_by (N := nCounts) (sc := defScope sCounts) (by decide +kernel)) (fun _ _ _ _ _ => pg_name (i := 10) nd rfl (.inl rfl)) (fun _ _ _ _ _ => pts_nil)
            (fun _ _ _ _ _ => pe_lenU T.len_ (pa_cons (pv 10) pa_nil))) pa_nil)) (pe_op op_mul pe_int (pe_lenU T.len_ (pa_cons (pv 5) pa_nil)))))))) (pss_one (ps_ret pe_bl)) pss_nil)
      (pss_cons (ps_set (i := 7) nd rfl (.inl rfl) (pe_lstA pa_nil))
      (pss_cons (ps_for PassesOwn.never rfl (pi_enum (by rfl) T.enumerate_ (pa_cons (pv 6) pa_nil)) (pg_tupU (n := 2) rfl (pgs_cons (pg_name (i := 3) nd rfl (.inr rfl)) (pgs_cons (pg_name (i := 8) nd rfl (.inl rfl)) pgs_nil)))
        (pss_cons (ps_if (pt_cmpR (op_neLT hu2) (pe_lcA (own := [("_law_tie", 11)]) (g := gName 11) rfl nd (pi_tup (pv 5)) (blkOk_by (N := nCounts) (sc := defScope sCounts) (by decide +kernel)) (fun _ _ _ _ _ => pg_name (i := 11) nd rfl (.inl rfl)) (fun _ _ _ _ _ => pts_one (pt_cmpR (op_inTu hu) (pv 3) (pv 11) rfl)) (fun _ _ _ _ _ => pv 11))
            (pe_callB (cr_sortTI hu3) (by rfl) T.sorted_ (by decide +kernel) (pa_cons (pe_lcA (own := [("_law_other", 12)]) (g := gName 12) (tt := tYes) rfl nd (pi_tup (pv 8)) (blkOk_by (N := nCounts) (sc := defScope sCounts) (by decide +kernel)) (fun _ _ _ _ _ => pg_name (i := 12) nd rfl (.inl rfl)) (fun _ _ _ _ _ => pts_nil)
              (fun _ _ _ _ _ => pe_tupA (pa_cons (pe_min2 rfl T.min_ (pa_cons (pv 3) (pa_cons (pv 12) pa_nil))) (pa_cons (pe_max2 rfl T.max_ (pa_cons (pv 3) (pa_cons (pv 12) pa_nil))) pa_nil)))) pa_nil)) (nomark _)) (pss_one (ps_ret pe_bl)) pss_nil)
        (pss_cons (ps_set (i := 9) nd rfl (.inl rfl) (pe_op op_catB (pe_slice sl_tupB (pv 8) (po_some pe_int) po_none) (PE_up (pe_ifExp (pt_cmpR (op_inTu hu) (pv 3) (pe_fldU T.clMap T.na_inner (pv 0)) rfl) (pe_slice sl_tupB (pv 8) po_none (po_some pe_int)) (pe_tupA pa_nil)))))
        (pss_cons (ps_expr (pe_bm PySem.F.plainAttrs_list PySem.F.slot_list_extend PySem.F.type_list_extend mt_extend (pv 7) (pa_cons (pe_lcA (own := [("_law_one", 13), ("_law_other", 12)]) (tt := tYes) rfl nd (RZ.pi_zipA (by rfl) T.zip_ (pa_cons (pv 8) (pa_cons (pv 9) pa_nil))) (blkOk_by (N := nCounts) (sc := defScope sCounts) (by decide +kernel)) (fun _ _ _ _ _ => pg_tupU (n := 2) rfl (pgs_cons (pg_name (i := 13) nd rfl (.inl rfl)) (pgs_cons (pg_name (i := 12) nd rfl (.inl rfl)) pgs_nil))) (fun _ _ _ _ _ => pts_nil)
              (fun _ _ _ _ _ => pcall T.landAt (ok_landAt T) hr (pa_cons (pv 0) (pa_cons (pv 3) (pa_cons (pv 13) pa_nil))))) pa_nil)))
        (pss_one (ps_if (pt_cmpR (op_neLI hu) (pe_lcA (own := [("_law_one", 13), ("_law_other", 12)]) rfl nd (RZ.pi_zipA (by rfl) T.zip_ (pa_cons (pv 8) (pa_cons (pv 9) pa_nil))) (blkOk_by (N := nCounts) (sc := defScope sCounts) (by decide +kernel)) (fun _ _ _ _ _ => pg_tupU (n := 2) rfl (pgs_cons (pg_name (i := 13) nd rfl (.inl rfl)) (pgs_cons (pg_name (i := 12) nd rfl (.inl rfl)) pgs_nil)))
              (fun _ _ _ _ _ => pts_one (pt_cmpR (op_neTu hu) (pcall T.landAt (ok_landAt T) hr (pa_cons (pv 0) (pa_cons (pv 3) (pa_cons (pv 13) pa_nil)))) (pcall T.landAt (ok_landAt T) hr (pa_cons (pv 0) (pa_cons (pv 13) (pa_cons (pv 12) pa_nil)))) rfl)) (fun _ _ _ _ _ => pe_int)) (pe_lstA pa_nil) (nomark _)) (pss_one (ps_ret pe_bl)) pss_nil))))))
      (pss_one (ps_ret (pe_cmpR (op_eqLT hu2) (pe_callB (cr_sortTI hu3) (by rfl) T.sorted_ (by decide +kernel) (pa_cons (pv 7) pa_nil)) (pe_callB (cr_sortTI hu3) (by rfl) T.sorted_ (by decide +kernel) (pa_cons (pe_op op_rep (pe_listU T.list_ (pa_cons (pv 4) pa_nil)) pe_int) pa_nil)) (nomark _)))))))), ?_⟩
    obtain ⟨W, dx, pl, pw, pf, pi, pr, k⟩ := hm.parts
    have G := hm.good
    have gw := G.w k.perm
    have hsm := G.small
    have n59 := G.n59
    have hnum := G.num
    have hin := inner_length gw
    have heu := ties_length gw.ring gw.B gw.nd
    have hWl := k.perm.length_eq
    rw [ways_len] at hWl
    refine ⟨_, rfl, m, dx, _, .ref pl, rfl, k.at_, by rfl, ?_⟩
    refine ⟨_, rfl, m, ls, n, r, W, dx, pl, pw, pf, pi, pr, rfl, k, by omega, fun H1 tt e1 htt => ?_⟩
    have k1 := k.mono e1
    refine ⟨_, rfl, m, dx, _, .int (n : Nat), rfl, k1.at_, by rfl, (n : Nat), rfl, by omega, by omega, ?_⟩
    refine ⟨Nat, List.range n, fun _ => true, fun i y H' => ∃ p rd f, y = V.ref p ∧ TuX H' p rd ∧ IsFirst W i (outs W i) f ∧ IsRound W i f rd, fun _ => True, fun i H x H' => H' = H ∧ x = .int (i : Nat), ?_, sz_lt (by rw [List.length_range]; omega), fun _ _ => trivial, fun d y H' H'' ex ⟨p, rd, f, h1, h2, h3⟩ => ⟨p, rd, f, h1, h2.ext ex, h3⟩, ?_, ?_⟩
    · have := walk_range0 (n := n)
      rw [List.length_range]
      exact this
    · rintro j d x H3 H4 hd e3 ⟨rfl, rfl⟩
      have hj : j < n := by rw [← List.length_range (n := n)]; exact (List.getElem?_eq_some_iff.mp hd).1
      have hdj : d = j := by
        rw [List.getElem?_range hj] at hd
        exact (Option.some.inj hd).symm
      subst hdj
      exact ⟨rfl, rfl, _, rfl, _, rfl, n, n59, m, (d : Nat), ls, r, W, dx, pl, pw, pf, pi, pr, rfl, k1.mono e3, by omega, by omega, fun p rd f h1 h2 h3 => ⟨Same.refl _, p, rd, f, rfl, h1, h2, h3⟩⟩
    intro rl ys H2 nrl e2 hrl hpr
    rw [List.filter_eq_self.mpr (fun _ _ => rfl)] at hpr
    obtain ⟨rps, rds, rfl, hrp, hri⟩ := rounds_split hpr
    have hrdl : rds.length = n := by
      have := Paired_len hri
      rw [List.length_range] at this
      exact this.symm
    have hrds : ∀ (i : Nat) (rd : List Int), rds[i]? = some rd → ∃ f, IsFirst W i (outs W i) f ∧ IsRound W i f rd := fun i rd hi => by
      have hin := (List.getElem?_eq_some_iff.mp hi).1
      obtain ⟨j, hj, h⟩ := paired_getR hri hi
      rw [List.getElem?_range (by omega)] at hj
      cases hj
      exact h
    have hrpl := Paired_len hrp
    refine ⟨_, _, _, rfl, ?_⟩
    have k2 := k1.mono e2
    obtain ⟨tps, htt1, htt2⟩ := htt.mono e2
    have htl := Paired_len htt2
    obtain ⟨lps, hl2, hlp2⟩ := k2.lands
    have hll := tuD_len hlp2
    -- the numbers
    refine ⟨_, rfl, m, dx, _, .int (n : Nat), rfl, k2.at_, by rfl, _, rfl, m, dx, _, .ref pf, rfl, k2.at_, by rfl, pf, _, rfl, .inl (.inl k2.frame), _, rfl, m, dx, _, .ref pi, rfl, k2.at_, by rfl, pi, _, rfl, .inl (.inl k2.inner), s3, fun a H3 n3 e3 h3 => ?_⟩
    refine ⟨_, rfl, _, rfl, _, _, rfl, rfl, _, rfl, _, rfl, s3, fun b H4 n4 e4 h4 => ?_⟩
    refine ⟨a, b, [(n : Int), (((r.map V.int).length : Nat) : Int), ((((inner n r).map V.int).length : Nat) : Int)], [(r.length : Int) + ((n : Int) - r.length), (r.length : Int), (n : Int) - r.length], rfl, rfl, .inl (e4 _ _ h3), .inl h4, _, rfl, ?_⟩
    have e24 := Same.trans e3 e4
    have k4 := k2.mono e24
    refine ifF ?_ ?_
    · rw [List.length_map, List.length_map]
      refine decide_eq_false (fun h => h ?_)
      rw [show ((inner n r).length : Int) = (n : Int) - r.length by omega, show (r.length : Int) + ((n : Int) - r.length) = n by omega]
    refine ⟨_, rfl, pl, _, rfl, .inl (Rd.mono e24 hl2), _, rfl, _, rfl, 2, _, rfl, rfl, .inl ⟨by omega, by omega⟩, _, _, rfl, rfl, _, 2, rfl, rfl, _, _, rfl, rfl, _, rfl, ifF ?_ ?_⟩
    · rw [hll]
      simp
      omega
    -- the ties
    have htt4 := e24 _ _ htt1
    have hrl4 := e24 _ _ hrl
    refine ⟨_, rfl, tt, _, rfl, .inl (.inl htt4), _, rfl, m, dx, _, .int (n : Nat), rfl, k4.at_, by rfl, _, rfl, pl, _, rfl, .inl (Rd.mono e24 hl2), _, _, rfl, rfl, _, 1, rfl, rfl, _, _, rfl, rfl, _, rfl, ifF ?_ ?_⟩
    · rw [hll, List.length_map, htl]
      simp
      omega
    refine ⟨_, rfl, rl, rfl, ⟨_, .inl (.inl hrl4)⟩, ?_⟩
    refine ⟨List Int, rds, fun _ => true, fun rd y _ => y = .int (rd.length : Nat), fun H' => SqL K H' rl (rps.map V.ref), YAt (rps.map V.ref), ?_, sz_lt (by omega), fun H' e' => .inl (.inl (e' _ _ hrl4)), fun _ _ _ _ _ h => h, ?_, ?_⟩
    · have := walk_list (K := K) (a := rl) (xs := rps.map V.ref)
      rw [List.length_map, hrpl] at this
      exact this
    · rintro j rd x H5 H6 hd e5 ⟨rfl, hx⟩
      rw [List.getElem?_map] at hx
      obtain ⟨p, hp, rfl⟩ := Option.map_eq_some_iff.mp hx
      obtain ⟨rd', hrd', tp⟩ := paired_get hrp hp
      rw [hd] at hrd'
      cases hrd'
      refine ⟨rfl, rfl, _, rfl, p, _, rfl, .inl (.inl ((e24.trans e5) _ _ tp)), Same.refl _, ?_⟩
      rw [List.length_map]
    intro D5 ys5 H5 nD5 e5 hD5 hpr5
    rw [List.filter_eq_self.mpr (fun _ _ => rfl)] at hpr5
    have hys5 : ys5 = (rds.map fun rd => (rd.length : Int)).map V.int := by
      rw [Paired_eq (f := fun rd : List Int => V.int (rd.length : Nat)) hpr5, List.map_map]
      rfl
    rw [hys5] at hD5
    have htt5 := e5 _ _ htt4
    refine ⟨D5, _, rfl, .inl (.inl hD5), _, rfl, tt, _, rfl, .inl (.inl htt5), 2, _, rfl, rfl, .inl ⟨by omega, by omega⟩, _, _, rfl, rfl, _, rfl, ifF ?_ ?_⟩
    · rw [sum_cast, rounds_sum gw hrdl hrds, List.length_map, htl]
      simp
    -- the rounds
    refine ⟨by decide, fun ml H6 n6 e6 h6 => ?_⟩
    have e26 := (e24.trans e5).trans e6
    have nml : H2 ml = none := Same.none (e24.trans e5) n6
    have k6 := k2.mono e26
    have hrl6 := e26 _ _ hrl
    have hrpl' : (rps.map V.ref).length = n := by rw [List.length_map, hrpl, hrdl]
    refine ⟨_, rfl, rl, _, rfl, .inl (.inl hrl6), ?_⟩
    refine for_it (walk_enum (K := K) (a := rl) (xs := rps.map V.ref)) (fun i σ' H' => ∃ y3 y8 y9, σ' = [some (.ref m), some (.int (r.length : Int)), some (.int ((n : Int) - r.length)), y3, some (.ref pl), some (.ref tt), some (.ref rl), some (.ref ml), y8, y9, none, none, none, none] ∧ Same H2 H' ∧
        ∃ mps, H' ml = some (.lst (mps.map V.ref)) ∧ Tus H' mps (((List.range i).flatMap fun j : Nat => (zp r (j : Int) (rds.getD j [])).map fun p => rot ((j : Int), p.1, p.2)).map l3) ∧ mps.length ≤ 100 * i)
      ⟨none, none, none, rfl, e26, [], h6, .nil, Nat.le_refl _⟩ (fun i σ' H' _ ⟨_, _, _, _, e, _⟩ => .inl (.inl (e _ _ hrl))) ?_ ?_
    · rintro i x σ' H7 H8 hi ⟨y3, y8, y9, rfl, e7, mps, hml, hmt, hmz⟩ ⟨tp, xk, xv, rfl, ntp, rfl, hk, hv⟩
      cases hk
      rw [hrpl'] at hi
      replace hv : (rps.map V.ref)[i]? = some xv := hv
      rw [List.getElem?_map] at hv
      obtain ⟨p, hp, rfl⟩ := Option.map_eq_some_iff.mp hv
      obtain ⟨rd, hrd, tprd⟩ := paired_get hrp hp
      obtain ⟨f, hf, hround⟩ := hrds i rd hrd
      have hgetD : rds.getD i [] = rd := by simp [List.getD, hrd]
      have rnd := round_nodup hround
      have rmem := round_mem gw.B gw.nd gw.L hf hround
      have rdn : rd.length ≤ n := by
        have := nodup_len_le (ys := (List.range n).map fun i : Nat => (i : Int)) rnd fun x hx => by
          have hd : 0 ≤ x ∧ x < n := by
            rcases (rmem x).mp hx with ⟨c, hc⟩ | ⟨c, hc⟩
            · exact (gw.dots x).mp ⟨_, _, gw.B.cyc hc⟩
            · exact (gw.dots x).mp ⟨_, _, hc⟩
          exact List.mem_map.mpr ⟨x.toNat, List.mem_range.mpr (by omega), by omega⟩
        simpa using this
      have e8 : Same H2 (upd H7 tp (.tup [.int (i : Nat), .ref p])) := Same.add e7 ntp
      have e78 : Same H7 (upd H7 tp (.tup [.int (i : Nat), .ref p])) := Same.new ntp
      have htp : upd H7 tp (.tup [.int (i : Nat), .ref p]) tp = some (.tup [.int (i : Nat), .ref p]) := upd_same
      refine ⟨tp, _, rfl, .inl htp, rfl, _, _, rfl, _, _, rfl, rfl, ?_⟩
      -- the ties at the dot
      have htt8 := e8 _ _ htt1
      have hrd8 : TuX _ p rd := e8 _ _ tprd
      refine ⟨_, rfl, tt, rfl, ⟨_, .inl (.inl htt8)⟩, ?_⟩
      refine ⟨List Int, ties W, fun t => decide ((i : Int) ∈ t), fun t y H' => ∃ q, y = V.ref q ∧ Tu H' q t, fun H' => SqT K H' tt (tps.map V.ref), YAt (tps.map V.ref), ?_, sz_lt (by omega), fun H' e' => .inl (.inl (e' _ _ htt8)), fun d y H' H'' ex ⟨q, h1, h2⟩ => ⟨q, h1, h2.ext ex⟩, ?_, ?_⟩
      · have := walk_tup (K := K) (a := tt) (xs := tps.map V.ref)
        rw [List.length_map, htl] at this
        exact this
      · rintro j t x H9 H10 hd e9 ⟨rfl, hx⟩
        rw [List.getElem?_map] at hx
        obtain ⟨q2, hq2, rfl⟩ := Option.map_eq_some_iff.mp hx
        obtain ⟨t', ht', tq⟩ := paired_get htt2 hq2
        rw [hd] at ht'
        cases ht'
        have tq' := tq.mono (Same.trans e8 e9)
        refine ⟨rfl, _, rfl, _, rfl, (i : Nat), q2, t, rfl, rfl, tq', _, rfl, rfl, ?_⟩
        exact ifB rfl (fun _ => ⟨_, rfl, Same.refl _, q2, rfl, tq'⟩) (fun _ => Same.refl _)
      intro D9 ys9 H9 nD9 e9 hD9 hpr9
      obtain ⟨qs9, rfl, hq9⟩ := tus_refs (f := fun t : List Int => t) hpr9
      have hrd9 := hrd8.mono e9
      refine ⟨_, rfl, p, rfl, ⟨_, .inl (.inl hrd9)⟩, ?_⟩
      refine ⟨Int, rd, fun _ => true, fun o y H' => ∃ q, y = V.ref q ∧ Tu H' q [min (i : Int) o, max (i : Int) o], fun H' => SqT K H' p (rd.map V.int), YAt (rd.map V.int), ?_, sz_lt (by omega), fun H' e' => .inl (.inl (e' _ _ hrd9)), fun d y H' H'' ex ⟨q, h1, h2⟩ => ⟨q, h1, h2.ext ex⟩, ?_, ?_⟩
      · have := walk_tup (K := K) (a := p) (xs := rd.map V.int)
        rw [List.length_map] at this
        exact this
      · rintro j o x H10 H11 hd e10 ⟨rfl, hx⟩
        rw [List.getElem?_map, hd] at hx
        cases hx
        exact ⟨rfl, rfl, _, rfl, _, rfl, (i : Nat), o, rfl, _, rfl, _, rfl, (i : Nat), o, rfl, s2, fun q3 H12 n12 e12 h12 => ⟨e12, q3, rfl, .inl h12⟩⟩
      intro D10 ys10 H10 nD10 e10 hD10 hpr10
      rw [List.filter_eq_self.mpr (fun _ _ => rfl)] at hpr10
      obtain ⟨qs10, rfl, hq10⟩ := tus_refs (f := fun o : Int => [min (i : Int) o, max (i : Int) o]) hpr10
      refine ⟨D10, qs10, _, rfl, .inl (.inl hD10), hq10, ?_, fun p11 ps11 n11 ht11 _ => ?_⟩
      · intro ns hns
        obtain ⟨o, _, rfl⟩ := List.mem_map.mp hns
        simp
      have e11 : Same H10 (upd H10 p11 (.lst (ps11.map V.ref))) := Same.new n11
      have h11 : upd H10 p11 (.lst (ps11.map V.ref)) p11 = some (.lst (ps11.map V.ref)) := upd_same
      generalize upd H10 p11 (.lst (ps11.map V.ref)) = H11 at e11 h11 ⊢
      have e911 := Same.trans e10 e11
      refine ⟨D9, p11, qs9, ps11, _, _, rfl, rfl, .inl (e911 _ _ hD9), hq9.mono e911, .inl h11, ht11.mono e11, _, rfl, ifF ?_ ?_⟩
      · refine decide_eq_false (fun h => h ?_)
        rw [List.map_id']
        exact ties_at gw hf hround
      have e711 := (Same.trans e78 e9).trans e911
      have e211 := Same.trans e7 e711
      have k11 := k2.mono e211
      have hrd11 : TuX H11 p rd := e211 _ _ tprd
      -- what comes next
      refine ⟨_, rfl, 1, rfl, p, _, rfl, .inl hrd11, fun q1 H12 e12 h12 => ?_⟩
      rw [cut_tail] at h12
      refine ⟨fun v H' => ∃ q2, v = V.ref q2 ∧ Rd H' q2 (.tup ((if (i : Int) ∈ r then [] else rd.take 1).map V.int)) ∧ Same H12 H', ?_, ?_⟩
      · refine ⟨_, rfl, _, rfl, m, dx, _, .ref pi, rfl, e12 _ _ k11.at_, by rfl, (i : Nat), pi, inner n r, rfl, rfl, .inl (e12 _ _ k11.inner), _, rfl, ?_⟩
        refine ifB rfl (fun hin2 => ?_) (fun hin2 => ?_)
        · have := (mem_inner.mp (of_decide_eq_true hin2)).2
          refine ⟨_, rfl, 1, rfl, p, _, rfl, .inl (e12 _ _ hrd11), fun q2 H13 e13 h13 => ⟨q2, rfl, ?_, e13⟩⟩
          rw [cut_head] at h13
          rw [if_neg this]
          exact h13
        · have : (i : Int) ∈ r := by
            refine Decidable.byContradiction fun hno => of_decide_eq_false hin2 (mem_inner.mpr ⟨⟨by omega, by omega⟩, hno⟩)
          refine ⟨by decide, fun q2 H13 n13 e13 h13 => ⟨q2, rfl, ?_, e13⟩⟩
          rw [if_pos this]
          exact .inl h13
      rintro _ H13 ⟨q2, rfl, h13, e13⟩
      refine ⟨q1, q2, _, _, rfl, rfl, Rd.mono e13 h12, h13, ?_, fun lt H14 e14 h14 => ?_⟩
      · rw [List.length_map, List.length_map, List.length_tail]
        have : (if (i : Int) ∈ r then [] else rd.take 1).length ≤ 1 := by
          split
          · simp
          · rw [List.length_take]; omega
        exact sz_of (by omega)
      rw [← List.map_append] at h14
      have e1114 := Same.trans e12 (Same.trans e13 e14)
      have e214 := Same.trans e211 e1114
      have e714 := Same.trans e711 e1114
      have k14 := k2.mono e214
      have hrd14 : TuX H14 p rd := e214 _ _ tprd
      generalize hlater : rd.tail ++ (if (i : Int) ∈ r then [] else rd.take 1) = later at h14
      have hzp : zp r (i : Int) rd = rd.zip later := by rw [← hlater]; rfl
      have hzl : (zp r (i : Int) rd).length = min (rd.map V.int).length (later.map V.int).length := by rw [hzp, List.length_zip, List.length_map, List.length_map]
      have hml14 := e714 _ _ hml
      have zat : ∀ {j : Nat} {pr : Pr}, (zp r (i : Int) rd)[j]? = some pr → rd[j]? = some pr.1 ∧ later[j]? = some pr.2 := fun {j pr} h => by
        rw [hzp, List.getElem?_zip_eq_some] at h
        exact h
      have zway : ∀ {j : Nat} {pr : Pr}, (zp r (i : Int) rd)[j]? = some pr → ((i : Int), pr.1, pr.2) ∈ W := fun {j pr} h => (mem_zp gw hf hround pr.1 pr.2).mp (List.mem_of_getElem? h)
      have bnd : ∀ {a b c : Int}, (a, b, c) ∈ W → (0 ≤ a ∧ a ≤ 59) ∧ (0 ≤ b ∧ b ≤ 59) := fun {a b c} h => by
        have h1 := (gw.dots a).mp ⟨_, _, h⟩
        have h2 := (gw.dots b).mp ⟨_, _, gw.B.cyc h⟩
        exact ⟨by omega, by omega⟩
      have zlen : (zp r (i : Int) rd).length < sizeLine := by
        rw [hzl, List.length_map]
        exact sz_lt (by omega)
      refine ⟨_, rfl, .inl ⟨rfl, _, .inl (.inl hml14)⟩, ?_⟩
      refine ⟨_, rfl, _, rfl, p, lt, rd.map V.int, later.map V.int, rfl, .inr ⟨.inl (.inl hrd14), .inl h14, ?_⟩⟩
      refine ⟨Pr, zp r (i : Int) rd, fun _ => true, fun pr y H' => ∃ q, y = V.ref q ∧ Tu H' q (l3 (rot ((i : Int), pr.1, pr.2))), _, _, walk_zipT (K := K) hzl, zlen, fun H' e' => ⟨.inl (.inl (e' _ _ hrd14)), .inl (Rd.mono e' h14)⟩, fun d y H' H'' ex ⟨q, h1, h2⟩ => ⟨q, h1, h2.ext ex⟩, ?_, ?_⟩
      · rintro j ⟨o, u⟩ x H15 H16 hd e15 ⟨tq, x1, x2, rfl, ntq, rfl, hx1, hx2⟩
        obtain ⟨z1, z2⟩ := zat hd
        have hway := zway hd
        replace z1 : rd[j]? = some o := z1
        replace z2 : later[j]? = some u := z2
        replace hway : ((i : Int), o, u) ∈ W := hway
        replace hx1 : (rd.map V.int)[j]? = some x1 := hx1
        replace hx2 : (later.map V.int)[j]? = some x2 := hx2
        rw [List.getElem?_map, z1] at hx1
        rw [List.getElem?_map, z2] at hx2
        cases hx1
        cases hx2
        have htq : upd H15 tq (.tup [.int o, .int u]) tq = some (.tup [.int o, .int u]) := upd_same
        have e16 : Same H15 (upd H15 tq (.tup [.int o, .int u])) := Same.new ntq
        refine ⟨tq, _, rfl, .inl htq, rfl, _, _, rfl, _, _, rfl, rfl, rfl, rfl, ?_⟩
        refine ⟨_, rfl, _, rfl, _, rfl, m, (i : Nat), o, ls, n, r, W, dx, pl, pw, pf, pi, pr, rfl, (k14.mono e15).mono e16, gw.B, (bnd hway).1, (bnd hway).2, fun hno => ?_, fun c hc H17 q17 e17 h17 => ⟨Same.trans e16 e17, q17, rfl, ?_⟩⟩
        · rw [(third_some gw.nd).mpr hway] at hno
          cases hno
        · rw [(third_some gw.nd).mpr hway] at hc
          cases hc
          exact h17.tu
      intro D15 ys15 H15 nD15 e15 hD15 hpr15
      rw [List.filter_eq_self.mpr (fun _ _ => rfl)] at hpr15
      obtain ⟨qs15, rfl, hq15⟩ := tus_refs (f := fun pr : Pr => l3 (rot ((i : Int), pr.1, pr.2))) hpr15
      have hml15 := e15 _ _ hml14
      have hq15l := Paired_len hq15
      rw [List.length_map] at hq15l
      have zle : (zp r (i : Int) rd).length ≤ n := by
        rw [hzl, List.length_map]
        omega
      refine ⟨ml, D15, _, _, rfl, rfl, hml15, hD15, ?_, ?_⟩
      · rw [List.length_map, List.length_map]
        exact sz_of (by omega)
      have e715 := Same.trans e714 e15
      have e215 := Same.trans e214 e15
      have nml2 := nml
      have e216 : Same H2 (upd H15 ml (.lst (mps.map V.ref ++ qs15.map V.ref))) := Same.mut e215 nml
      have X16 : Ext H15 (upd H15 ml (.lst (mps.map V.ref ++ qs15.map V.ref))) := Ext.put hml15
      have hml16 : upd H15 ml (.lst (mps.map V.ref ++ qs15.map V.ref)) ml = some (.lst ((mps ++ qs15).map V.ref)) := by rw [upd_same, List.map_append]
      have htus16 : Tus (upd H15 ml (.lst (mps.map V.ref ++ qs15.map V.ref))) (mps ++ qs15) (((List.range (i + 1)).flatMap fun j : Nat => (zp r (j : Int) (rds.getD j [])).map fun p => rot ((j : Int), p.1, p.2)).map l3) := by
        rw [List.range_succ, List.flatMap_append, List.map_append]
        refine Paired_app (Tus.ext X16 (hmt.mono e715)) ?_
        have h := Tus.ext X16 hq15
        rw [List.flatMap_cons, List.flatMap_nil, List.append_nil, hgetD, List.map_map]
        exact h
      have h1416 : Rd (upd H15 ml (.lst (mps.map V.ref ++ qs15.map V.ref))) lt (.tup (later.map V.int)) := Rd.ext X16 (Rd.mono e15 h14)
      generalize upd H15 ml (.lst (mps.map V.ref ++ qs15.map V.ref)) = H16 at e216 hml16 htus16 h1416 ⊢
      have k16 := k2.mono e216
      have hrd16 : TuX H16 p rd := e216 _ _ tprd
      refine ⟨_, rfl, _, rfl, p, lt, rd.map V.int, later.map V.int, rfl, .inr ⟨.inl (.inl hrd16), .inl h1416, ?_⟩⟩
      refine ⟨Pr, zp r (i : Int) rd, fun _ => false, fun pr y H' => y = .int 1, _, _, walk_zipT (K := K) hzl, zlen, fun H' e' => ⟨.inl (.inl (e' _ _ hrd16)), .inl (Rd.mono e' h1416)⟩, fun _ _ _ _ _ h => h, ?_, ?_⟩
      · rintro j ⟨o, u⟩ x H17 H18 hd e17 ⟨tq, x1, x2, rfl, ntq, rfl, hx1, hx2⟩
        obtain ⟨z1, z2⟩ := zat hd
        have hway := zway hd
        replace z1 : rd[j]? = some o := z1
        replace z2 : later[j]? = some u := z2
        replace hway : ((i : Int), o, u) ∈ W := hway
        have hway2 : (o, u, (i : Int)) ∈ W := gw.B.cyc hway
        replace hx1 : (rd.map V.int)[j]? = some x1 := hx1
        replace hx2 : (later.map V.int)[j]? = some x2 := hx2
        rw [List.getElem?_map, z1] at hx1
        rw [List.getElem?_map, z2] at hx2
        cases hx1
        cases hx2
        have htq : upd H17 tq (.tup [.int o, .int u]) tq = some (.tup [.int o, .int u]) := upd_same
        have e18 : Same H17 (upd H17 tq (.tup [.int o, .int u])) := Same.new ntq
        refine ⟨tq, _, rfl, .inl htq, rfl, _, _, rfl, _, _, rfl, rfl, rfl, ?_⟩
        have k18 := (k16.mono e17).mono e18
        refine ⟨_, rfl, _, rfl, _, rfl, m, (i : Nat), o, ls, n, r, W, dx, pl, pw, pf, pi, pr, rfl, k18, gw.B, (bnd hway).1, (bnd hway).2, fun hno => ?_, fun c hc H19 q19 e19 h19 => ?_⟩
        · rw [(third_some gw.nd).mpr hway] at hno
          cases hno
        rw [(third_some gw.nd).mpr hway] at hc
        cases hc
        refine ⟨_, rfl, _, rfl, _, rfl, m, o, u, ls, n, r, W, dx, pl, pw, pf, pi, pr, rfl, k18.mono e19, gw.B, (bnd hway2).1, (bnd hway2).2, fun hno => ?_, fun c hc H20 q20 e20 h20 => ?_⟩
        · rw [(third_some gw.nd).mpr hway2] at hno
          cases hno
        rw [(third_some gw.nd).mpr hway2] at hc
        cases hc
        refine ⟨q19, q20, _, _, rfl, rfl, (h19.mono e20).tu, h20.tu, _, rfl, ?_, ?_⟩
        · refine decide_eq_false (fun h => h ?_)
          rw [rot_cyc ⟨gw.B.ne hway, (gw.B.ne3 hway).symm, gw.B.ne2 hway⟩]
        · have hdis : l3 (rot ((i : Int), o, u)) = l3 (rot (o, u, (i : Int))) := by rw [rot_cyc ⟨gw.B.ne hway, (gw.B.ne3 hway).symm, gw.B.ne2 hway⟩]
          exact ifF (decide_eq_false (fun h => h hdis)) (Same.trans e18 (Same.trans e19 e20))
      intro D17 ys17 H17 nD17 e17 hD17 hpr17
      have hys17 : ys17 = ([] : List Int).map V.int := by
        rw [List.filter_eq_nil_iff.mpr (by simp)] at hpr17
        cases hpr17
        rfl
      rw [hys17] at hD17
      refine ⟨by decide, fun em H18 n18 e18 h18 => ⟨D17, em, [], [], rfl, rfl, .inl (e18 _ _ hD17), .inl h18, _, rfl, ifF rfl ?_⟩⟩
      have e1618 := Same.trans e17 e18
      refine ⟨_, _, _, rfl, Same.trans e216 e1618, mps ++ qs15, e1618 _ _ hml16, htus16.mono e1618, ?_⟩
      rw [List.length_append]
      omega
    · rintro σ' H7 ⟨y3, y8, y9, rfl, e7, mps, hml, hmt, hmz⟩
      rw [hrpl'] at hmt hmz
      have hne : ∀ ns ∈ ((List.range n).flatMap fun j : Nat => (zp r (j : Int) (rds.getD j [])).map fun p => rot ((j : Int), p.1, p.2)).map l3, ns ≠ [] := fun ns hns => by
        obtain ⟨a, _, rfl⟩ := List.mem_map.mp hns
        simp [l3]
      refine ⟨_, rfl, ml, mps, _, rfl, .inl (.inl hml), hmt, hne, fun p8 ps8 n8 ht8 _ => ?_⟩
      have e8 : Same H7 (upd H7 p8 (.lst (ps8.map V.ref))) := Same.new n8
      have h8 : upd H7 p8 (.lst (ps8.map V.ref)) p8 = some (.lst (ps8.map V.ref)) := upd_same
      generalize upd H7 p8 (.lst (ps8.map V.ref)) = H8 at e8 h8 ⊢
      have e28 := Same.trans e7 e8
      refine ⟨_, rfl, pl, _, rfl, .inr (Rd.mono e28 hl2), fun l9 H9 n9 e9 h9 => ?_⟩
      refine ⟨l9, 3, _, rfl, rfl, h9, by omega, by omega, ?_, fun p10 n10 => ?_⟩
      · rw [hll]
        exact sz_of (show ls.length * 3 ≤ 100000 by omega)
      have hfl : (List.replicate (3 : Int).toNat (lps.map V.ref)).flatten = ((List.replicate 3 lps).flatten).map V.ref := by
        rw [List.map_flatten, List.map_replicate]
        rfl
      have e10 : Same H9 (upd H9 p10 (.lst (List.replicate (3 : Int).toNat (lps.map V.ref)).flatten)) := Same.new n10
      have h10 : upd H9 p10 (.lst (List.replicate (3 : Int).toNat (lps.map V.ref)).flatten) p10 = some (.lst (((List.replicate 3 lps).flatten).map V.ref)) := by rw [upd_same, hfl]
      generalize upd H9 p10 (.lst (List.replicate (3 : Int).toNat (lps.map V.ref)).flatten) = H10 at e10 h10 ⊢
      have e210 := Same.trans e28 (Same.trans e9 e10)
      have tl : Tus H10 lps (ls.map l3) := (tuD_tus hlp2).mono e210
      have t3 : Tus H10 ((List.replicate 3 lps).flatten) ((List.replicate 3 (ls.map l3)).flatten) := Paired_app tl (Paired_app tl (Paired_app tl .nil))
      have hne3 : ∀ ns ∈ (List.replicate 3 (ls.map l3)).flatten, ns ≠ [] := fun ns hns => by
        obtain ⟨l, hl, hx⟩ := List.mem_flatten.mp hns
        rw [List.eq_of_mem_replicate hl] at hx
        obtain ⟨a, _, rfl⟩ := List.mem_map.mp hx
        simp [l3]
      refine ⟨p10, _, _, rfl, .inl (.inl h10), t3, hne3, fun p11 ps11 n11 ht11 _ => ?_⟩
      have e11 : Same H10 (upd H10 p11 (.lst (ps11.map V.ref))) := Same.new n11
      have h11 : upd H10 p11 (.lst (ps11.map V.ref)) p11 = some (.lst (ps11.map V.ref)) := upd_same
      generalize upd H10 p11 (.lst (ps11.map V.ref)) = H11 at e11 h11 ⊢
      have e811 := (Same.trans e9 e10).trans e11
      refine ⟨p8, p11, ps8, ps11, _, _, rfl, rfl, .inl (e811 _ _ h8), (ht8.mono e8).mono e811, .inl h11, ht11.mono e11, ?_⟩
      rw [met_sorted gw k.perm (fun l hl => (G.ok3 l hl).1) hm.rots hrdl hrds, decide_eq_true rfl]
      exact q H11 ((e1.trans e2).trans (Same.trans e28 e811))
end
end MF
end
section
set_option linter.all false
set_option maxRecDepth 100000
set_option maxHeartbeats 4000000
namespace MF
open PySem PySem.Spec PyProof.Rows L2
/-! maps in their own order -/
theorem canon_id {ls : List Land} (h1 : ∀ l ∈ ls, rot l = l) (h2 : srt (ls.map l3) = ls.map l3) : canon ls = ls := by
  refine l3s_inj ?_
  rw [← srt_canon]
  have : ls.map rot = ls := by
    conv => rhs; rw [← List.map_id ls]
    exact List.map_congr_left fun l hl => h1 l hl
  rw [this, h2]
theorem r3_rot (x : Land) : R3 x.1 x.2.1 x.2.2 (rot x).1 (rot x).2.1 (rot x).2.2 := by
  obtain ⟨a, b, c⟩ := x
  unfold rot R3
  simp only
  split
  · simp
  · split <;> simp
theorem rot_r3 {a b c x y z : Int} (d : Dis (a, b, c)) (h : R3 a b c x y z) : rot (x, y, z) = rot (a, b, c) := by
  have d2 : Dis (b, c, a) := ⟨d.2.2, d.1.symm, d.2.1.symm⟩
  unfold R3 at h
  rcases h with ⟨rfl, rfl, rfl⟩ | ⟨rfl, rfl, rfl⟩ | ⟨rfl, rfl, rfl⟩
  · rfl
  · exact rot_cyc d
  · rw [rot_cyc d2, rot_cyc d]
theorem r3_flip {p q s x y z : Int} (h : R3 p q s x y z) : R3 x y z p q s := by
  unfold R3 at *
  rcases h with ⟨rfl, rfl, rfl⟩ | ⟨rfl, rfl, rfl⟩ | ⟨rfl, rfl, rfl⟩ <;> simp
theorem dis_r3 {a b c x y z : Int} (d : Dis (a, b, c)) (h : R3 a b c x y z) : Dis (x, y, z) := by
  obtain ⟨d1, d2, d3⟩ := d
  simp only at d1 d2 d3
  unfold R3 at h
  rcases h with ⟨rfl, rfl, rfl⟩ | ⟨rfl, rfl, rfl⟩ | ⟨rfl, rfl, rfl⟩
  · exact ⟨d1, d2, d3⟩
  · exact ⟨d3, d1.symm, d2.symm⟩
  · exact ⟨d2.symm, d3.symm, d1⟩
theorem mem_own {ls : List Land} (hd : ∀ l ∈ ls, Dis l) (hr : ∀ l ∈ ls, rot l = l) (x : Land) : x ∈ ls ↔ (x ∈ ways ls ∧ rot x = x) := by
  constructor
  · intro h
    exact ⟨mem_ways_of h, hr x h⟩
  · rintro ⟨h, e⟩
    obtain ⟨x1, x2, x3⟩ := x
    obtain ⟨⟨a, b, c⟩, hl, h3⟩ := mem_ways_r3.mp h
    have := rot_r3 (hd _ hl) h3
    rw [e, hr _ hl] at this
    rw [this]
    exact hl
theorem own_eq {A B : List Land} (hA : ((ways A).map key).Nodup) (hB : ((ways B).map key).Nodup) (dA : ∀ l ∈ A, Dis l) (dB : ∀ l ∈ B, Dis l) (rA : ∀ l ∈ A, rot l = l) (rB : ∀ l ∈ B, rot l = l) (sA : srt (A.map l3) = A.map l3) (sB : srt (B.map l3) = B.map l3) (h : ∀ x : Land, x ∈ ways A ↔ x ∈ ways B) : A = B := by
  refine l3s_inj ?_
  rw [← sA, ← sB]
  refine srt_perm_eq (((List.perm_ext_iff_of_nodup (lands_nodup hA) (lands_nodup hB)).mpr fun x => ?_).map l3)
  rw [mem_own dA rA, mem_own dB rB, h]
theorem canon_rots (ls : List Land) : ∀ l ∈ canon ls, rot l = l := fun a ha => by
  obtain ⟨b, _, rfl⟩ := List.mem_map.mp ((canon_perm ls).mem_iff.mp ha)
  exact rot_rot b
section
variable {ls : List Land} {n : Nat} {r : List Int} {a b c d : Int}
theorem Good.dis (g : Good ls n r) : ∀ l ∈ ls, Dis l := fun l hl => (g.ok3 l hl).1
theorem splitL_good (g : Good ls n r) {l : Land} (hl : l ∈ ls) (h : n + 1 ≤ 59) : Good (splitL ls l n) (n + 1) r := by
  obtain ⟨x, y, z⟩ := l
  exact g.split hl (fun m _ => by simp) h
theorem flipL_good (g : Good ls n r) (hr : ∀ l ∈ ls, rot l = l) (h1 : (a, b, c) ∈ ways ls) (h2 : (b, a, d) ∈ ways ls) (hcd : c ≠ d) (m1 : ∀ z, (c, d, z) ∉ ways ls) (m2 : ∀ z, (d, c, z) ∉ ways ls) : Good (flipL ls a b c d) n r ∧ Tr (ways (flipL ls a b c d)) = Flip (Tr (ways ls)) a b c d := by
  refine g.flip h1 h2 hcd m1 m2 fun l hl => ?_
  have dl := g.dis l hl
  have e1 : R3 l.1 l.2.1 l.2.2 a b c ↔ l = rot (a, b, c) := by
    constructor
    · intro h
      have := rot_r3 (a := l.1) (b := l.2.1) (c := l.2.2) dl h
      rw [this]
      exact (hr l hl).symm
    · intro h
      have := r3_rot (a, b, c)
      rw [← h] at this
      exact r3_flip this
  have e2 : R3 l.1 l.2.1 l.2.2 b a d ↔ l = rot (b, a, d) := by
    constructor
    · intro h
      have := rot_r3 (a := l.1) (b := l.2.1) (c := l.2.2) dl h
      rw [this]
      exact (hr l hl).symm
    · intro h
      have := r3_rot (b, a, d)
      rw [← h] at this
      exact r3_flip this
  rw [e1, e2]
  simp
  by_cases h : l = rot (a, b, c) <;> simp [h]
theorem tr_canon (L : List Land) (x : Land) : x ∈ ways (canon L) ↔ x ∈ ways L := (ways_canon L).mem_iff.symm
/-- there and back again -/
theorem flip_back (g : Good ls n r) (hr : ∀ l ∈ ls, rot l = l) (hs : srt (ls.map l3) = ls.map l3) (h1 : (a, b, c) ∈ ways ls) (h2 : (b, a, d) ∈ ways ls) (hcd : c ≠ d) (m1 : ∀ z, (c, d, z) ∉ ways ls) (m2 : ∀ z, (d, c, z) ∉ ways ls) :
    let L1 := canon (flipL ls a b c d)
    (c, d, b) ∈ ways L1 ∧ (d, c, a) ∈ ways L1 ∧ (∀ z, (b, a, z) ∉ ways L1) ∧ (∀ z, (a, b, z) ∉ ways L1) ∧ Good (flipL L1 c d b a) n r ∧ canon (flipL L1 c d b a) = ls ∧ L1 ≠ ls := by
  intro L1
  obtain ⟨g1, t1⟩ := flipL_good g hr h1 h2 hcd m1 m2
  have gL : Good L1 n r := g1.canon
  have t : ∀ x y z, (x, y, z) ∈ ways L1 ↔ Flip (Tr (ways ls)) a b c d x y z := fun x y z => by
    rw [tr_canon, ← t1]
  have hab := g.B.ne h1
  have hbc := g.B.ne2 h1
  have hca := g.B.ne3 h1
  have had := g.B.ne2 h2
  have hdb := g.B.ne3 h2
  have k1 : (c, d, b) ∈ ways L1 := (t _ _ _).mpr (.inr (.inr (.inr (.inr ⟨rfl, rfl, rfl⟩))))
  have k2 : (d, c, a) ∈ ways L1 := (t _ _ _).mpr (.inr (.inl (.inr (.inr ⟨rfl, rfl, rfl⟩))))
  have k3 : ∀ z, (b, a, z) ∉ ways L1 := fun z hz => by
    rcases (t _ _ _).mp hz with ⟨h, _, hn⟩ | h | h
    · have := g.B.fn h h2
      subst this
      exact hn (.inl ⟨rfl, rfl, rfl⟩)
    · unfold R3 at h
      rcases h with ⟨e1, e2, _⟩ | ⟨e1, e2, _⟩ | ⟨e1, e2, _⟩
      · exact hbc e1
      · exact hab e1.symm
      · exact hdb e1.symm
    · unfold R3 at h
      rcases h with ⟨e1, e2, _⟩ | ⟨e1, e2, _⟩ | ⟨e1, e2, _⟩
      · exact hdb e1.symm
      · exact hca e2.symm
      · exact hbc e1
  have k4 : ∀ z, (a, b, z) ∉ ways L1 := fun z hz => by
    rcases (t _ _ _).mp hz with ⟨h, hn, _⟩ | h | h
    · have := g.B.fn h h1
      subst this
      exact hn (.inl ⟨rfl, rfl, rfl⟩)
    · unfold R3 at h
      rcases h with ⟨e1, e2, _⟩ | ⟨e1, e2, _⟩ | ⟨e1, e2, _⟩
      · exact hca e1.symm
      · exact hdb e2.symm
      · exact had e1
    · unfold R3 at h
      rcases h with ⟨e1, e2, _⟩ | ⟨e1, e2, _⟩ | ⟨e1, e2, _⟩
      · exact had e1
      · exact hab e1
      · exact hca e1.symm
  obtain ⟨g2, t2⟩ := flipL_good gL (canon_rots _) k1 k2 hab.symm k3 k4
  refine ⟨k1, k2, k3, k4, g2, ?_, fun e => m1 b (e ▸ k1)⟩
  refine own_eq g2.canon.nd g.nd g2.canon.dis g.dis (canon_rots _) hr (srt_srt _) hs fun x => ?_
  obtain ⟨x, y, z⟩ := x
  rw [tr_canon]
  show Tr (ways (flipL L1 c d b a)) x y z ↔ _
  rw [t2]
  have eT : Tr (ways L1) = Flip (Tr (ways ls)) a b c d := by
    funext x y z
    exact propext (t x y z)
  rw [eT]
  exact flip_flip g.B h1 h2 hcd m1 m2 x y z
end
/-- the lands of a Map, in its order, fit a text -/
theorem asc_of {C : Addr} {H : Hp} {m : Addr} {ls : List Land} {n : Nat} {r : List Int} (h : MapAt C H m ls n r) : Asc ls := by
  have g := h.good
  have hok := g.ok3
  have first : ∀ l ∈ ls, l.1 < l.2.1 ∧ l.1 < l.2.2 := fun l hl => by
    have e := h.rots l hl
    have d := g.dis l hl
    obtain ⟨x, y, z⟩ := l
    obtain ⟨d1, d2, d3⟩ := d
    simp only at d1 d2 d3
    unfold rot at e
    simp only at e
    split at e
    · rename_i k
      exact ⟨by show x < y; omega, by show x < z; omega⟩
    · split at e
      · simp only [Prod.mk.injEq] at e
        omega
      · simp only [Prod.mk.injEq] at e
        omega
  have nodup := lands_nodup g.nd
  have sorted : (ls.map l3).Pairwise (· ≤ ·) := by
    rw [← h.sorted]
    exact srt_sorted _
  intro i l hl
  have hm := List.mem_of_getElem? hl
  have f := first l hm
  obtain ⟨hd, ⟨a0, a9⟩, ⟨b0, b9⟩, c0, c9⟩ := hok l hm
  refine ⟨⟨hok l hm, f.1, f.2, a0, fun _ => b0, fun e1 e2 => by omega⟩, fun l' hl' => ?_⟩
  have hm' := List.mem_of_getElem? hl'
  have f' := first l' hm'
  have hle : l3 l ≤ l3 l' := by
    have h1 : i < (ls.map l3).length := by rw [List.length_map]; exact (List.getElem?_eq_some_iff.mp hl).1
    have h2 : i + 1 < (ls.map l3).length := by rw [List.length_map]; exact (List.getElem?_eq_some_iff.mp hl').1
    have := List.pairwise_iff_getElem.mp sorted i (i + 1) h1 h2 (by omega)
    rw [List.getElem_map, List.getElem_map] at this
    rw [List.getElem?_eq_getElem (by rw [List.length_map] at h1; exact h1)] at hl
    rw [List.getElem?_eq_getElem (by rw [List.length_map] at h2; exact h2)] at hl'
    cases hl
    cases hl'
    exact this
  have hne : l ≠ l' := fun e => by
    subst e
    have := (List.getElem?_inj (List.getElem?_eq_some_iff.mp hl).1 nodup).mp (hl.trans hl'.symm)
    omega
  obtain ⟨x, y, z⟩ := l
  obtain ⟨a, b, c⟩ := l'
  have hnlt : ¬ (l3 (a, b, c) < l3 (x, y, z)) := List.not_lt.mpr hle
  simp only [l3, List.cons_lt_cons_iff, List.not_lt_nil, and_false, or_false] at hnlt
  refine ⟨hok _ hm', f'.1, f'.2, ?_, fun e => ?_, fun e1 e2 => ?_⟩
  · show x ≤ a
    omega
  · show y ≤ b
    have e : a = x := e
    omega
  · show z + 1 ≤ c
    have e1 : a = x := e1
    have e2 : b = y := e2
    have : z ≠ c := fun e3 => hne (by rw [e1, e2, e3])
    omega
end MF
end
section
set_option Elab.async false
set_option linter.all false
set_option maxRecDepth 100000
set_option maxHeartbeats 4000000
namespace MF
open PySem PySem.Spec PyProof.Rows L2
theorem Parts.sx {C g : Addr} {H H' : Hp} (x : SameX g H H') {gs : List V} (hg : H g = some (.lst gs)) {m : Addr} {ls : List Land} {n : Nat} {r : List Int} {W : List Land} {dx pl pw pf pi pr : Addr} (h : Parts C H m ls n r W dx pl pw pf pi pr) : Parts C H' m ls n r W dx pl pw pf pi pr := by
  have X := x.ext hg
  obtain ⟨qs, k1, k2⟩ := h.lands
  obtain ⟨l, r1, r2⟩ := h.rounds
  refine ⟨x _ _ (fun e => ?_) h.at_, ⟨qs, Rd.ext X k1, Paired_mono (fun _ _ z => TuD.ext X z) k2⟩, x _ _ (fun e => ?_) h.ways, h.perm, h.frame.ext X, h.inner.ext X, l, x.rd (fun e => ?_) r1, fun v a b => ?_⟩
  · have := h.at_
    rw [e, hg] at this
    cases this
  · have : H pw = some (.dT (wkv W)) := h.ways
    rw [e, hg] at this
    cases this
  · rw [e] at r1
    rcases r1 with z | ⟨o, z⟩ <;> rw [hg] at z <;> cases z
  · obtain ⟨p, rd, f, q1, q2, q3⟩ := r2 v a b
    exact ⟨p, rd, f, q1, q2.ext X, q3⟩
theorem MapAt.sx {C g : Addr} {H H' : Hp} (x : SameX g H H') {gs : List V} (hg : H g = some (.lst gs)) {m : Addr} {ls : List Land} {n : Nat} {r : List Int} (h : MapAt C H m ls n r) : MapAt C H' m ls n r :=
  ⟨h.good, h.rots, h.sorted, let ⟨W, dx, pl, pw, pf, pi, pr, k⟩ := h.parts; ⟨W, dx, pl, pw, pf, pi, pr, k.sx x hg⟩⟩
section
variable {P : Program} {w : World} {K : PySem.W.Frag} {mg : Str → Option Value} {base : Heap}
abbrev nLaw : List Str := ["_law_script", "_law_garden_here", "_law_lands_here", "_law_chart", "_law_frame_here", "_law_land", "_law_inner", "_law_turn", "_law_third_here", "_law_later", "_law_each"]
theorem scLaw : FnScope ["_law_script", "_law_garden_here", "_law_lands_here", "_law_chart", "_law_frame_here", "_law_land", "_law_inner", "_law_turn", "_law_third_here", "_law_later", "_law_each"] ["_law_script"] (defScope sLaw) := ⟨rfl, rfl, rfl, by decide +kernel, rfl, by decide +kernel, by decide +kernel⟩
def spLaw (K : PySem.W.Frag) : Sp := fun vs H Q _ => ∃ (a : Addr) (ns : List Int), vs = [.ref a] ∧ SqL K H a (ns.map V.int) ∧ ns.length ≤ 100 ∧ ∀ H', Q (.bl true) H'
theorem ok_law (T : Tx K mg) : FnOk P w K mg base CX0 8 T.law.f T.law.fd ["_law_script"] (spLaw K) := by
  refine okN T.law.F scLaw (fun vs H Q E h => ?_) (fun cdv A outer s0 H vs Q E hr h => ?_)
  · obtain ⟨a, ns, rfl, _⟩ := h
    rfl
  · obtain ⟨a, ns, rfl, ha, hn, q⟩ := h
    have nd := scLaw.nd
    have hu := hu_of hr
    have hu64 := hr.units
    have hu2 : (A.deeper (envOfC (Str.ofString "law") (defScope sLaw) s0.heap.objs.size T.law.f cdv)).units + 2 < cLine := by omega
    have GE : FnR P w K mg base CX0 1 T.mapEq.f (fun vs H Q E => spMapEq T.CMap (vs ++ []) H Q E) := (ok_mapEq T).raw T.mapEq.b .nil
    have GS : FnR P w K mg base CX0 1 T.mapStr.f (fun vs H Q E => spMapStr T.CMap (vs ++ []) H Q E) := (ok_mapStr T).raw T.mapStr.b .nil
    have GR : FnR P w K mg base CX0 7 T.mapRead.f (fun vs H Q E => spMapRead T.CMap (vs ++ []) H Q E) := (ok_mapRead T).raw T.mapRead.b .nil
    refine ⟨_, pss_cons (ps_set (i := 1) nd rfl (.inl rfl) (pcall T.garden ((ok_garden T).mono (k := 7) (by decide)) hr (pa_cons (pv 0) pa_nil)))
      (pss_cons (ps_set (i := 2) nd rfl (.inl rfl) (pcall T.lands ((ok_lands T).mono (k := 7) (by decide)) hr (pa_cons (pv 1) (pa_cons pe_int pa_nil))))
      (pss_cons (ps_par (i := 3) (j := 4) rfl nd rfl rfl (by decide) rfl rfl (pa_cons (pmake T (hr.mono (by decide)) (pa_cons (pv 2) pa_nil)) (pa_cons (pcall T.frame ((ok_frame T).mono (k := 7) (by decide)) hr (pa_cons (pv 2) pa_nil)) pa_nil)) (by rfl))
      (pss_cons (ps_set (i := 6) nd rfl (.inl rfl) (pe_sub (pe_add (pe_maxdot (i := 2) (nm := "_law_land") (j := 5) rfl nd T.max_ (pi_list (pv 2)) (blkOk_by (N := nLaw) (sc := defScope sLaw) (by decide +kernel)) (fun _ _ _ _ _ => pg_name (i := 5) nd rfl (.inl rfl)) (fun _ _ _ _ _ => pe_maxTu rfl hu T.max_ (pa_cons (pv 5) pa_nil))) pe_int) (pe_lenU T.len_ (pa_cons (pv 4) pa_nil))))
      (pss_cons (ps_if (pt_not (pt_val (pcall T.counts ((ok_counts T).mono (k := 7) (by decide)) hr (pa_cons (pv 3) (pa_cons (pe_lenU T.len_ (pa_cons (pv 4) pa_nil)) (pa_cons (pv 6) pa_nil)))))) (pss_one (ps_ret pe_bl)) pss_nil)
      (pss_cons (ps_for PassesOwn.never rfl (pi_range1 (by rfl) T.range_ (pa_cons pe_int pa_nil)) (pg_name (i := 7) nd rfl (.inl rfl))
        (pss_cons (ps_set (i := 5) nd rfl (.inr rfl) (pcall T.pick ((ok_pick T).mono (k := 7) (by decide)) hr (pa_cons (pv 1) (pa_cons (pe_fldU T.clMap T.na_lands (pv 3)) pa_nil))))
        (pss_cons (PS_up (ps_if (PW.pt (pw_and (pt_cmp (pc_eqI (pcall T.spade ((ok_spade T).mono (k := 7) (by decide)) hr (pa_cons (pv 1) (pa_cons pe_int pa_nil))) pe_int)) (pw_and1 (pt_cmp (pc_lt (pe_fldU T.clMap T.na_dots (pv 3)) pe_int)))))
            (pss_one (ps_par (i := 3) (j := 6) rfl nd rfl rfl (by decide) rfl rfl (pa_cons (pcall T.splitAt (ok_splitAt T) hr (pa_cons (pv 3) (pa_cons (pv 5) pa_nil))) (pa_cons (pe_add (pv 6) pe_int) pa_nil)) (by rfl))) pss_nil))
        (pss_cons (ps_set (i := 8) nd rfl (.inr rfl) (pcall T.third ((ok_third T).mono (k := 7) (by decide)) hr (pa_cons (pe_fldU T.clMap T.na_lands (pv 3)) (pa_cons (pe_ixU (pv 5) pe_int (fun _ _ => rfl)) (pa_cons (pe_ixU (pv 5) pe_int (fun _ _ => rfl)) pa_nil)))))
        (pss_cons (PS_up (ps_if (PW.pt (pw_and (pt_cmpR op_notN (pv 8) pe_non (nomark _)) (pw_and1 (pt_cmpR (op_eqLT hu2) (pe_lcA (own := [("_law_each", 10)]) (g := gName 10) rfl nd (pi_tup (pe_fldU T.clMap T.na_lands (pv 3))) (blkOk_by (N := nLaw) (sc := defScope sLaw) (by decide +kernel)) (fun _ _ _ _ _ => pg_name (i := 10) nd rfl (.inl rfl))
              (fun _ _ _ _ _ => pts_one (PW.pt (pw_and (pt_cmpR (op_inTu hu) (pv 8) (pv 10) rfl) (pw_and1 (pt_cmpR (op_inTu hu) (pe_ixU (pv 5) pe_int (fun _ _ => rfl)) (pv 10) rfl))))) (fun _ _ _ _ _ => pv 10)) (pe_lstA pa_nil) (nomark _)))))
            (pss_cons (ps_set (i := 9) nd rfl (.inl rfl) (pe_ifExp (pt_cmpR (op_inT hu2) (pv 5) (pe_fldU T.clMap T.na_lands (pv 3)) rfl) (pcall T.exchanged (ok_exchanged T) hr (pa_cons (pv 3) (pa_cons (pe_ixU (pv 5) pe_int (fun _ _ => rfl)) (pa_cons (pe_ixU (pv 5) pe_int (fun _ _ => rfl)) pa_nil)))) (pv 3)))
            (pss_cons (ps_if (PW.pt (pw_and (pt_cmpR (op_inT hu2) (pv 5) (pe_fldU T.clMap T.na_lands (pv 3)) rfl) (pw_and1 (PW.pt (pw_or (pt_cmpR (op_ownEq T.eqF T.eqI GE (hr.mono (by decide))) (pv 9) (pv 3) (nomark _))
                (pw_or1 (pt_cmpR (op_ownNe T.neF T.obF T.eqF T.eqI GE (hr.mono (by decide))) (pcall T.exchanged (ok_exchanged T) hr (pa_cons (pv 9) (pa_cons (pe_ixU (pv 5) pe_int (fun _ _ => rfl)) (pa_cons (pv 8) pa_nil)))) (pv 3) (nomark _)))))))) (pss_one (ps_ret pe_bl)) pss_nil)
            (pss_one (ps_set (i := 3) nd rfl (.inl rfl) (pv 9))))) pss_nil))
        (pss_one (ps_if (PW.pt (pw_or (pt_cmpR (op_neTu hu) (pe_fldU T.clMap T.na_frame (pv 3)) (pv 4) (nomark _)) (pw_or1 (pt_not (pt_val (pcall T.counts ((ok_counts T).mono (k := 7) (by decide)) hr (pa_cons (pv 3) (pa_cons (pe_lenU T.len_ (pa_cons (pv 4) pa_nil)) (pa_cons (pv 6) pa_nil))))))))) (pss_one (ps_ret pe_bl)) pss_nil)))))))
      (pss_one (ps_ret (pe_cmpR (op_ownEq T.eqF T.eqI GE (hr.mono (by decide))) (pe_smeth (pe_glob (v := .ref T.CMap) (by rfl) T.gMap rfl) T.readS GR hr (pa_cons (pe_callTy (T := "str") (call_strOwn T.strF T.strI GS (hr.mono (by decide))) (by rfl) T.str_ (by decide +kernel) (pa_cons (pv 3) pa_nil)) pa_nil)) (pv 3) (nomark _))))))))), ?_⟩
    refine ⟨_, rfl, a, ns, rfl, ha, hn, fun H1 g c e1 ng gg => ?_⟩
    refine ⟨_, rfl, g, c, rfl, gg, fun H2 p ls n r x2 g2 hpg np L G hn10 => ?_⟩
    have hsm := G.small
    refine ⟨_, rfl, p, ls, n, r, rfl, L, G, fun m H3 e3 nm hm => ?_⟩
    refine ⟨_, rfl, p, ls, r, rfl, L.mono e3, by omega, G.ring, G.B, fun H4 fr e4 hfr => ⟨_, _, rfl, ?_⟩⟩
    refine ⟨p, ls, n, r, rfl, by decide, (show 5 < 11 by decide), L.mono (e3.trans e4), G, fun H5 e5 => ⟨_, 1, rfl, rfl, ?_⟩⟩
    have hfr5 := hfr.mono e5
    refine ⟨_, rfl, fr, _, rfl, .inl (.inl hfr5), _, _, rfl, rfl, ?_⟩
    refine ⟨_, rfl, _, rfl, fr, _, rfl, .inl (.inl hfr5), _, rfl, m, canon ls, n, r, _, _, rfl, by rw [List.length_map], by rw [List.length_map]; omega, hm.mono (e4.trans e5), fun H6 e6 => ⟨true, rfl, iteF ?_⟩⟩
    refine ⟨6, rfl, by omega, by omega, ?_⟩
    have e26 := e3.trans (e4.trans (e5.trans e6))
    refine for_it walk_range0 (fun i σ' H' => ∃ m ls n y5 y7 y8 y9 iv, σ' = [some (.ref a), some (.ref g), some (.ref p), some (.ref m), some (.ref fr), y5, some (.int iv), y7, y8, y9, none] ∧ iv = ((n : Nat) : Int) - r.length ∧ MapAt T.CMap H' m ls n r ∧ TuX H' fr r ∧ Gard H' g c (40 + 2 * i) ∧ n ≤ 14)
      ⟨m, canon ls, n, none, none, none, none, _, rfl, by rw [List.length_map]; omega, hm.mono (e4.trans (e5.trans e6)), hfr5.mono e6, g2.mono e26, by omega⟩ (fun _ _ _ _ _ => trivial) ?_ ?_
    · rintro i x σ' H7 H8 hi ⟨m, ls, n, y5, y7, y8, y9, iv, rfl, hiv, hm, hfr, gg, hn14⟩ ⟨rfl, rfl⟩
      have hi6 : i < 6 := hi
      obtain ⟨W, dx, pl, pw, pf, pi, pr, k⟩ := hm.parts
      obtain ⟨ps, hl, hp⟩ := k.lands
      obtain ⟨gs, hgs⟩ := gg.at_
      have hplen := tuD_len hp
      have hsm := hm.good.small
      have hl1 := hm.good.len1
      have hplg : pl ≠ g := fun e => by
        rw [e] at hl
        rcases hl with z | ⟨o, z⟩ <;> rw [hgs] at z <;> cases z
      refine ⟨_, rfl, _, rfl, m, dx, _, .ref pl, rfl, k.at_, by rfl, g, c, pl, _, 40 + 2 * i, rfl, .inl hl, hplg, gg, by omega, ?_, by rw [hplen]; omega, fun H9 y j x9 g9 hy => ?_⟩
      · intro e
        have h0 := congrArg List.length e
        rw [hplen, List.length_nil] at h0
        omega
      obtain ⟨t, l, rfl, hlj, tl⟩ := tuD_at hp hy
      have hlm := List.mem_of_getElem? hlj
      have hm9 := hm.sx x9 hgs
      have tl9 := tl.ext (x9.ext hgs)
      have hfr9 := hfr.ext (x9.ext hgs)
      -- a dot more
      refine ⟨fun σ' H' => ∃ m ls n iv, σ' = [some (.ref a), some (.ref g), some (.ref p), some (.ref m), some (.ref fr), some (.ref t), some (.int iv), some (.int (i : Nat)), y8, y9, none] ∧ iv = ((n : Nat) : Int) - r.length ∧ MapAt T.CMap H' m ls n r ∧ TuX H' fr r ∧ Gard H' g c (40 + 2 * i + 2) ∧ n ≤ 14 ∧ TuD H' t (l3 l), ?_, ?_⟩
      · refine ⟨_, rfl, g, c, 3, 40 + 2 * i + 1, rfl, g9, by omega, by omega, by omega, fun H10 x x10 g10 h0 h2 => ⟨x, 0, rfl, rfl, _, rfl, ?_⟩⟩
        obtain ⟨gs9, hgs9⟩ := g9.at_
        have hm10 := hm9.sx x10 hgs9
        have tl10 := tl9.ext (x10.ext hgs9)
        have hfr10 := hfr9.ext (x10.ext hgs9)
        refine ifB rfl (fun _ => ?_) (fun _ => iteF ⟨m, ls, n, iv, rfl, hiv, hm10, hfr10, g10, hn14, tl10⟩)
        obtain ⟨W2, dx2, pl2, pw2, pf2, pi2, pr2, k2⟩ := hm10.parts
        refine ⟨_, rfl, m, dx2, _, .int (n : Nat), rfl, k2.at_, by rfl, n, 14, rfl, rfl, _, rfl, ?_⟩
        refine ifB rfl (fun hlt => ?_) (fun _ => ⟨m, ls, n, iv, rfl, hiv, hm10, hfr10, g10, hn14, tl10⟩)
        have hlt' : (n : Int) < 14 := of_decide_eq_true hlt
        have hrl := hm.rots l hlm
        have hG := splitL_good hm.good (l := rot l) (by rw [hrl]; exact hlm) (by omega)
        refine ⟨_, rfl, _, rfl, m, t, ls, n, r, l, rfl, hm10, tl10, hm.good.ok3 l hlm, by rw [hrl]; exact mem_ways_of hlm, hG, fun H11 m' e11 nm' hm' => ?_⟩
        exact ⟨_, rfl, iv, 1, rfl, rfl, _, _, rfl, m', _, n + 1, _, rfl, by omega, hm', hfr10.mono e11, g10.mono e11, by omega, tl10.mono e11⟩
      clear hm hm9 hfr hfr9 gg g9 tl tl9 k hl hp hplen hsm hl1 hplg x9 hn14 hiv hlj hlm
      rintro σ10 H10 ⟨m, ls, n, iv, rfl, hiv, hm, hfr, gg, hn14, tl⟩
      obtain ⟨W, dx, pl, pw, pf, pi, pr, k⟩ := hm.parts
      have G := hm.good
      have hsm := G.small
      refine ⟨_, rfl, m, dx, _, .ref pl, rfl, k.at_, by rfl, _, rfl, t, _, 1, .int l.2.1, rfl, rfl, .inl tl.tu, rfl, _, rfl, t, _, 0, .int l.1, rfl, rfl, .inl tl.tu, rfl, pl, l.2.1, l.1, ls, rfl, k.lands.seq, fun H11 e11 => ?_⟩
      have hm11 := hm.mono e11
      have hfr11 := hfr.mono e11
      have gg11 := gg.mono e11
      have tl11 := tl.mono e11
      have k11 := k.mono e11
      refine ⟨fun σ' H' => ∃ m ls n y8 y9 iv, σ' = [some (.ref a), some (.ref g), some (.ref p), some (.ref m), some (.ref fr), some (.ref t), some (.int iv), some (.int (i : Nat)), y8, y9, none] ∧ iv = ((n : Nat) : Int) - r.length ∧ MapAt T.CMap H' m ls n r ∧ TuX H' fr r ∧ Gard H' g c (40 + 2 * i + 2) ∧ n ≤ 14, ?_, ?_⟩
      · cases hd : third (ways ls) l.2.1 l.1 with
        | none => exact ⟨_, rfl, rfl, _, rfl, iteF (iteF ⟨m, ls, n, _, _, iv, rfl, hiv, hm11, hfr11, gg11, hn14⟩)⟩
        | some d =>
          refine ⟨_, rfl, rfl, _, rfl, iteT ?_⟩
          obtain ⟨ps, hl, hp⟩ := k11.lands
          have hplen := tuD_len hp
          have hwalk : Walk (Itt K pl) ls.length (fun H' => SqT K H' pl (ps.map V.ref)) (YAt (ps.map V.ref)) := by
            have := walk_tup (K := K) (a := pl) (xs := ps.map V.ref)
            rw [hplen] at this
            exact this
          refine ⟨_, rfl, m, dx, _, .ref pl, rfl, k11.at_, by rfl, pl, rfl, ⟨_, .inl hl⟩, ?_⟩
          refine ⟨Land, ls, fun e => decide (d ∈ l3 e) && decide (l.2.2 ∈ l3 e), fun e y H' => ∃ q, y = V.ref q ∧ TuD H' q (l3 e), _, _, hwalk, sz_lt (by omega), fun H' e' => .inl (Rd.mono e' hl), fun d y H' H'' ex ⟨q, h1, h2⟩ => ⟨q, h1, h2.ext ex⟩, ?_, ?_⟩
          · rintro j e x H12 H13 hj e12 ⟨rfl, hx⟩
            obtain ⟨q2, e', rfl, hj2, te⟩ := tuD_at hp hx
            rw [hj] at hj2
            cases hj2
            have te' := te.mono e12
            refine ⟨rfl, _, rfl, _, rfl, d, q2, l3 e, rfl, rfl, te'.tu, _, rfl, ?_⟩
            refine ifB rfl (fun h1 => ?_) (fun h1 => ?_)
            · refine ⟨_, rfl, t, _, 2, .int l.2.2, rfl, rfl, .inl (tl11.mono e12).tu, rfl, _, rfl, l.2.2, q2, l3 e, rfl, rfl, te'.tu, _, rfl, by show decide (l.2.2 ∈ l3 e) = (decide (d ∈ l3 e) && decide (l.2.2 ∈ l3 e)); rw [h1]; rfl, ?_⟩
              exact ifB rfl (fun _ => ⟨_, rfl, Same.refl _, q2, rfl, te'⟩) (fun _ => Same.refl _)
            · exact ⟨by show false = (decide (d ∈ l3 e) && decide (l.2.2 ∈ l3 e)); rw [h1]; rfl, ifF rfl (Same.refl _)⟩
          intro D ys H12 nD e12 hD hpr
          obtain ⟨rs, rfl, hr2⟩ := tuD_refs (f := l3) hpr
          refine ⟨by decide, fun em H13 n13 e13 h13 => ⟨D, em, rs, [], _, [], rfl, rfl, .inl (e13 _ _ hD), (tuD_tus hr2).mono e13, .inl h13, .nil, _, rfl, ?_⟩⟩
          have e1113 := e12.trans e13
          have hm13 := hm11.mono e1113
          have k13 := k11.mono e1113
          have hfr13 := hfr11.mono e1113
          have gg13 := gg11.mono e1113
          have tl13 := tl11.mono e1113
          have hl13 := Rd.mono e1113 hl
          have hp13 : Tus H13 ps (ls.map l3) := (tuD_tus hp).mono e1113
          refine ifB rfl (fun hyes => ?_) (fun _ => ⟨m, ls, n, _, _, iv, rfl, hiv, hm13, hfr13, gg13, hn14⟩)
          have hno : ∀ e ∈ ls, ¬ (l.2.2 ∈ l3 e ∧ d ∈ l3 e) := by
            intro e he ⟨h1, h2⟩
            have h0 : ls.filter (fun e => decide (d ∈ l3 e) && decide (l.2.2 ∈ l3 e)) = [] := by
              have := of_decide_eq_true hyes
              simpa using this
            have hmm : e ∈ ls.filter (fun e => decide (d ∈ l3 e) && decide (l.2.2 ∈ l3 e)) := List.mem_filter.mpr ⟨he, by simp [h1, h2]⟩
            rw [h0] at hmm
            cases hmm
          have hinD : decide (l3 l ∈ ls.map l3) = decide (l ∈ ls) := decide_eq_decide.mpr ⟨fun h => by
            obtain ⟨l2, h2, e⟩ := List.mem_map.mp h
            exact l3_inj e ▸ h2, fun h => List.mem_map.mpr ⟨l, h, rfl⟩⟩
          refine ⟨_, rfl, _, rfl, m, dx, _, .ref pl, rfl, k13.at_, by rfl, t, pl, l3 l, ps, ls.map l3, rfl, rfl, tl13.tu, hl13, hp13, _, rfl, ?_⟩
          refine ifB hinD (fun hin => ?_) (fun hin => ?_)
          · have hin' : l ∈ ls := of_decide_eq_true hin
            obtain ⟨la, lb, lc⟩ := l
            have h1 : (la, lb, lc) ∈ ways ls := mem_ways_of hin'
            have h2 : (lb, la, d) ∈ ways ls := third_mem hd
            obtain ⟨hcd, m1, m2⟩ := far G h1 (d := d) hno
            have gF := (flipL_good G hm.rots h1 h2 hcd m1 m2).1
            obtain ⟨b1, b2, b3, b4, b5, b6, b7⟩ := flip_back G hm.rots hm.sorted h1 h2 hcd m1 m2
            refine ⟨_, rfl, _, rfl, t, _, 0, .int la, rfl, rfl, .inl tl13.tu, rfl, _, rfl, t, _, 1, .int lb, rfl, rfl, .inl tl13.tu, rfl, m, la, lb, lc, d, ls, n, r, rfl, hm13, h1, h2, m1, m2, gF, fun H14 m' e14 nm' hm' => ?_⟩
            have hm14 := hm13.mono e14
            have k14 := k13.mono e14
            have tl14 := tl13.mono e14
            obtain ⟨W', dx', pl', pw', pf', pi', pr', k'⟩ := hm'.parts
            refine ⟨_, rfl, _, rfl, m, dx, _, .ref pl, rfl, k14.at_, by rfl, t, pl, l3 (la, lb, lc), ps, ls.map l3, rfl, rfl, tl14.tu, Rd.mono e14 hl13, hp13.mono e14, _, rfl, ifT (by rw [hinD]; exact decide_eq_true hin') ?_⟩
            refine ⟨_, rfl, _, rfl, m', dx', _, m, dx, _, rfl, rfl, k'.at_, k14.at_, m', m, _, ls, n, n, r, r, rfl, hm', hm14, _, rfl, _, rfl, ifF ?_ ?_⟩
            · rw [decide_eq_false b7]
              rfl
            refine ⟨_, rfl, _, rfl, t, _, 2, .int lc, rfl, rfl, .inl tl14.tu, rfl, _, rfl, m', lc, d, lb, la, _, n, r, rfl, hm', b1, b2, b3, b4, b5, fun H15 m2' e15 nm2 hm2 => ?_⟩
            obtain ⟨W2, dx2, pl2, pw2, pf2, pi2, pr2, k2⟩ := hm2.parts
            refine ⟨_, rfl, m2', dx2, _, m, dx, _, rfl, rfl, k2.at_, (k14.mono e15).at_, m2', m, _, ls, n, n, r, r, rfl, hm2, hm14.mono e15, _, rfl, _, rfl, ifF ?_ ?_⟩
            · rw [decide_eq_true b6]
              rfl
            exact ⟨_, rfl, m', _, n, _, _, iv, rfl, hiv, hm'.mono e15, (hfr13.mono e14).mono e15, (gg13.mono e14).mono e15, hn14⟩
          · refine ⟨_, rfl, _, rfl, _, rfl, m, dx, _, .ref pl, rfl, k13.at_, by rfl, t, pl, l3 l, ps, ls.map l3, rfl, rfl, tl13.tu, hl13, hp13, _, rfl, ifF (by rw [hinD]; exact hin) ?_⟩
            exact iteF ⟨_, rfl, m, ls, n, _, _, iv, rfl, hiv, hm13, hfr13, gg13, hn14⟩
      clear hm hm11 hfr hfr11 gg gg11 tl tl11 k k11 hsm G hn14 hiv
      rintro σ12 H12 ⟨m, ls, n, y8, y9, iv, rfl, hiv, hm, hfr, gg, hn14⟩
      obtain ⟨W, dx, pl, pw, pf, pi, pr, k⟩ := hm.parts
      refine ⟨_, rfl, m, dx, _, .ref pf, rfl, k.at_, by rfl, _, rfl, pf, fr, r, r, rfl, rfl, k.frame.tu, hfr.tu, _, rfl, ifF (decide_eq_false fun h => h rfl) ?_⟩
      refine ⟨_, rfl, _, rfl, fr, _, rfl, .inl (.inl hfr), _, rfl, m, ls, n, r, _, _, rfl, by rw [List.length_map], hiv, hm, fun H13 e13 => ⟨true, rfl, iteF ?_⟩⟩
      exact ⟨m, ls, n, _, _, _, _, iv, rfl, hiv, hm.mono e13, hfr.mono e13, (gg.mono e13).le (by omega), hn14⟩
    · rintro σ' H7 ⟨m, ls, n, y5, y7, y8, y9, iv, rfl, hiv, hm, hfr, gg, hn14⟩
      obtain ⟨W, dx, pl, pw, pf, pi, pr, k⟩ := hm.parts
      have hcan := canon_id hm.rots hm.sorted
      refine ⟨rfl, _, rfl, m, dx, _, rfl, k.at_, m, ls, n, r, rfl, hm, fun H8 e8 => ⟨_, rfl, ?_⟩⟩
      refine ⟨ls, n, r, rfl, hm.good, asc_of hm, fun H9 m' e9 nm' hm' => ?_⟩
      obtain ⟨W', dx', pl', pw', pf', pi', pr', k'⟩ := hm'.parts
      have e79 := e8.trans e9
      refine ⟨_, rfl, m', dx', _, m, dx, _, rfl, rfl, k'.at_, (k.mono e79).at_, m', m, _, ls, n, n, r, r, rfl, hm', hm.mono e79, _, rfl, ?_⟩
      rw [decide_eq_true hcan]
      exact q H9
end
end MF
end
section
set_option Elab.async false
set_option linter.all false
set_option maxRecDepth 100000
set_option maxHeartbeats 0
namespace MF
open PySem PySem.Spec PyProof.Rows L2
/-! the head: what is asked of the top, its run -/
def dTop (x : Str) (st : Stmt) (dfl : List He.Dv) : He.DefD := ⟨(x, none), x, x, defArgs st, defBody st, defScope st, dfl, []⟩
def dMet (C m q : Str) (st : Stmt) (dfl : List He.Dv) : He.DefD := ⟨(C, some m), m, q, defArgs st, defBody st, defScope st, dfl, []⟩
def fnP0 : List He.DefD := [dTop "is_integer" sIsInteger [], dTop "is_within" sIsWithin [], dTop "need_number" sNeedNumber [], dTop "written" sWritten [], dTop "from_least" sFromLeast [], dTop "ways_in" sWaysIn [], dTop "ties_in" sTiesIn [], dTop "first_of" sFirstOf [], dTop "round_from" sRoundFrom [], dTop "tied_from" sTiedFrom [], dTop "hang_round" sHangRound [], dTop "hang_together" sHangTogether []]
def fnP1 : List He.DefD := [dTop "is_map" sIsMap [], dTop "frame_in" sFrameIn [], dTop "taken_land" sTakenLand [], dTop "taken_lands" sTakenLands [], dTop "is_three" sIsThree [], dTop "need_lands" sNeedLands [], dTop "need_map" sNeedMap [.str "chart"], dTop "need_dot" sNeedDot [.str "dot"], dTop "land_told" sLandTold [], dTop "need_land" sNeedLand [.str "land"], dTop "round_in" sRoundIn [], dTop "round_of" sRoundOf []]
def fnP2 : List He.DefD := [dTop "ties_of" sTiesOf [], dTop "land_at" sLandAt [], dTop "without" sWithout [], dTop "split_at" sSplitAt [], dTop "exchanged" sExchanged [], dTop "_law_garden" sGarden [], dTop "_law_spade" sSpade [], dTop "_law_pick" sPick [], dTop "_law_third" sThird [], dTop "_law_split" sSplit [], dTop "_law_other_tie" sOtherTie [], dTop "_law_lands" sLands []]
def fnP3 : List He.DefD := [dTop "_law_frame" sFrame [], dTop "_law_counts_right" sCounts [], dTop "law" sLaw [], dMet "Scan" "__init__" "Scan.__init__" sScanInit [], dMet "Scan" "ahead" "Scan.ahead" sAhead [], dMet "Scan" "take" "Scan.take" sTake [], dMet "Scan" "take_number" "Scan.take_number" sTakeNumber [.non, .non], dMet "Scan" "finish" "Scan.finish" sFinish [], dMet "Map" "__init__" "Map.__init__" sMapInit [], dMet "Map" "__eq__" "Map.__eq__" sMapEq [], dMet "Map" "__str__" "Map.__str__" sMapStr []]
def fnL : List He.DefD := fnP0 ++ fnP1 ++ fnP2 ++ fnP3
def faP0 : List He.Fa := [.glo "is_integer", .glo "is_within", .glo "need_number", .glo "written", .glo "from_least", .glo "ways_in", .glo "ties_in", .glo "first_of", .glo "round_from", .glo "tied_from", .glo "hang_round", .glo "hang_together"]
def faP1 : List He.Fa := [.glo "is_map", .glo "frame_in", .glo "taken_land", .glo "taken_lands", .glo "is_three", .glo "need_lands", .glo "need_map", .glo "need_dot", .glo "land_told", .glo "need_land", .glo "round_in", .glo "round_of"]
def faP2 : List He.Fa := [.glo "ties_of", .glo "land_at", .glo "without", .glo "split_at", .glo "exchanged", .glo "_law_garden", .glo "_law_spade", .glo "_law_pick", .glo "_law_third", .glo "_law_split", .glo "_law_other_tie", .glo "_law_lands"]
def faP3 : List He.Fa := [.glo "_law_frame", .glo "_law_counts_right", .glo "law", .free "isinstance", .free "int", .free "bool", .free "len", .free "all", .free "str", .free "min", .free "max", .free "tuple"]
def faP4 : List He.Fa := [.free "sorted", .free "range", .free "list", .free "set", .free "abs", .free "sum", .free "enumerate", .free "zip", .int "MOST_FIGURES" 2000, .int "MOST_DOT" 59, .int "MOST_LANDS" 120, .str "BAR" "/"]
def faP5 : List He.Fa := [.str "FIGURES" "0123456789", .glo "Scan", .glo "Map", .cls "Scan", .cls "Map", .mkr "Scan", .mkr "Map", .meth "Scan" "ahead", .meth "Scan" "take", .meth "Scan" "take_number", .meth "Scan" "finish", .meth "Map" "__eq__"]
def faP6 : List He.Fa := [.meth "Map" "__str__", .noat "Scan" "words", .noat "Scan" "at", .noat "Map" "lands", .noat "Map" "ways", .noat "Map" "frame", .noat "Map" "dots", .noat "Map" "inner", .noat "Map" "rounds"]
def faL : List He.Fa := faP0 ++ faP1 ++ faP2 ++ faP3 ++ faP4 ++ faP5 ++ faP6
/-- the static method's object and function -/
def rdP (K : PySem.W.Frag) : Addr := He.ma K (He.ga K "Map") "read"
def rdF (K : PySem.W.Frag) : Addr := match PySem.W.recIn K (rdP K) "staticmethod" with
  | some (.ref g :: _) => g
  | _ => 0
def dRead : He.DefD := ⟨("Map", some "read"), "read", "Map.read", defArgs sMapRead, defBody sMapRead, defScope sMapRead, [], []⟩
def fnAt (K : PySem.W.Frag) (a : Addr) : He.FnW := match K.lookup a with
  | some ⟨_, _, .func fd, _⟩ => some (fd.name, fd.qualname, fd.params, fd.body, fd.scope, fd.globals, fd.closure, fd.builtins)
  | _ => none
def okAt (K : PySem.W.Frag) (a : Addr) (q : Str) : Bool := PySem.W.keepIn K (.ref a) && (match K.lookup a with
  | some ⟨_, _, .func fd, _⟩ => PySem.W.codeIn K fd.code q && (He.dflB K fd.defaults [] && He.kwdB K fd.kwdefaults [])
  | _ => false)
theorem funAt {K : PySem.W.Frag} {d : He.DefD} {a : Addr} (e : fnAt K a = d.val) (c : okAt K a d.qual = true) : ∃ fd, FunD K d.name d.qual d.params d.body d.scope [] [] a fd := by
  obtain ⟨kp, c2⟩ := Bool.and_eq_true_iff.mp c
  unfold fnAt at e
  cases q : K.lookup a with
  | none =>
    rw [q] at c2
    cases c2
  | some ob =>
    obtain ⟨oc, od, dt, osl⟩ := ob
    rw [q] at c2 e
    cases dt with
    | func fd =>
      obtain ⟨n1, n2, n3, n4, n5, n6, n7, n8, n9, n10, n11, n12, n13, n14, n15⟩ := fd
      replace e : (some (n1, n2, n3, n4, n5, n6, n7, n15) : He.FnW) = some (d.name, d.qual, d.params, .stmts d.body, d.scope, mainGlobals, [], builtinsNs) := e
      simp only [Option.some.injEq, Prod.mk.injEq] at e
      obtain ⟨rfl, rfl, rfl, rfl, rfl, rfl, rfl, rfl⟩ := e
      replace c2 : (PySem.W.codeIn K n13 d.qual && (He.dflB K n8 [] && He.kwdB K n9 [])) = true := c2
      obtain ⟨k1, k2⟩ := Bool.and_eq_true_iff.mp c2
      obtain ⟨k3, k4⟩ := Bool.and_eq_true_iff.mp k2
      exact ⟨_, ⟨oc, od, n8, n9, n10, n11, n12, n13, n14, osl, rfl, q, k1, He.dflB_ok k3, He.kwdB_ok k4⟩, kp⟩
    | _ => cases c2
/-- the further facts -/
def eqR (a b : Option (Option Value)) : Bool := decide (a = b)
def exK (K : PySem.W.Frag) : Bool :=
  eqR (PySem.W.findIn K (.ref (He.ga K "Map")) "__ne__") (some (some (.builtin "object.__ne__"))) && decide (PySem.W.mroIn K (He.ga K "Map") (.type "object") = some true) &&
  eqR (PySem.W.findIn K (.ref (He.ga K "Map")) "__class__") (some (some (.builtin "object.__class__"))) && eqR (PySem.W.specialIn K (.builtin "object.__class__") "__get__") (some (some (.builtin "getset_descriptor.__get__"))) &&
  decide (PySem.W.takesIn K (.builtin "object.__class__") = some true) && decide (PySem.W.kitOne K (.ref (He.ga K "Map")) (.ref (He.ga K "Map")) = some true) &&
  PySem.W.readsIn K (He.ga K "Map") (.type "type") && (match PySem.W.findCls K (.ref (He.ga K "Map")) (.type "type") "read" with
    | some (.get g a o c) => decide (g = .builtin "staticmethod.__get__" ∧ a = .ref (rdP K) ∧ o = .none ∧ c = .ref (He.ga K "Map"))
    | _ => false) && (match PySem.W.recIn K (rdP K) "staticmethod" with
    | some (.ref _ :: _) => true
    | _ => false) && eqR (PySem.W.specialIn K (.ref (He.ga K "Map")) "__getattribute__") (some (some (.builtin "type.__getattribute__"))) && okAt K (rdF K) "Map.read"
abbrev AlM : Type := (He.AlD × He.FnW) × Bool
def obsM (n : Nat) (g : Addr → Option Obj) : AlM := ((He.obsD faL fnL (He.frG g (cStatics :: He.asD g n)), fnAt (He.frG g (cStatics :: He.asD g n)) (rdF (He.frG g (cStatics :: He.asD g n)))), exK (He.frG g (cStatics :: He.asD g n)))
def hookM (n : Nat) : PySem.W.Hook where
  α := AlM
  obs := fun s => obsM n s.heap.get?
  val := fun _ => ((He.valD fnL, dRead.val), true)
  says := fun _ h => ∃ K : PySem.W.Frag, K.In h ∧ He.SaysD faL fnL K ∧ fnAt K (rdF K) = dRead.val ∧ exK K = true
  of := fun _ _ e => ⟨_, He.frG_in, congrArg (fun z : AlM => z.1.1) e, congrArg (fun z : AlM => z.1.2) e, congrArg (fun z : AlM => z.2) e⟩
  keeps := fun _ _ _ ⟨K, hK, c⟩ k => ⟨K, PySem.W.Frag.In.keeps hK k, c⟩
abbrev RR : PySem.W.OpenRow := PySem.W.OpenLaw.row PySem.Challenge.rw_mapflow_k13_whole_counts_and_ways_back
abbrev hk : PySem.W.Hook := hookM 6
def ob (s : PySem.W.SharedT) : AlM := obsM 6 (HandSHeadRun.getT s)
theorem ob_eq (s : PySem.W.SharedT) : ob s = hk.obs s.abs := by
  have e : HandSHeadRun.getT s = s.abs.heap.get? := funext (HandSHeadRun.getT_eq s)
  show obsM 6 (HandSHeadRun.getT s) = obsM 6 s.abs.heap.get?
  rw [e]
def loose1 : List Str := ["_wall", "FlowError", "BadNumber", "BadMap", "BadLand", "Misfit", "TooMany", "BadText", "is_integer", "is_within", "need_number", "BAR", "FIGURES", "MOST_FIGURES", "written", "Scan", "MOST_DOT", "MOST_LANDS", "from_least", "ways_in", "ties_in", "first_of", "round_from", "tied_from", "hang_round", "hang_together", "is_map", "frame_in", "Map", "taken_land"]
def loose2 : List Str := ["taken_lands", "is_three", "need_lands", "need_map", "need_dot", "land_told", "need_land", "round_in", "round_of", "ties_of", "land_at", "without", "split_at", "exchanged", "_law_garden", "_law_spade", "_law_pick", "_law_from_least", "_law_third", "_law_split", "_law_other_tie", "_law_lands", "_law_frame", "_law_counts_right"]
def looseL : List Str := loose1 ++ loose2
theorem run (w : World) : HandSHeadRun.RunEq RR (PySem.W.view RR.prog [60]) hk ob 6000 looseL w := by
  intro os
  kernel_rfl
end MF
end
section
set_option Elab.async false
set_option linter.all false
set_option maxRecDepth 100000
set_option maxHeartbeats 0
namespace MF
open PySem PySem.Spec PyProof.Rows L2
/-! what the top has left, from the head's facts -/
section
variable {K : PySem.W.Frag} {mg : Str → Option Value} {h : Heap} {f : Addr}
theorem dA {x : Str} {st : Stmt} {ps : List Str} {dvs : List V} (e : ∃ fd, FunD K x x (defArgs st) (defBody st) (defScope st) dvs [] f fd) (g : mg x = some (.ref f)) (hb : ∀ fd, FunD K x x (defArgs st) (defBody st) (defScope st) dvs [] f fd → Binds K fd ps []) : ∃ D : DefA K mg x st ps dvs, D.f = f := by
  obtain ⟨fd, F⟩ := e
  exact ⟨⟨f, fd, F, g, hb fd F⟩, rfl⟩
theorem mA {C : Addr} {m q : Str} {st : Stmt} {ps : List Str} {dvs : List V} (e : ∃ fd, FunD K m q (defArgs st) (defBody st) (defScope st) dvs [] f fd) (hb : ∀ fd, FunD K m q (defArgs st) (defBody st) (defScope st) dvs [] f fd → Binds K fd ps []) : ∃ D : MetA K C m q st ps dvs, D.f = f := by
  obtain ⟨fd, F⟩ := e
  exact ⟨⟨f, fd, F, hb fd F⟩, rfl⟩
/-- all are written, though some have a default -/
theorem bAll {x q : Str} {a : Arguments} {bd : List Stmt} {sc : Scope} {dvs : List V} {fd : FuncData} {ps : List Str} (F : FunD K x q a bd sc dvs [] f fd) (hd : dvs ≠ [])
    (hz : ∀ (T : Addr) (kV doc pm : Value) (an : Option Addr) (cdv ct : Value) (us its : List Value), us.length = ps.length → its.length = dvs.length →
      ∃ k, bindArgs (PySem.W.fnOf x q a bd sc (.ref T) kV doc pm an cdv ct) ⟨us, []⟩ = seqItems? (.ref T) >>= k ∧ k (some its.toArray) = pure (ps.zip us)) : Binds K fd ps [] := by
  obtain ⟨ds, v, b⟩ := F.binds1 (ps := ps) ps.length dvs.length hd (by omega) (fun T kV doc pm an cdv ct us its l1 l2 => by
    obtain ⟨k, e1, e2⟩ := hz T kV doc pm an cdv ct us its l1 l2
    refine ⟨k, e1, e2.trans ?_⟩
    rw [show its.drop dvs.length = [] from by rw [← l2]; exact List.drop_length, List.append_nil])
  rw [List.drop_length] at v
  cases v
  exact b
theorem b_isInteger {fd : FuncData} (F : FunD K "is_integer" "is_integer" (defArgs sIsInteger) (defBody sIsInteger) (defScope sIsInteger) [] [] f fd) : Binds K fd ["value"] [] := F.bindsN fun _ _ _ _ _ _ us hl => match us, hl with | [_], _ => rfl
theorem b_isWithin {fd : FuncData} (F : FunD K "is_within" "is_within" (defArgs sIsWithin) (defBody sIsWithin) (defScope sIsWithin) [] [] f fd) : Binds K fd ["value", "least", "most"] [] := F.bindsN fun _ _ _ _ _ _ us hl => match us, hl with | [_, _, _], _ => rfl
theorem b_needNumber {fd : FuncData} (F : FunD K "need_number" "need_number" (defArgs sNeedNumber) (defBody sNeedNumber) (defScope sNeedNumber) [] [] f fd) : Binds K fd ["value", "part", "least", "most"] [] := F.bindsN fun _ _ _ _ _ _ us hl => match us, hl with | [_, _, _, _], _ => rfl
theorem b_written {fd : FuncData} (F : FunD K "written" "written" (defArgs sWritten) (defBody sWritten) (defScope sWritten) [] [] f fd) : Binds K fd ["item"] [] := F.bindsN fun _ _ _ _ _ _ us hl => match us, hl with | [_], _ => rfl
theorem b_fromLeast {fd : FuncData} (F : FunD K "from_least" "from_least" (defArgs sFromLeast) (defBody sFromLeast) (defScope sFromLeast) [] [] f fd) : Binds K fd ["land"] [] := F.bindsN fun _ _ _ _ _ _ us hl => match us, hl with | [_], _ => rfl
theorem b_waysIn {fd : FuncData} (F : FunD K "ways_in" "ways_in" (defArgs sWaysIn) (defBody sWaysIn) (defScope sWaysIn) [] [] f fd) : Binds K fd ["lands"] [] := F.bindsN fun _ _ _ _ _ _ us hl => match us, hl with | [_], _ => rfl
theorem b_tiesIn {fd : FuncData} (F : FunD K "ties_in" "ties_in" (defArgs sTiesIn) (defBody sTiesIn) (defScope sTiesIn) [] [] f fd) : Binds K fd ["ways"] [] := F.bindsN fun _ _ _ _ _ _ us hl => match us, hl with | [_], _ => rfl
theorem b_firstOf {fd : FuncData} (F : FunD K "first_of" "first_of" (defArgs sFirstOf) (defBody sFirstOf) (defScope sFirstOf) [] [] f fd) : Binds K fd ["ways", "dot", "tied"] [] := F.bindsN fun _ _ _ _ _ _ us hl => match us, hl with | [_, _, _], _ => rfl
theorem b_roundFrom {fd : FuncData} (F : FunD K "round_from" "round_from" (defArgs sRoundFrom) (defBody sRoundFrom) (defScope sRoundFrom) [] [] f fd) : Binds K fd ["ways", "dot", "first"] [] := F.bindsN fun _ _ _ _ _ _ us hl => match us, hl with | [_, _, _], _ => rfl
theorem b_tiedFrom {fd : FuncData} (F : FunD K "tied_from" "tied_from" (defArgs sTiedFrom) (defBody sTiedFrom) (defScope sTiedFrom) [] [] f fd) : Binds K fd ["ways"] [] := F.bindsN fun _ _ _ _ _ _ us hl => match us, hl with | [_], _ => rfl
theorem b_hangRound {fd : FuncData} (F : FunD K "hang_round" "hang_round" (defArgs sHangRound) (defBody sHangRound) (defScope sHangRound) [] [] f fd) : Binds K fd ["ways", "tied"] [] := F.bindsN fun _ _ _ _ _ _ us hl => match us, hl with | [_, _], _ => rfl
theorem b_hangTogether {fd : FuncData} (F : FunD K "hang_together" "hang_together" (defArgs sHangTogether) (defBody sHangTogether) (defScope sHangTogether) [] [] f fd) : Binds K fd ["ways"] [] := F.bindsN fun _ _ _ _ _ _ us hl => match us, hl with | [_], _ => rfl
theorem b_isMap {fd : FuncData} (F : FunD K "is_map" "is_map" (defArgs sIsMap) (defBody sIsMap) (defScope sIsMap) [] [] f fd) : Binds K fd ["lands"] [] := F.bindsN fun _ _ _ _ _ _ us hl => match us, hl with | [_], _ => rfl
theorem b_frameIn {fd : FuncData} (F : FunD K "frame_in" "frame_in" (defArgs sFrameIn) (defBody sFrameIn) (defScope sFrameIn) [] [] f fd) : Binds K fd ["ways"] [] := F.bindsN fun _ _ _ _ _ _ us hl => match us, hl with | [_], _ => rfl
theorem b_takenLand {fd : FuncData} (F : FunD K "taken_land" "taken_land" (defArgs sTakenLand) (defBody sTakenLand) (defScope sTakenLand) [] [] f fd) : Binds K fd ["scan", "before"] [] := F.bindsN fun _ _ _ _ _ _ us hl => match us, hl with | [_, _], _ => rfl
theorem b_takenLands {fd : FuncData} (F : FunD K "taken_lands" "taken_lands" (defArgs sTakenLands) (defBody sTakenLands) (defScope sTakenLands) [] [] f fd) : Binds K fd ["scan"] [] := F.bindsN fun _ _ _ _ _ _ us hl => match us, hl with | [_], _ => rfl
theorem b_isThree {fd : FuncData} (F : FunD K "is_three" "is_three" (defArgs sIsThree) (defBody sIsThree) (defScope sIsThree) [] [] f fd) : Binds K fd ["value"] [] := F.bindsN fun _ _ _ _ _ _ us hl => match us, hl with | [_], _ => rfl
theorem b_needLands {fd : FuncData} (F : FunD K "need_lands" "need_lands" (defArgs sNeedLands) (defBody sNeedLands) (defScope sNeedLands) [] [] f fd) : Binds K fd ["value"] [] := F.bindsN fun _ _ _ _ _ _ us hl => match us, hl with | [_], _ => rfl
theorem b_needMap {fd : FuncData} (F : FunD K "need_map" "need_map" (defArgs sNeedMap) (defBody sNeedMap) (defScope sNeedMap) [.str "chart"] [] f fd) : Binds K fd ["value", "part"] [] := bAll F (by decide) fun _ _ _ _ _ _ _ us its l1 l2 => match us, its, l1, l2 with | [_, _], [_], _, _ => ⟨_, rfl, rfl⟩
theorem bD_needMap {fd : FuncData} (F : FunD K "need_map" "need_map" (defArgs sNeedMap) (defBody sNeedMap) (defScope sNeedMap) [.str "chart"] [] f fd) : ∃ ds, Vals [.str "chart"] ds ∧ Binds K fd ["value", "part"] ds := F.binds1 1 0 (by decide) (by decide) fun _ _ _ _ _ _ _ us its l1 l2 => match us, its, l1, l2 with | [_], [_], _, _ => ⟨_, rfl, rfl⟩
theorem b_needDot {fd : FuncData} (F : FunD K "need_dot" "need_dot" (defArgs sNeedDot) (defBody sNeedDot) (defScope sNeedDot) [.str "dot"] [] f fd) : Binds K fd ["value", "part"] [] := bAll F (by decide) fun _ _ _ _ _ _ _ us its l1 l2 => match us, its, l1, l2 with | [_, _], [_], _, _ => ⟨_, rfl, rfl⟩
theorem bD_needDot {fd : FuncData} (F : FunD K "need_dot" "need_dot" (defArgs sNeedDot) (defBody sNeedDot) (defScope sNeedDot) [.str "dot"] [] f fd) : ∃ ds, Vals [.str "dot"] ds ∧ Binds K fd ["value", "part"] ds := F.binds1 1 0 (by decide) (by decide) fun _ _ _ _ _ _ _ us its l1 l2 => match us, its, l1, l2 with | [_], [_], _, _ => ⟨_, rfl, rfl⟩
theorem b_landTold {fd : FuncData} (F : FunD K "land_told" "land_told" (defArgs sLandTold) (defBody sLandTold) (defScope sLandTold) [] [] f fd) : Binds K fd ["chart", "value"] [] := F.bindsN fun _ _ _ _ _ _ us hl => match us, hl with | [_, _], _ => rfl
theorem b_needLand {fd : FuncData} (F : FunD K "need_land" "need_land" (defArgs sNeedLand) (defBody sNeedLand) (defScope sNeedLand) [.str "land"] [] f fd) : Binds K fd ["chart", "value", "part"] [] := bAll F (by decide) fun _ _ _ _ _ _ _ us its l1 l2 => match us, its, l1, l2 with | [_, _, _], [_], _, _ => ⟨_, rfl, rfl⟩
theorem bD_needLand {fd : FuncData} (F : FunD K "need_land" "need_land" (defArgs sNeedLand) (defBody sNeedLand) (defScope sNeedLand) [.str "land"] [] f fd) : ∃ ds, Vals [.str "land"] ds ∧ Binds K fd ["chart", "value", "part"] ds := F.binds1 2 0 (by decide) (by decide) fun _ _ _ _ _ _ _ us its l1 l2 => match us, its, l1, l2 with | [_, _], [_], _, _ => ⟨_, rfl, rfl⟩
theorem b_roundIn {fd : FuncData} (F : FunD K "round_in" "round_in" (defArgs sRoundIn) (defBody sRoundIn) (defScope sRoundIn) [] [] f fd) : Binds K fd ["chart", "dot"] [] := F.bindsN fun _ _ _ _ _ _ us hl => match us, hl with | [_, _], _ => rfl
theorem b_roundOf {fd : FuncData} (F : FunD K "round_of" "round_of" (defArgs sRoundOf) (defBody sRoundOf) (defScope sRoundOf) [] [] f fd) : Binds K fd ["chart", "dot"] [] := F.bindsN fun _ _ _ _ _ _ us hl => match us, hl with | [_, _], _ => rfl
theorem b_tiesOf {fd : FuncData} (F : FunD K "ties_of" "ties_of" (defArgs sTiesOf) (defBody sTiesOf) (defScope sTiesOf) [] [] f fd) : Binds K fd ["chart"] [] := F.bindsN fun _ _ _ _ _ _ us hl => match us, hl with | [_], _ => rfl
theorem b_landAt {fd : FuncData} (F : FunD K "land_at" "land_at" (defArgs sLandAt) (defBody sLandAt) (defScope sLandAt) [] [] f fd) : Binds K fd ["chart", "one", "other"] [] := F.bindsN fun _ _ _ _ _ _ us hl => match us, hl with | [_, _, _], _ => rfl
theorem b_without {fd : FuncData} (F : FunD K "without" "without" (defArgs sWithout) (defBody sWithout) (defScope sWithout) [] [] f fd) : Binds K fd ["lands", "gone"] [] := F.bindsN fun _ _ _ _ _ _ us hl => match us, hl with | [_, _], _ => rfl
theorem b_splitAt {fd : FuncData} (F : FunD K "split_at" "split_at" (defArgs sSplitAt) (defBody sSplitAt) (defScope sSplitAt) [] [] f fd) : Binds K fd ["chart", "land"] [] := F.bindsN fun _ _ _ _ _ _ us hl => match us, hl with | [_, _], _ => rfl
theorem b_exchanged {fd : FuncData} (F : FunD K "exchanged" "exchanged" (defArgs sExchanged) (defBody sExchanged) (defScope sExchanged) [] [] f fd) : Binds K fd ["chart", "one", "other"] [] := F.bindsN fun _ _ _ _ _ _ us hl => match us, hl with | [_, _, _], _ => rfl
theorem b_garden {fd : FuncData} (F : FunD K "_law_garden" "_law_garden" (defArgs sGarden) (defBody sGarden) (defScope sGarden) [] [] f fd) : Binds K fd ["_law_script"] [] := F.bindsN fun _ _ _ _ _ _ us hl => match us, hl with | [_], _ => rfl
theorem b_spade {fd : FuncData} (F : FunD K "_law_spade" "_law_spade" (defArgs sSpade) (defBody sSpade) (defScope sSpade) [] [] f fd) : Binds K fd ["_law_garden_here", "_law_many"] [] := F.bindsN fun _ _ _ _ _ _ us hl => match us, hl with | [_, _], _ => rfl
theorem b_pick {fd : FuncData} (F : FunD K "_law_pick" "_law_pick" (defArgs sPick) (defBody sPick) (defScope sPick) [] [] f fd) : Binds K fd ["_law_garden_here", "_law_some"] [] := F.bindsN fun _ _ _ _ _ _ us hl => match us, hl with | [_, _], _ => rfl
theorem b_third {fd : FuncData} (F : FunD K "_law_third" "_law_third" (defArgs sThird) (defBody sThird) (defScope sThird) [] [] f fd) : Binds K fd ["_law_lands_here", "_law_one", "_law_other"] [] := F.bindsN fun _ _ _ _ _ _ us hl => match us, hl with | [_, _, _], _ => rfl
theorem b_split {fd : FuncData} (F : FunD K "_law_split" "_law_split" (defArgs sSplit) (defBody sSplit) (defScope sSplit) [] [] f fd) : Binds K fd ["_law_lands_here", "_law_land", "_law_new"] [] := F.bindsN fun _ _ _ _ _ _ us hl => match us, hl with | [_, _, _], _ => rfl
theorem b_otherTie {fd : FuncData} (F : FunD K "_law_other_tie" "_law_other_tie" (defArgs sOtherTie) (defBody sOtherTie) (defScope sOtherTie) [] [] f fd) : Binds K fd ["_law_lands_here", "_law_one", "_law_other"] [] := F.bindsN fun _ _ _ _ _ _ us hl => match us, hl with | [_, _, _], _ => rfl
theorem b_lands {fd : FuncData} (F : FunD K "_law_lands" "_law_lands" (defArgs sLands) (defBody sLands) (defScope sLands) [] [] f fd) : Binds K fd ["_law_garden_here", "_law_many"] [] := F.bindsN fun _ _ _ _ _ _ us hl => match us, hl with | [_, _], _ => rfl
theorem b_frame {fd : FuncData} (F : FunD K "_law_frame" "_law_frame" (defArgs sFrame) (defBody sFrame) (defScope sFrame) [] [] f fd) : Binds K fd ["_law_lands_here"] [] := F.bindsN fun _ _ _ _ _ _ us hl => match us, hl with | [_], _ => rfl
theorem b_counts {fd : FuncData} (F : FunD K "_law_counts_right" "_law_counts_right" (defArgs sCounts) (defBody sCounts) (defScope sCounts) [] [] f fd) : Binds K fd ["_law_chart", "_law_corners", "_law_inner"] [] := F.bindsN fun _ _ _ _ _ _ us hl => match us, hl with | [_, _, _], _ => rfl
theorem b_law {fd : FuncData} (F : FunD K "law" "law" (defArgs sLaw) (defBody sLaw) (defScope sLaw) [] [] f fd) : Binds K fd ["_law_script"] [] := F.bindsN fun _ _ _ _ _ _ us hl => match us, hl with | [_], _ => rfl
theorem b_scanInit {fd : FuncData} (F : FunD K "__init__" "Scan.__init__" (defArgs sScanInit) (defBody sScanInit) (defScope sScanInit) [] [] f fd) : Binds K fd ["self", "text"] [] := F.bindsN fun _ _ _ _ _ _ us hl => match us, hl with | [_, _], _ => rfl
theorem b_ahead {fd : FuncData} (F : FunD K "ahead" "Scan.ahead" (defArgs sAhead) (defBody sAhead) (defScope sAhead) [] [] f fd) : Binds K fd ["self"] [] := F.bindsN fun _ _ _ _ _ _ us hl => match us, hl with | [_], _ => rfl
theorem b_take {fd : FuncData} (F : FunD K "take" "Scan.take" (defArgs sTake) (defBody sTake) (defScope sTake) [] [] f fd) : Binds K fd ["self"] [] := F.bindsN fun _ _ _ _ _ _ us hl => match us, hl with | [_], _ => rfl
theorem b_takeNumber {fd : FuncData} (F : FunD K "take_number" "Scan.take_number" (defArgs sTakeNumber) (defBody sTakeNumber) (defScope sTakeNumber) [.non, .non] [] f fd) : Binds K fd ["self", "least", "most"] [] := bAll F (by decide) fun _ _ _ _ _ _ _ us its l1 l2 => match us, its, l1, l2 with | [_, _, _], [_, _], _, _ => ⟨_, rfl, rfl⟩
theorem b_finish {fd : FuncData} (F : FunD K "finish" "Scan.finish" (defArgs sFinish) (defBody sFinish) (defScope sFinish) [] [] f fd) : Binds K fd ["self"] [] := F.bindsN fun _ _ _ _ _ _ us hl => match us, hl with | [_], _ => rfl
theorem b_mapInit {fd : FuncData} (F : FunD K "__init__" "Map.__init__" (defArgs sMapInit) (defBody sMapInit) (defScope sMapInit) [] [] f fd) : Binds K fd ["self", "lands"] [] := F.bindsN fun _ _ _ _ _ _ us hl => match us, hl with | [_, _], _ => rfl
theorem b_mapEq {fd : FuncData} (F : FunD K "__eq__" "Map.__eq__" (defArgs sMapEq) (defBody sMapEq) (defScope sMapEq) [] [] f fd) : Binds K fd ["self", "other"] [] := F.bindsN fun _ _ _ _ _ _ us hl => match us, hl with | [_, _], _ => rfl
theorem b_mapStr {fd : FuncData} (F : FunD K "__str__" "Map.__str__" (defArgs sMapStr) (defBody sMapStr) (defScope sMapStr) [] [] f fd) : Binds K fd ["self"] [] := F.bindsN fun _ _ _ _ _ _ us hl => match us, hl with | [_], _ => rfl
theorem b_mapRead {fd : FuncData} (F : FunD K "read" "Map.read" (defArgs sMapRead) (defBody sMapRead) (defScope sMapRead) [] [] f fd) : Binds K fd ["text"] [] := F.bindsN fun _ _ _ _ _ _ us hl => match us, hl with | [_], _ => rfl
theorem exK_ok (e : exK K = true) : (PySem.W.findIn K (.ref (He.ga K "Map")) "__ne__" = some (some (.builtin "object.__ne__")) ∧ PySem.W.mroIn K (He.ga K "Map") (.type "object") = some true ∧
    PySem.W.findIn K (.ref (He.ga K "Map")) "__class__" = some (some (.builtin "object.__class__")) ∧ PySem.W.specialIn K (.builtin "object.__class__") "__get__" = some (some (.builtin "getset_descriptor.__get__")) ∧
    PySem.W.takesIn K (.builtin "object.__class__") = some true ∧ PySem.W.kitOne K (.ref (He.ga K "Map")) (.ref (He.ga K "Map")) = some true) ∧
    PySem.W.readsIn K (He.ga K "Map") (.type "type") = true ∧ PySem.W.findCls K (.ref (He.ga K "Map")) (.type "type") "read" = some (.get (.builtin "staticmethod.__get__") (.ref (rdP K)) .none (.ref (He.ga K "Map"))) ∧
    (∃ rest, PySem.W.recIn K (rdP K) "staticmethod" = some (.ref (rdF K) :: rest)) ∧ PySem.W.specialIn K (.ref (He.ga K "Map")) "__getattribute__" = some (some (.builtin "type.__getattribute__")) ∧ okAt K (rdF K) "Map.read" = true := by
  unfold exK at e
  simp only [Bool.and_eq_true_iff] at e
  obtain ⟨⟨⟨⟨⟨⟨⟨⟨⟨⟨e1, e2⟩, e3⟩, e4⟩, e5⟩, e6⟩, e7⟩, e8⟩, e9⟩, e10⟩, e11⟩ := e
  refine ⟨⟨of_decide_eq_true e1, of_decide_eq_true e2, of_decide_eq_true e3, of_decide_eq_true e4, of_decide_eq_true e5, of_decide_eq_true e6⟩, e7, ?_, ?_, of_decide_eq_true e10, e11⟩
  · generalize PySem.W.findCls K (.ref (He.ga K "Map")) (.type "type") "read" = z at e8
    split at e8
    · obtain ⟨rfl, rfl, rfl, rfl⟩ := of_decide_eq_true e8
      rfl
    · cases e8
  · unfold rdF
    split at e9
    · rename_i g rest q
      rw [q]
      exact ⟨_, rfl⟩
    · cases e9
theorem txOf (X : K.In h) (G : h.Ns mainGlobals mg) (c : He.SaysD faL fnL K) (c2 : fnAt K (rdF K) = dRead.val) (c3 : exK K = true) : ∃ T : Tx K mg, T.law.f = He.ga K "law" := by
  obtain ⟨D_isInteger, z_isInteger⟩ := dA (K := K) (mg := mg) (x := "is_integer") (st := sIsInteger) (ps := ["value"]) (dvs := []) (c.def_ 0 (d := dTop "is_integer" sIsInteger []) rfl) (He.glo_ok X G (c.fact 0 (f := .glo "is_integer") rfl)) (fun _ F => b_isInteger F)
  obtain ⟨D_isWithin, z_isWithin⟩ := dA (K := K) (mg := mg) (x := "is_within") (st := sIsWithin) (ps := ["value", "least", "most"]) (dvs := []) (c.def_ 1 (d := dTop "is_within" sIsWithin []) rfl) (He.glo_ok X G (c.fact 1 (f := .glo "is_within") rfl)) (fun _ F => b_isWithin F)
  obtain ⟨D_needNumber, z_needNumber⟩ := dA (K := K) (mg := mg) (x := "need_number") (st := sNeedNumber) (ps := ["value", "part", "least", "most"]) (dvs := []) (c.def_ 2 (d := dTop "need_number" sNeedNumber []) rfl) (He.glo_ok X G (c.fact 2 (f := .glo "need_number") rfl)) (fun _ F => b_needNumber F)
  obtain ⟨D_written, z_written⟩ := dA (K := K) (mg := mg) (x := "written") (st := sWritten) (ps := ["item"]) (dvs := []) (c.def_ 3 (d := dTop "written" sWritten []) rfl) (He.glo_ok X G (c.fact 3 (f := .glo "written") rfl)) (fun _ F => b_written F)
  obtain ⟨D_fromLeast, z_fromLeast⟩ := dA (K := K) (mg := mg) (x := "from_least") (st := sFromLeast) (ps := ["land"]) (dvs := []) (c.def_ 4 (d := dTop "from_least" sFromLeast []) rfl) (He.glo_ok X G (c.fact 4 (f := .glo "from_least") rfl)) (fun _ F => b_fromLeast F)
  obtain ⟨D_waysIn, z_waysIn⟩ := dA (K := K) (mg := mg) (x := "ways_in") (st := sWaysIn) (ps := ["lands"]) (dvs := []) (c.def_ 5 (d := dTop "ways_in" sWaysIn []) rfl) (He.glo_ok X G (c.fact 5 (f := .glo "ways_in") rfl)) (fun _ F => b_waysIn F)
  obtain ⟨D_tiesIn, z_tiesIn⟩ := dA (K := K) (mg := mg) (x := "ties_in") (st := sTiesIn) (ps := ["ways"]) (dvs := []) (c.def_ 6 (d := dTop "ties_in" sTiesIn []) rfl) (He.glo_ok X G (c.fact 6 (f := .glo "ties_in") rfl)) (fun _ F => b_tiesIn F)
  obtain ⟨D_firstOf, z_firstOf⟩ := dA (K := K) (mg := mg) (x := "first_of") (st := sFirstOf) (ps := ["ways", "dot", "tied"]) (dvs := []) (c.def_ 7 (d := dTop "first_of" sFirstOf []) rfl) (He.glo_ok X G (c.fact 7 (f := .glo "first_of") rfl)) (fun _ F => b_firstOf F)
  obtain ⟨D_roundFrom, z_roundFrom⟩ := dA (K := K) (mg := mg) (x := "round_from") (st := sRoundFrom) (ps := ["ways", "dot", "first"]) (dvs := []) (c.def_ 8 (d := dTop "round_from" sRoundFrom []) rfl) (He.glo_ok X G (c.fact 8 (f := .glo "round_from") rfl)) (fun _ F => b_roundFrom F)
  obtain ⟨D_tiedFrom, z_tiedFrom⟩ := dA (K := K) (mg := mg) (x := "tied_from") (st := sTiedFrom) (ps := ["ways"]) (dvs := []) (c.def_ 9 (d := dTop "tied_from" sTiedFrom []) rfl) (He.glo_ok X G (c.fact 9 (f := .glo "tied_from") rfl)) (fun _ F => b_tiedFrom F)
  obtain ⟨D_hangRound, z_hangRound⟩ := dA (K := K) (mg := mg) (x := "hang_round") (st := sHangRound) (ps := ["ways", "tied"]) (dvs := []) (c.def_ 10 (d := dTop "hang_round" sHangRound []) rfl) (He.glo_ok X G (c.fact 10 (f := .glo "hang_round") rfl)) (fun _ F => b_hangRound F)
  obtain ⟨D_hangTogether, z_hangTogether⟩ := dA (K := K) (mg := mg) (x := "hang_together") (st := sHangTogether) (ps := ["ways"]) (dvs := []) (c.def_ 11 (d := dTop "hang_together" sHangTogether []) rfl) (He.glo_ok X G (c.fact 11 (f := .glo "hang_together") rfl)) (fun _ F => b_hangTogether F)
  obtain ⟨D_isMap, z_isMap⟩ := dA (K := K) (mg := mg) (x := "is_map") (st := sIsMap) (ps := ["lands"]) (dvs := []) (c.def_ 12 (d := dTop "is_map" sIsMap []) rfl) (He.glo_ok X G (c.fact 12 (f := .glo "is_map") rfl)) (fun _ F => b_isMap F)
  obtain ⟨D_frameIn, z_frameIn⟩ := dA (K := K) (mg := mg) (x := "frame_in") (st := sFrameIn) (ps := ["ways"]) (dvs := []) (c.def_ 13 (d := dTop "frame_in" sFrameIn []) rfl) (He.glo_ok X G (c.fact 13 (f := .glo "frame_in") rfl)) (fun _ F => b_frameIn F)
  obtain ⟨D_takenLand, z_takenLand⟩ := dA (K := K) (mg := mg) (x := "taken_land") (st := sTakenLand) (ps := ["scan", "before"]) (dvs := []) (c.def_ 14 (d := dTop "taken_land" sTakenLand []) rfl) (He.glo_ok X G (c.fact 14 (f := .glo "taken_land") rfl)) (fun _ F => b_takenLand F)
  obtain ⟨D_takenLands, z_takenLands⟩ := dA (K := K) (mg := mg) (x := "taken_lands") (st := sTakenLands) (ps := ["scan"]) (dvs := []) (c.def_ 15 (d := dTop "taken_lands" sTakenLands []) rfl) (He.glo_ok X G (c.fact 15 (f := .glo "taken_lands") rfl)) (fun _ F => b_takenLands F)
  obtain ⟨D_isThree, z_isThree⟩ := dA (K := K) (mg := mg) (x := "is_three") (st := sIsThree) (ps := ["value"]) (dvs := []) (c.def_ 16 (d := dTop "is_three" sIsThree []) rfl) (He.glo_ok X G (c.fact 16 (f := .glo "is_three") rfl)) (fun _ F => b_isThree F)
  obtain ⟨D_needLands, z_needLands⟩ := dA (K := K) (mg := mg) (x := "need_lands") (st := sNeedLands) (ps := ["value"]) (dvs := []) (c.def_ 17 (d := dTop "need_lands" sNeedLands []) rfl) (He.glo_ok X G (c.fact 17 (f := .glo "need_lands") rfl)) (fun _ F => b_needLands F)
  obtain ⟨D_needMap, z_needMap⟩ := dA (K := K) (mg := mg) (x := "need_map") (st := sNeedMap) (ps := ["value", "part"]) (dvs := [.str "chart"]) (c.def_ 18 (d := dTop "need_map" sNeedMap [.str "chart"]) rfl) (He.glo_ok X G (c.fact 18 (f := .glo "need_map") rfl)) (fun _ F => b_needMap F)
  obtain ⟨D_needDot, z_needDot⟩ := dA (K := K) (mg := mg) (x := "need_dot") (st := sNeedDot) (ps := ["value", "part"]) (dvs := [.str "dot"]) (c.def_ 19 (d := dTop "need_dot" sNeedDot [.str "dot"]) rfl) (He.glo_ok X G (c.fact 19 (f := .glo "need_dot") rfl)) (fun _ F => b_needDot F)
  obtain ⟨D_landTold, z_landTold⟩ := dA (K := K) (mg := mg) (x := "land_told") (st := sLandTold) (ps := ["chart", "value"]) (dvs := []) (c.def_ 20 (d := dTop "land_told" sLandTold []) rfl) (He.glo_ok X G (c.fact 20 (f := .glo "land_told") rfl)) (fun _ F => b_landTold F)
  obtain ⟨D_needLand, z_needLand⟩ := dA (K := K) (mg := mg) (x := "need_land") (st := sNeedLand) (ps := ["chart", "value", "part"]) (dvs := [.str "land"]) (c.def_ 21 (d := dTop "need_land" sNeedLand [.str "land"]) rfl) (He.glo_ok X G (c.fact 21 (f := .glo "need_land") rfl)) (fun _ F => b_needLand F)
  obtain ⟨D_roundIn, z_roundIn⟩ := dA (K := K) (mg := mg) (x := "round_in") (st := sRoundIn) (ps := ["chart", "dot"]) (dvs := []) (c.def_ 22 (d := dTop "round_in" sRoundIn []) rfl) (He.glo_ok X G (c.fact 22 (f := .glo "round_in") rfl)) (fun _ F => b_roundIn F)
  obtain ⟨D_roundOf, z_roundOf⟩ := dA (K := K) (mg := mg) (x := "round_of") (st := sRoundOf) (ps := ["chart", "dot"]) (dvs := []) (c.def_ 23 (d := dTop "round_of" sRoundOf []) rfl) (He.glo_ok X G (c.fact 23 (f := .glo "round_of") rfl)) (fun _ F => b_roundOf F)
  obtain ⟨D_tiesOf, z_tiesOf⟩ := dA (K := K) (mg := mg) (x := "ties_of") (st := sTiesOf) (ps := ["chart"]) (dvs := []) (c.def_ 24 (d := dTop "ties_of" sTiesOf []) rfl) (He.glo_ok X G (c.fact 24 (f := .glo "ties_of") rfl)) (fun _ F => b_tiesOf F)
  obtain ⟨D_landAt, z_landAt⟩ := dA (K := K) (mg := mg) (x := "land_at") (st := sLandAt) (ps := ["chart", "one", "other"]) (dvs := []) (c.def_ 25 (d := dTop "land_at" sLandAt []) rfl) (He.glo_ok X G (c.fact 25 (f := .glo "land_at") rfl)) (fun _ F => b_landAt F)
  obtain ⟨D_without, z_without⟩ := dA (K := K) (mg := mg) (x := "without") (st := sWithout) (ps := ["lands", "gone"]) (dvs := []) (c.def_ 26 (d := dTop "without" sWithout []) rfl) (He.glo_ok X G (c.fact 26 (f := .glo "without") rfl)) (fun _ F => b_without F)
  obtain ⟨D_splitAt, z_splitAt⟩ := dA (K := K) (mg := mg) (x := "split_at") (st := sSplitAt) (ps := ["chart", "land"]) (dvs := []) (c.def_ 27 (d := dTop "split_at" sSplitAt []) rfl) (He.glo_ok X G (c.fact 27 (f := .glo "split_at") rfl)) (fun _ F => b_splitAt F)
  obtain ⟨D_exchanged, z_exchanged⟩ := dA (K := K) (mg := mg) (x := "exchanged") (st := sExchanged) (ps := ["chart", "one", "other"]) (dvs := []) (c.def_ 28 (d := dTop "exchanged" sExchanged []) rfl) (He.glo_ok X G (c.fact 28 (f := .glo "exchanged") rfl)) (fun _ F => b_exchanged F)
  obtain ⟨D_garden, z_garden⟩ := dA (K := K) (mg := mg) (x := "_law_garden") (st := sGarden) (ps := ["_law_script"]) (dvs := []) (c.def_ 29 (d := dTop "_law_garden" sGarden []) rfl) (He.glo_ok X G (c.fact 29 (f := .glo "_law_garden") rfl)) (fun _ F => b_garden F)
  obtain ⟨D_spade, z_spade⟩ := dA (K := K) (mg := mg) (x := "_law_spade") (st := sSpade) (ps := ["_law_garden_here", "_law_many"]) (dvs := []) (c.def_ 30 (d := dTop "_law_spade" sSpade []) rfl) (He.glo_ok X G (c.fact 30 (f := .glo "_law_spade") rfl)) (fun _ F => b_spade F)
  obtain ⟨D_pick, z_pick⟩ := dA (K := K) (mg := mg) (x := "_law_pick") (st := sPick) (ps := ["_law_garden_here", "_law_some"]) (dvs := []) (c.def_ 31 (d := dTop "_law_pick" sPick []) rfl) (He.glo_ok X G (c.fact 31 (f := .glo "_law_pick") rfl)) (fun _ F => b_pick F)
  obtain ⟨D_third, z_third⟩ := dA (K := K) (mg := mg) (x := "_law_third") (st := sThird) (ps := ["_law_lands_here", "_law_one", "_law_other"]) (dvs := []) (c.def_ 32 (d := dTop "_law_third" sThird []) rfl) (He.glo_ok X G (c.fact 32 (f := .glo "_law_third") rfl)) (fun _ F => b_third F)
  obtain ⟨D_split, z_split⟩ := dA (K := K) (mg := mg) (x := "_law_split") (st := sSplit) (ps := ["_law_lands_here", "_law_land", "_law_new"]) (dvs := []) (c.def_ 33 (d := dTop "_law_split" sSplit []) rfl) (He.glo_ok X G (c.fact 33 (f := .glo "_law_split") rfl)) (fun _ F => b_split F)
  obtain ⟨D_otherTie, z_otherTie⟩ := dA (K := K) (mg := mg) (x := "_law_other_tie") (st := sOtherTie) (ps := ["_law_lands_here", "_law_one", "_law_other"]) (dvs := []) (c.def_ 34 (d := dTop "_law_other_tie" sOtherTie []) rfl) (He.glo_ok X G (c.fact 34 (f := .glo "_law_other_tie") rfl)) (fun _ F => b_otherTie F)
  obtain ⟨D_lands, z_lands⟩ := dA (K := K) (mg := mg) (x := "_law_lands") (st := sLands) (ps := ["_law_garden_here", "_law_many"]) (dvs := []) (c.def_ 35 (d := dTop "_law_lands" sLands []) rfl) (He.glo_ok X G (c.fact 35 (f := .glo "_law_lands") rfl)) (fun _ F => b_lands F)
  obtain ⟨D_frame, z_frame⟩ := dA (K := K) (mg := mg) (x := "_law_frame") (st := sFrame) (ps := ["_law_lands_here"]) (dvs := []) (c.def_ 36 (d := dTop "_law_frame" sFrame []) rfl) (He.glo_ok X G (c.fact 36 (f := .glo "_law_frame") rfl)) (fun _ F => b_frame F)
  obtain ⟨D_counts, z_counts⟩ := dA (K := K) (mg := mg) (x := "_law_counts_right") (st := sCounts) (ps := ["_law_chart", "_law_corners", "_law_inner"]) (dvs := []) (c.def_ 37 (d := dTop "_law_counts_right" sCounts []) rfl) (He.glo_ok X G (c.fact 37 (f := .glo "_law_counts_right") rfl)) (fun _ F => b_counts F)
  obtain ⟨D_law, z_law⟩ := dA (K := K) (mg := mg) (x := "law") (st := sLaw) (ps := ["_law_script"]) (dvs := []) (c.def_ 38 (d := dTop "law" sLaw []) rfl) (He.glo_ok X G (c.fact 38 (f := .glo "law") rfl)) (fun _ F => b_law F)
  obtain ⟨D_scanInit, z_scanInit⟩ := mA (K := K) (C := He.ga K "Scan") (m := "__init__") (q := "Scan.__init__") (st := sScanInit) (ps := ["self", "text"]) (dvs := []) (c.def_ 39 (d := dMet "Scan" "__init__" "Scan.__init__" sScanInit []) rfl) (fun _ F => b_scanInit F)
  obtain ⟨D_ahead, z_ahead⟩ := mA (K := K) (C := He.ga K "Scan") (m := "ahead") (q := "Scan.ahead") (st := sAhead) (ps := ["self"]) (dvs := []) (c.def_ 40 (d := dMet "Scan" "ahead" "Scan.ahead" sAhead []) rfl) (fun _ F => b_ahead F)
  obtain ⟨D_take, z_take⟩ := mA (K := K) (C := He.ga K "Scan") (m := "take") (q := "Scan.take") (st := sTake) (ps := ["self"]) (dvs := []) (c.def_ 41 (d := dMet "Scan" "take" "Scan.take" sTake []) rfl) (fun _ F => b_take F)
  obtain ⟨D_takeNumber, z_takeNumber⟩ := mA (K := K) (C := He.ga K "Scan") (m := "take_number") (q := "Scan.take_number") (st := sTakeNumber) (ps := ["self", "least", "most"]) (dvs := [.non, .non]) (c.def_ 42 (d := dMet "Scan" "take_number" "Scan.take_number" sTakeNumber [.non, .non]) rfl) (fun _ F => b_takeNumber F)
  obtain ⟨D_finish, z_finish⟩ := mA (K := K) (C := He.ga K "Scan") (m := "finish") (q := "Scan.finish") (st := sFinish) (ps := ["self"]) (dvs := []) (c.def_ 43 (d := dMet "Scan" "finish" "Scan.finish" sFinish []) rfl) (fun _ F => b_finish F)
  obtain ⟨D_mapInit, z_mapInit⟩ := mA (K := K) (C := He.ga K "Map") (m := "__init__") (q := "Map.__init__") (st := sMapInit) (ps := ["self", "lands"]) (dvs := []) (c.def_ 44 (d := dMet "Map" "__init__" "Map.__init__" sMapInit []) rfl) (fun _ F => b_mapInit F)
  obtain ⟨D_mapEq, z_mapEq⟩ := mA (K := K) (C := He.ga K "Map") (m := "__eq__") (q := "Map.__eq__") (st := sMapEq) (ps := ["self", "other"]) (dvs := []) (c.def_ 45 (d := dMet "Map" "__eq__" "Map.__eq__" sMapEq []) rfl) (fun _ F => b_mapEq F)
  obtain ⟨D_mapStr, z_mapStr⟩ := mA (K := K) (C := He.ga K "Map") (m := "__str__") (q := "Map.__str__") (st := sMapStr) (ps := ["self"]) (dvs := []) (c.def_ 46 (d := dMet "Map" "__str__" "Map.__str__" sMapStr []) rfl) (fun _ F => b_mapStr F)
  obtain ⟨⟨x1, x2, x3, x4, x5, x6⟩, x7, x8, ⟨rest, x9⟩, x10, x11⟩ := exK_ok c3
  obtain ⟨D_mapRead, z_mapRead⟩ := mA (K := K) (C := He.ga K "Map") (m := "read") (q := "Map.read") (st := sMapRead) (ps := ["text"]) (dvs := []) (funAt c2 x11) (fun _ F => b_mapRead F)
  have y_ahead : Meth K (He.ga K "Scan") "ahead" D_ahead.f := z_ahead ▸ He.meth_ok (c.fact 67 (f := .meth "Scan" "ahead") rfl)
  have y_take : Meth K (He.ga K "Scan") "take" D_take.f := z_take ▸ He.meth_ok (c.fact 68 (f := .meth "Scan" "take") rfl)
  have y_takeNumber : Meth K (He.ga K "Scan") "take_number" D_takeNumber.f := z_takeNumber ▸ He.meth_ok (c.fact 69 (f := .meth "Scan" "take_number") rfl)
  have y_finish : Meth K (He.ga K "Scan") "finish" D_finish.f := z_finish ▸ He.meth_ok (c.fact 70 (f := .meth "Scan" "finish") rfl)
  have y_mapEq : Meth K (He.ga K "Map") "__eq__" D_mapEq.f := z_mapEq ▸ He.meth_ok (c.fact 71 (f := .meth "Map" "__eq__") rfl)
  have y_mapStr : Meth K (He.ga K "Map") "__str__" D_mapStr.f := z_mapStr ▸ He.meth_ok (c.fact 72 (f := .meth "Map" "__str__") rfl)
  have k_scan : Mk K (He.ga K "Scan") D_scanInit.f := z_scanInit ▸ He.mkr_ok (c.fact 65 (f := .mkr "Scan") rfl)
  have k_map : Mk K (He.ga K "Map") D_mapInit.f := z_mapInit ▸ He.mkr_ok (c.fact 66 (f := .mkr "Map") rfl)
  have cl : Cls K (He.ga K "Map") := He.cls_ok (c.fact 64 (f := .cls "Map") rfl)
  exact ⟨{
    isinstance_ := He.free_ok X G (c.fact 39 (f := .free "isinstance") rfl),
    int_ := He.free_ok X G (c.fact 40 (f := .free "int") rfl),
    bool_ := He.free_ok X G (c.fact 41 (f := .free "bool") rfl),
    len_ := He.free_ok X G (c.fact 42 (f := .free "len") rfl),
    all_ := He.free_ok X G (c.fact 43 (f := .free "all") rfl),
    str_ := He.free_ok X G (c.fact 44 (f := .free "str") rfl),
    min_ := He.free_ok X G (c.fact 45 (f := .free "min") rfl),
    max_ := He.free_ok X G (c.fact 46 (f := .free "max") rfl),
    tuple_ := He.free_ok X G (c.fact 47 (f := .free "tuple") rfl),
    sorted_ := He.free_ok X G (c.fact 48 (f := .free "sorted") rfl),
    range_ := He.free_ok X G (c.fact 49 (f := .free "range") rfl),
    list_ := He.free_ok X G (c.fact 50 (f := .free "list") rfl),
    set_ := He.free_ok X G (c.fact 51 (f := .free "set") rfl),
    abs_ := He.free_ok X G (c.fact 52 (f := .free "abs") rfl),
    sum_ := He.free_ok X G (c.fact 53 (f := .free "sum") rfl),
    enumerate_ := He.free_ok X G (c.fact 54 (f := .free "enumerate") rfl),
    zip_ := He.free_ok X G (c.fact 55 (f := .free "zip") rfl),
    MOST_FIGURES := He.int_ok X G (c.fact 56 (f := .int "MOST_FIGURES" 2000) rfl),
    MOST_DOT := He.int_ok X G (c.fact 57 (f := .int "MOST_DOT" 59) rfl),
    MOST_LANDS := He.int_ok X G (c.fact 58 (f := .int "MOST_LANDS" 120) rfl),
    BAR := He.str_ok X G (c.fact 59 (f := .str "BAR" "/") rfl),
    FIGURES := He.str_ok X G (c.fact 60 (f := .str "FIGURES" "0123456789") rfl),
    isInteger := D_isInteger,
    isWithin := D_isWithin,
    needNumber := D_needNumber,
    written := D_written,
    fromLeast := D_fromLeast,
    waysIn := D_waysIn,
    tiesIn := D_tiesIn,
    firstOf := D_firstOf,
    roundFrom := D_roundFrom,
    tiedFrom := D_tiedFrom,
    hangRound := D_hangRound,
    hangTogether := D_hangTogether,
    isMap := D_isMap,
    frameIn := D_frameIn,
    takenLand := D_takenLand,
    takenLands := D_takenLands,
    isThree := D_isThree,
    needLands := D_needLands,
    needMap := D_needMap,
    needMapD := bD_needMap D_needMap.F,
    needDot := D_needDot,
    needDotD := bD_needDot D_needDot.F,
    landTold := D_landTold,
    needLand := D_needLand,
    needLandD := bD_needLand D_needLand.F,
    roundIn := D_roundIn,
    roundOf := D_roundOf,
    tiesOf := D_tiesOf,
    landAt := D_landAt,
    without := D_without,
    splitAt := D_splitAt,
    exchanged := D_exchanged,
    garden := D_garden,
    spade := D_spade,
    pick := D_pick,
    third := D_third,
    split := D_split,
    otherTie := D_otherTie,
    lands := D_lands,
    frame := D_frame,
    counts := D_counts,
    law := D_law,
    CScan := He.ga K "Scan",
    gScan := He.glo_ok X G (c.fact 61 (f := .glo "Scan") rfl),
    clScan := He.cls_ok (c.fact 63 (f := .cls "Scan") rfl),
    CMap := He.ga K "Map",
    gMap := He.glo_ok X G (c.fact 62 (f := .glo "Map") rfl),
    clMap := cl,
    scanInit := D_scanInit,
    ahead := D_ahead,
    take := D_take,
    takeNumber := D_takeNumber,
    finish := D_finish,
    mapInit := D_mapInit,
    mapEq := D_mapEq,
    mapStr := D_mapStr,
    mapRead := D_mapRead,
    mkScan := k_scan,
    mkMap := k_map,
    m_ahead := y_ahead,
    m_take := y_take,
    m_takeNumber := y_takeNumber,
    m_finish := y_finish,
    na_words := He.noat_ok (c.fact 73 (f := .noat "Scan" "words") rfl),
    na_at := He.noat_ok (c.fact 74 (f := .noat "Scan" "at") rfl),
    na_lands := He.noat_ok (c.fact 75 (f := .noat "Map" "lands") rfl),
    na_ways := He.noat_ok (c.fact 76 (f := .noat "Map" "ways") rfl),
    na_frame := He.noat_ok (c.fact 77 (f := .noat "Map" "frame") rfl),
    na_dots := He.noat_ok (c.fact 78 (f := .noat "Map" "dots") rfl),
    na_inner := He.noat_ok (c.fact 79 (f := .noat "Map" "inner") rfl),
    na_rounds := He.noat_ok (c.fact 80 (f := .noat "Map" "rounds") rfl),
    eqF := y_mapEq.at_,
    eqI := y_mapEq.fn,
    neF := x1,
    obF := x2,
    strF := y_mapStr.at_,
    strI := y_mapStr.fn,
    readS := ⟨⟨.type "type", rdP K, rest, x7, x8, z_mapRead ▸ x9⟩, x10, D_mapRead.F.kp⟩,
    isiMap := ⟨cl, x3, x4, x5, x2, x6⟩ }, z_law⟩
theorem facts {P : Program} {w : World} (X : K.In h) (G : h.Ns mainGlobals mg) (hfa : mg ("law" : Str) = some (.ref f)) (c : He.SaysD faL fnL K) (c2 : fnAt K (rdF K) = dRead.val) (c3 : exK K = true) :
    ∃ fd : FuncData, (∀ (s : Shared) (v : Value), BindsTo s fd ⟨[v], []⟩ [("_law_script", v)]) ∧ ∀ base : Heap, K.In base → base.Ns mainGlobals mg → FnOk P w K mg base CX0 8 f fd ["_law_script"] (spLaw K) := by
  obtain ⟨T, z⟩ := txOf X G c c2 c3
  have e := hfa.symm.trans T.law.g
  have e2 : f = T.law.f := by
    have e3 := Option.some.inj e
    injection e3
  subst e2
  have b := FunD.bindsA (ps := ["_law_script"]) T.law.F fun _ _ _ _ _ _ us hl => match us, hl with | [_], _ => rfl
  exact ⟨T.law.fd, fun s v => b s [v] rfl, fun base _ _ => ok_law T⟩
end
end MF
end
section
set_option Elab.async false
set_option linter.all false
set_option maxRecDepth 100000
set_option maxHeartbeats 0
open PySem PySem.W PySem.Calls PyProof.Rows
theorem PySem.Challenge.cw_mapflow_k13_whole_counts_and_ways_back_holds : PySem.Challenge.rw_mapflow_k13_whole_counts_and_ways_back.Holds := by
  w_on; o_law
  refine HandSHeadRun.head_any (r := OpenLaw.row PySem.Challenge.rw_mapflow_k13_whole_counts_and_ways_back) (q := view (OpenLaw.row PySem.Challenge.rw_mapflow_k13_whole_counts_and_ways_back).prog [60]) (H := MF.hk) (ob := MF.ob) (M := 6000) (loose := MF.looseL) (d := HandSHeadRun.topDef (OpenLaw.row PySem.Challenge.rw_mapflow_k13_whole_counts_and_ways_back).prog 60) (kwd := []) MF.ob_eq
    (by kernel_rfl) (fun s => by kernel_rfl) MF.run (by kernel_rfl) (by kernel_rfl) (by kernel_rfl) (by rfl) (by first | assumption | decide +kernel) (by decide +kernel) ⟨rfl, rfl, rfl, rfl, rfl, by decide +kernel⟩ ?hw ?hc
  case hw => w_witness2
  case hc =>
    refine L2.walk_ofE (l := PySem.Challenge.rw_mapflow_k13_whole_counts_and_ways_back) (n := 63) (k := 8) (x := "_law_script") (CX := L2.CX0) rfl (by decide) (by kernel_rfl) ⟨rfl, by decide, by decide⟩ ?F (fun _ _ _ _ z => z)
    intro w mg fa h Y G hmg0
    obtain ⟨K, KX, c, c2, c3⟩ := Y
    have hmg : mg ("law" : PySem.Str) = some (.ref fa) := by
      have e : (HandSHeadRun.topDef (OpenLaw.row PySem.Challenge.rw_mapflow_k13_whole_counts_and_ways_back).prog 60).name = ("law" : PySem.Str) := by kernel_rfl
      rw [← e]
      exact hmg0
    obtain ⟨fd, hb, hF⟩ := MF.facts (P := (PySem.Challenge.rw_mapflow_k13_whole_counts_and_ways_back).prog) (w := w) KX G hmg c c2 c3
    exact ⟨K, fd, MF.spLaw K, KX, hb, fun H a ns hl _ hS => ⟨a, ns, rfl, hS, Nat.le_trans hl (by decide), fun _ => rfl⟩, hF⟩
end
