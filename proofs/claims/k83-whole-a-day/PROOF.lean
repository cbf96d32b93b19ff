import PyProof.Rows.All
import Wide.All
import OpenK.AllK
import Wide.FinOn
import HandS.ForMost
import KE.LtData
import HandS.Defaults
import HandS.Deep
import HandS.SetFor
import HandS.SortInts
import HandS.DictTup
import HandS.Flow
import HandS.Style
import KE.KDictPairs
import KE.SortData
import KE.KMinKey
import KE.KDictWalk
import HandS.SortKw
import HandS.More
import KE.DataFind
import KE.GoesEnum
import KE.GoesEnumKw
import HandS.Strs
import PySem.Challenge.RW_potround_k83_whole_a_day_of_all_teams
set_option Elab.async false
set_option linter.all false
set_option maxRecDepth 100000
namespace K83
open PySem PySem.Spec PyProof.Rows L2
mutual
/-- the value v stands, in the tracked heap, for the datum d -/
def Dv (H : Hp) : PyData → V → Prop
  | .none, v => v = .non
  | .bool b, v => v = .bl b
  | .int i, v => v = .int i
  | .str x, v => v = .str x
  | .list ds, v => ∃ a xs, v = .ref a ∧ H a = some (.lst xs) ∧ DvAll H ds xs
  | .tuple ds, v => ∃ a xs, v = .ref a ∧ H a = some (.tup xs) ∧ DvAll H ds xs
  | .dict _, _ => False
def DvAll (H : Hp) : List PyData → List V → Prop
  | [], xs => xs = []
  | d :: ds, xs => ∃ x r, xs = x :: r ∧ Dv H d x ∧ DvAll H ds r
end
mutual
/-- no list of ints is in it -/
def clean : PyData → Bool
  | .list ds => (ds.all fun d => match d with | .int _ => false | _ => true) && cleanAll ds
  | .tuple ds => cleanAll ds
  | .dict _ => false
  | _ => true
def cleanAll : List PyData → Bool
  | [] => true
  | d :: ds => clean d && cleanAll ds
end
/-- all but what stands at b is as it was -/
def Fb (b : Addr) (H H' : Hp) : Prop := ∀ a o, a ≠ b → H a = some o → H' a = some o
theorem Same.fb {H H' : Hp} (s : Same H H') (b : Addr) : Fb b H H' := fun a o _ h => s a o h
theorem Fb.trans {b : Addr} {H H1 H2 : Hp} (x : Fb b H H1) (y : Fb b H1 H2) : Fb b H H2 := fun a o n h => y a o n (x a o n h)
theorem Fb.refl (b : Addr) (H : Hp) : Fb b H H := fun _ _ _ h => h
theorem Fb.upd {H : Hp} {b : Addr} (o : HO) : Fb b H (upd H b o) := fun a u n h => by rw [upd_ne n]; exact h
theorem same_new {H : Hp} {p : Addr} {o : HO} (h : H p = none) : Same H (upd H p o) := fun b x e => by
  rw [upd_ne (ne_of_none e h)]
  exact e
/-- a list whose first item is an int -/
def IntsAt (H : Hp) (b : Addr) : Prop := ∃ (i : Int) (r : List V), H b = some (.lst (.int i :: r))
mutual
theorem Dv.same {H H' : Hp} (s : Same H H') : ∀ {d : PyData} {v : V}, Dv H d v → Dv H' d v
  | .none, _, h => h
  | .bool _, _, h => h
  | .int _, _, h => h
  | .str _, _, h => h
  | .list ds, v, h => by
    obtain ⟨a, xs, e, ha, hs⟩ := h
    exact ⟨a, xs, e, s _ _ ha, DvAll.same s hs⟩
  | .tuple ds, v, h => by
    obtain ⟨a, xs, e, ha, hs⟩ := h
    exact ⟨a, xs, e, s _ _ ha, DvAll.same s hs⟩
  | .dict _, _, h => h
theorem DvAll.same {H H' : Hp} (s : Same H H') : ∀ {ds : List PyData} {xs : List V}, DvAll H ds xs → DvAll H' ds xs
  | [], _, h => h
  | d :: ds, xs, h => by
    obtain ⟨x, r, e, h1, h2⟩ := h
    exact ⟨x, r, e, Dv.same s h1, DvAll.same s h2⟩
end
mutual
theorem Dv.fb {b : Addr} {H H' : Hp} (s : Fb b H H') (hb : IntsAt H b) : ∀ {d : PyData} {v : V}, clean d = true → Dv H d v → Dv H' d v
  | .none, _, _, h => h
  | .bool _, _, _, h => h
  | .int _, _, _, h => h
  | .str _, _, _, h => h
  | .list ds, v, c, h => by
    obtain ⟨a, xs, e, ha, hs⟩ := h
    rw [clean, Bool.and_eq_true] at c
    refine ⟨a, xs, e, s _ _ (fun z => ?_) ha, DvAll.fb s hb c.2 hs⟩
    obtain ⟨i, r, hi⟩ := hb
    rw [z, hi] at ha
    cases ha
    cases ds with
    | nil => cases hs
    | cons d ds =>
      obtain ⟨x, r', e', h1, _⟩ := hs
      cases e'
      cases d with
      | int j => simp at c
      | none => cases h1
      | bool _ => cases h1
      | str _ => cases h1
      | list _ => obtain ⟨_, _, z, _⟩ := h1; cases z
      | tuple _ => obtain ⟨_, _, z, _⟩ := h1; cases z
      | dict _ => exact h1.elim
  | .tuple ds, v, c, h => by
    obtain ⟨a, xs, e, ha, hs⟩ := h
    rw [clean] at c
    refine ⟨a, xs, e, s _ _ (fun z => ?_) ha, DvAll.fb s hb c hs⟩
    obtain ⟨i, r, hi⟩ := hb
    rw [z, hi] at ha
    cases ha
  | .dict _, _, _, h => h
theorem DvAll.fb {b : Addr} {H H' : Hp} (s : Fb b H H') (hb : IntsAt H b) : ∀ {ds : List PyData} {xs : List V}, cleanAll ds = true → DvAll H ds xs → DvAll H' ds xs
  | [], _, _, h => h
  | d :: ds, xs, c, h => by
    obtain ⟨x, r, e, h1, h2⟩ := h
    rw [cleanAll, Bool.and_eq_true] at c
    exact ⟨x, r, e, Dv.fb s hb c.1 h1, DvAll.fb s hb c.2 h2⟩
end
mutual
theorem Dv.dp {K : PySem.W.Frag} {H : Hp} : ∀ {d : PyData} {v : V}, Dv H d v → Dp K H v d
  | .none, _, h => by cases h; exact .non
  | .bool b, _, h => by cases h; exact .bl b
  | .int i, _, h => by cases h; exact .int i
  | .str x, _, h => by cases h; exact .str x
  | .list ds, v, h => by
    obtain ⟨a, xs, rfl, ha, hs⟩ := h
    exact .lst (SqL.of ha) (DvAll.dp hs)
  | .tuple ds, v, h => by
    obtain ⟨a, xs, rfl, ha, hs⟩ := h
    exact .tup (SqT.of ha) (DvAll.dp hs)
  | .dict _, _, h => h.elim
theorem DvAll.dp {K : PySem.W.Frag} {H : Hp} : ∀ {ds : List PyData} {xs : List V}, DvAll H ds xs → DpAll K H xs ds
  | [], _, h => by cases h; exact .nil
  | d :: ds, xs, h => by
    obtain ⟨x, r, rfl, h1, h2⟩ := h
    exact .cons (Dv.dp h1) (DvAll.dp h2)
end
section
variable {H : Hp}
theorem DvAll.nil : DvAll H [] [] := rfl
theorem DvAll.cons {d : PyData} {ds : List PyData} {x : V} {xs : List V} (h : Dv H d x) (t : DvAll H ds xs) : DvAll H (d :: ds) (x :: xs) := ⟨x, xs, rfl, h, t⟩
theorem DvAll.len : ∀ {ds : List PyData} {xs : List V}, DvAll H ds xs → xs.length = ds.length
  | [], _, h => by cases h; rfl
  | d :: ds, xs, h => by
    obtain ⟨x, r, rfl, _, h2⟩ := h
    rw [List.length_cons, List.length_cons, DvAll.len h2]
theorem DvAll.get : ∀ {ds : List PyData} {xs : List V} {i : Nat} {d : PyData}, DvAll H ds xs → ds[i]? = some d → ∃ x, xs[i]? = some x ∧ Dv H d x
  | [], _, _, _, _, e => by simp at e
  | d :: ds, xs, 0, d', h, e => by
    obtain ⟨x, r, rfl, h1, _⟩ := h
    cases e
    exact ⟨x, rfl, h1⟩
  | d :: ds, xs, i + 1, d', h, e => by
    obtain ⟨x, r, rfl, _, h2⟩ := h
    obtain ⟨y, h3, h4⟩ := DvAll.get (i := i) h2 (by simpa using e)
    exact ⟨y, by simpa using h3, h4⟩
theorem DvAll.get' {ds : List PyData} {xs : List V} {i : Nat} {x : V} (h : DvAll H ds xs) (e : xs[i]? = some x) : ∃ d, ds[i]? = some d ∧ Dv H d x := by
  have hi : i < xs.length := (List.getElem?_eq_some_iff.mp e).1
  rw [h.len] at hi
  obtain ⟨y, h1, h2⟩ := h.get (List.getElem?_eq_getElem hi)
  rw [e] at h1
  cases h1
  exact ⟨_, List.getElem?_eq_getElem hi, h2⟩
/-- the items of a mapped list -/
theorem DvAll.at {α : Type} {f : α → PyData} {ts : List α} {xs : List V} {i : Nat} {x : V} (h : DvAll H (ts.map f) xs) (e : xs[i]? = some x) : ∃ t, ts[i]? = some t ∧ Dv H (f t) x := by
  obtain ⟨d, h1, h2⟩ := h.get' e
  rw [List.getElem?_map] at h1
  cases ht : ts[i]? with
  | none => rw [ht] at h1; cases h1
  | some t =>
    rw [ht] at h1
    cases h1
    exact ⟨t, rfl, h2⟩
theorem DvAll.of {α : Type} {f : α → PyData} {ts : List α} {xs : List V} {i : Nat} {t : α} (h : DvAll H (ts.map f) xs) (e : ts[i]? = some t) : ∃ x, xs[i]? = some x ∧ Dv H (f t) x :=
  h.get (by rw [List.getElem?_map, e]; rfl)
theorem DvAll.lenM {α : Type} {f : α → PyData} {ts : List α} {xs : List V} (h : DvAll H (ts.map f) xs) : xs.length = ts.length := by rw [h.len, List.length_map]
theorem DvAll.append : ∀ {ds es : List PyData} {xs ys : List V}, DvAll H ds xs → DvAll H es ys → DvAll H (ds ++ es) (xs ++ ys)
  | [], _, _, _, h, g => by cases h; exact g
  | d :: ds, _, _, _, h, g => by
    obtain ⟨x, r, rfl, h1, h2⟩ := h
    exact ⟨x, _, rfl, h1, DvAll.append h2 g⟩
theorem DvAll.snoc {ds : List PyData} {d : PyData} {xs : List V} {x : V} (h : DvAll H ds xs) (g : Dv H d x) : DvAll H (ds ++ [d]) (xs ++ [x]) := h.append (.cons g .nil)
theorem DvAll.snocM {α : Type} {f : α → PyData} {ts : List α} {t : α} {xs : List V} {x : V} (h : DvAll H (ts.map f) xs) (g : Dv H (f t) x) : DvAll H ((ts ++ [t]).map f) (xs ++ [x]) := by
  rw [List.map_append]
  exact h.snoc g
theorem DvAll.take : ∀ {ds : List PyData} {xs : List V} (n : Nat), DvAll H ds xs → DvAll H (ds.take n) (xs.take n)
  | _, _, 0, _ => by simp [DvAll]
  | [], _, n + 1, h => by cases h; simp [DvAll]
  | d :: ds, _, n + 1, h => by
    obtain ⟨x, r, rfl, h1, h2⟩ := h
    exact ⟨x, _, rfl, h1, DvAll.take n h2⟩
theorem DvAll.drop : ∀ {ds : List PyData} {xs : List V} (n : Nat), DvAll H ds xs → DvAll H (ds.drop n) (xs.drop n)
  | _, _, 0, h => h
  | [], _, n + 1, h => by cases h; simp [DvAll]
  | d :: ds, _, n + 1, h => by
    obtain ⟨x, r, rfl, _, h2⟩ := h
    exact DvAll.drop n h2
/-- ints, texts -/
theorem DvAll.ints : ∀ (ns : List Int), DvAll H (ns.map .int) (ns.map V.int)
  | [] => rfl
  | n :: ns => ⟨.int n, _, rfl, rfl, DvAll.ints ns⟩
theorem DvAll.strs : ∀ (ns : List Str), DvAll H (ns.map .str) (ns.map V.str)
  | [] => rfl
  | n :: ns => ⟨.str n, _, rfl, rfl, DvAll.strs ns⟩
theorem DvAll.ints' : ∀ {ns : List Int} {xs : List V}, DvAll H (ns.map .int) xs → xs = ns.map V.int
  | [], _, h => h
  | n :: ns, _, h => by
    obtain ⟨x, r, rfl, h1, h2⟩ := h
    cases h1
    rw [DvAll.ints' h2] <;> rfl
theorem DvAll.strs' : ∀ {ns : List Str} {xs : List V}, DvAll H (ns.map .str) xs → xs = ns.map V.str
  | [], _, h => h
  | n :: ns, _, h => by
    obtain ⟨x, r, rfl, h1, h2⟩ := h
    cases h1
    rw [DvAll.strs' h2] <;> rfl
theorem cleanAll_map {α : Type} {f : α → PyData} (h : ∀ t, clean (f t) = true) : ∀ ts : List α, cleanAll (ts.map f) = true
  | [] => rfl
  | t :: ts => by
    show (clean (f t) && cleanAll (ts.map f)) = true
    rw [h t, cleanAll_map h ts]
    rfl
theorem clean_list {α : Type} {f : α → PyData} (h : ∀ t, clean (f t) = true) (hn : ∀ t i, f t ≠ .int i) (ts : List α) : clean (.list (ts.map f)) = true := by
  rw [clean, cleanAll_map h, Bool.and_true, List.all_eq_true]
  intro d hd
  obtain ⟨t, _, rfl⟩ := List.mem_map.mp hd
  cases e : f t with
  | int i => exact absurd e (hn t i)
  | _ => rfl
end
end K83
set_option maxRecDepth 100000
set_option maxHeartbeats 4000000
namespace K83
open PySem PySem.Spec PyProof.Rows L2
section
variable {X : Cx}
/-- xs[i], read for an augmented store -/
theorem pg_list : PGet X (rIxL X.K) := by
  intro pins s σ H x y v u Q I rx ry h
  obtain ⟨p, xs, i, z, rfl, rfl, hq, he, q⟩ := h
  cases rx
  obtain ⟨t, rfl⟩ := ry
  obtain ⟨its, r, pl, hz⟩ := I.list hq
  obtain ⟨j, h1, h2, h3, h4, h5⟩ := atI_get he
  obtain ⟨w, ew, rw'⟩ := r.get h2
  have hl := r.length
  have hn := line63
  have fin : EP X pins σ Q w s := ⟨z, H, I, rw', q⟩
  by_cases h0 : 0 ≤ i
  · have hj : i.toNat = j := by
      rw [seqIndex_of h0 h5] at h1
      exact Option.some.inj h1
    exact wpAny_getItem_list pl.isList h0 (by omega) (by rw [hj]; simpa using ew) fin
  · have hj : (i + (its.toArray.size : Int)).toNat = j := by
      rw [seqIndex_neg (by omega) h4] at h1
      rw [List.size_toArray, ← hl]
      exact Option.some.inj h1
    exact wpAny_getItem_list_neg pl.isList (by omega) (by rw [List.size_toArray, ← hl]; exact h4) (by omega) (by rw [hj]; simpa using ew) fin
theorem pairs_raw {pins : List (Addr × Obj)} {σ : L2.St} {H : Hp} {s : Shared} (I : Inv X pins σ H s) : ∀ {ps : List Addr} {kvs : List (Key × V)}, Paired (fun p kv => SqT X.K H p [kV kv.1, kv.2]) ps kvs →
    ∃ (prs : List (Key × Value)) (raw : List (Value × Value)), KV kvs prs ∧ raw.length = ps.length ∧ ∀ (j : Nat) (k v : Value), raw[j]? = some (k, v) → ∃ (b : Addr) (q : Key), ps[j]? = some b ∧ IsTup s.heap b #[k, v] ∧ prs[j]? = some (q, v) ∧ keyIs q k = true
  | _, _, .nil => ⟨[], [], .nil, rfl, fun j k v e => by simp at e⟩
  | _, _, .cons (a := p) (b := kv) h t => by
    obtain ⟨prs, raw, r, hl, hp⟩ := pairs_raw I t
    obtain ⟨its, rv, ht, _⟩ := I.tuple h
    obtain ⟨u, y, ei, ru, ry⟩ := vals2 rv
    subst ei
    refine ⟨(kv.1, y) :: prs, (u, y) :: raw, .cons ⟨rfl, ry⟩ r, by rw [List.length_cons, List.length_cons, hl], fun j k v e => ?_⟩
    cases j with
    | zero =>
      have e' : (u, y) = (k, v) := Option.some.inj e
      cases e'
      exact ⟨p, kv.1, rfl, ht, rfl, kV_is (P := X.prog) (w := X.w) ru⟩
    | succ j =>
      obtain ⟨b, q, e1, e2, e3, e4⟩ := hp j k v (by simpa using e)
      exact ⟨b, q, by simpa using e1, e2, by simpa using e3, e4⟩
/-- d.update(a list of pairs) -/
def rUpd (K : PySem.W.Frag) : V → List V → Hp → VK → Prop := fun x xs H Q => ∃ (d a : Addr) (ps : List Addr) (kvs new : List (Key × V)), x = .ref d ∧ xs = [.ref a] ∧ H d = some (.dK kvs) ∧
  SqL K H a (ps.map V.ref) ∧ Paired (fun p kv => SqT K H p [kV kv.1, kv.2]) ps new ∧ kvs.length + new.length ≤ sizeLine ∧ Q .non (upd H d (.dK (mergeK kvs new)))
theorem mt_update (hc : X.calm = true) : MtR X "dict.update" (rUpd X.K) := by
  intro pins s σ H x xs v us Q I rx rxs h
  obtain ⟨d, a, ps, kvs, new, rfl, rfl, hd, hq, hp, hsz, q⟩ := h
  cases rx
  obtain ⟨u, rfl, ru⟩ := vals1 rxs
  cases ru
  obtain ⟨its, rv, pl, hz⟩ := I.list hq
  have ei := refs_at rv
  subst ei
  obtain ⟨prs, raw, rel, hl, hpr⟩ := pairs_raw I hp
  obtain ⟨hz2, hsm, vs, rel0, dd⟩ := dk_of I.hok hd
  obtain ⟨o, n, ho, hcls, hdct, hdat⟩ := id pl
  have hpl : ps.length = new.length := Paired.length hp
  have hnp : new.length = prs.length := rel.length
  obtain ⟨od, es, ep, hod, hex, hdd, _⟩ := id dd
  have hda : d ≠ a := fun e => by
    subst e
    rw [hod] at ho
    cases ho
    rw [hdd] at hdat
    cases hdat
  have ok : PlainSeq "list" s.heap a (ps.map Value.ref).toArray ∧ PairItems s.heap (ps.map Value.ref).toArray (fun j => ps.getD j 0) raw := by
    refine ⟨⟨o, n, ho, hcls, hdct, hdat⟩, by simp [hl], fun j k v e => ?_⟩
    obtain ⟨b, q, e1, e2, e3, e4⟩ := hpr j k v e
    have hb : ps.getD j 0 = b := by simp [List.getD, e1]
    refine ⟨by simp [e1, hb], .inl ?_⟩
    show s.heap.IsTuple (ps.getD j 0) #[k, v]
    rw [hb]
    exact e2
  have hdf : d ∉ a :: (List.range raw.length).map (fun j => ps.getD j 0) := fun hm => by
    rcases List.mem_cons.mp hm with e | hm
    · exact hda e
    · obtain ⟨j, hj, e⟩ := List.mem_map.mp hm
      have hj' := List.mem_range.mp hj
      obtain ⟨b, q, e1, ⟨ob, e2, ec, _, ed⟩, _⟩ := hpr j raw[j].1 raw[j].2 (by rw [List.getElem?_eq_getElem hj'])
      have hb : ps.getD j 0 = b := by simp [List.getD, e1]
      rw [← e, hb] at hod
      rw [hod] at e2
      cases e2
      rw [hdd] at ed
      cases ed
  refine call_update_pairs (knd := mixKind X.prog X.w) (acc := vs) (kvs := prs) (PairArg.list a (ps.map Value.ref).toArray (fun j => ps.getD j 0) raw) (I.ok.hd hc) ok hdf ⟨by omega, fun i key v e => ?_⟩ dd (by have := rel0.length; omega) fun h' tk hd' hk => ?_
  · obtain ⟨b, q, e1, e2, e3, e4⟩ := hpr i key v e
    exact ⟨q, e3, e4⟩
  · refine ⟨.non, upd H d (.dK (mergeK kvs new)), ?_, rfl, q⟩
    have hk' : ∀ b u, b ≠ d → s.heap.get? b = some u → h'.get? b = some u := fun b u hb e => hk b u hb (by simp) e
    obtain ⟨od', es', ep', hod', hr'⟩ := id hd'
    exact I.write (e := d) (by rw [hd]; trivial) (.inl rfl) hk' ⟨_, hod'⟩ (dk_new (Nat.le_trans (length_mergeK new kvs) hsz) hsm (rel.merge rel0) hd')
end
end K83
set_option maxRecDepth 100000
set_option maxHeartbeats 4000000
namespace K83
open PySem PySem.Spec PyProof.Rows L2
/-- the values of the locked dict at d whose keys are tuples -/
def Itdt (d : Addr) (o : Obj) (kvs : List (List Key × V)) : It :=
  ⟨fun i H => H d = some (.frz o (.dT kvs)) ∧ i < kvs.length, fun i H x H' => H' = H ∧ ∃ k, kvs[i]? = some (k, x), fun i H => H d = some (.frz o (.dT kvs)) ∧ kvs.length ≤ i⟩
theorem frzTv {X : Cx} {pins : List (Addr × Obj)} {σ : L2.St} {H : Hp} {s : Shared} {d : Addr} {o : Obj} {kvs : List (List Key × V)} (I : Inv X pins σ H s) (h : H d = some (.frz o (.dT kvs))) :
    (d == sysModules) = false ∧ ∃ (es : Array DictEntry) (ep : Nat), o.data = .dict es ep ∧ s.heap.DictRaw d es ep ∧ es.size = kvs.length ∧
      ∀ (i : Nat) (hi : i < es.size) (k : List Key) (v : V), kvs[i]? = some (k, v) → RelV v es[i].val := by
  obtain ⟨hd, z, hs, xs, pr, o', es, ep, ho, hx, hdt, he, _⟩ := I.hok d _ h
  rw [hd] at ho
  cases ho
  refine ⟨hs, es, ep, hdt, ⟨o, hd, hx, hdt⟩, ?_, fun i hi k v e => ?_⟩
  · have l1 : es.size = xs.length := size_of_entries he
    have l2 : kvs.length = xs.length := Paired.length pr
    omega
  · obtain ⟨b, hb, e1, e2, e3⟩ := paired_get pr e
    have q := entry_at he i
    rw [hb, Array.getElem?_eq_getElem hi] at q
    have q' : es[i] = entryOfKey (tupleKind (mixKind X.prog X.w)) b := Option.some.inj q
    rw [q']
    exact e3
section
variable {P : Program} {w : World} {K : PySem.W.Frag} {tg : Expr} {d : Addr} {o : Obj} {es : Array DictEntry} {ep : Nat}
theorem turn_valsT {kvs : List (List Key × V)} (it : Addr) (hod : o.data = .dict es ep) : Turn P w K tg (Itdt d o kvs) [it] it (fun i h => h.IsValIter it d i kvs.length ep) where
  mem := by simp
  obj := fun i h st b hb => by
    have e : b = it := by simpa using hb
    subst e
    obtain ⟨oi, e, c, dd⟩ := st
    exact ⟨oi, e, fun v z => by rw [dd] at z; cases z⟩
  keep := fun i h h' st k => st.at fun oi e => k it (by simp) oi e
  item := by
    intro X hP hw hK hc i pins s σ H E I hf st hg
    subst hP hw hK
    obtain ⟨hd, hi⟩ := hg
    obtain ⟨f0, f1, f2, f3, f4, f5⟩ := hf it (by simp)
    obtain ⟨hs, es', ep', hdt, hm, hsz, hv⟩ := frzTv I hd
    obtain ⟨rfl, rfl⟩ := dict_ep hod hdt
    have hi' : i < es'.size := by omega
    rw [← hsz] at st
    refine wpAny_pyNext_values_item_raw st hm hi' fun h' st' sb => ?_
    have I1 : Inv X pins σ H { s with heap := h' } := I.turned (t' := s.toks) (fun b ob hb e => (sb.2 b hb).trans e) f0 f1 f3 f4 f5
    obtain ⟨oi, e, c, dd⟩ := id st'
    obtain ⟨⟨k, v⟩, hkv⟩ : ∃ p, kvs[i]? = some p := ⟨kvs[i], List.getElem?_eq_getElem hi⟩
    refine ⟨_, rfl, go_of (s := { s with heap := h' }) e c dd (by decide) ⟨v, H, I1, hv i hi' k v hkv, ⟨rfl, k, hkv⟩, ?_, fun b hb => (hf b hb).1⟩⟩
    show h'.IsValIter it d (i + 1) kvs.length _
    rw [← hsz]
    exact st'
  done := by
    intro X hP hw hK hc i pins s σ H E I hf st hg
    subst hP hw hK
    obtain ⟨hd, hi⟩ := hg
    obtain ⟨f0, f1, f2, f3, f4, f5⟩ := hf it (by simp)
    obtain ⟨hs, es', ep', hdt, hm, hsz, hv⟩ := frzTv I hd
    obtain ⟨rfl, rfl⟩ := dict_ep hod hdt
    rw [← hsz] at st
    exact wpAny_pyNext_values_end_raw (I.ok.hd hc) st hm (by omega) fun h' eb => ⟨rfl, I.turned (t' := s.toks) (fun b ob hb e => eb b ob hb e) f0 f1 f3 f4 f5⟩
  self := fun A i s Q E st h => wpAny_pyIter_valiter st h
end
def iValsT (td : TE) : TI := fun σ H R => td σ H fun x H1 => ∃ d o kvs, x = .ref d ∧ H1 d = some (.frz o (.dT kvs)) ∧ R (Itdt d o kvs) H1
/-- d.values(), tuple keys -/
theorem pi_valuesT {X : Cx} {tg e : Expr} {td : TE} {apos cpos : Pos} (he : PE X e td) (hbase : attributeBase e "values" X.env (eval e X.env) = eval e X.env := by rfl) (hline : (apos.endLine == cpos.line) = true := by rfl) : PI X tg (.Call (.Attribute e "values" apos) [] [] cpos) (iValsT td) := by
  refine ⟨fun pins s σ H R I h => ?_⟩
  refine wpAny_Call_method (T := "dict") (id := "dict.values") hbase rfl hline F.plainAttrs_dict F.slot_dict_values F.type_dict_values (thn (he.run pins s σ H _ I h) fun u s1 ⟨x, H1, I1, rx, d, o, kvs, ex, hd, q⟩ => ?_)
  subst ex
  obtain rfl : u = Value.ref d := rx
  obtain ⟨hs, es, ep, hdt, hm, hsz, hv⟩ := frzTv I1 hd
  refine ⟨hm.typeIs, fun b hb => ?_, ?_⟩
  · cases hb
    obtain ⟨o1, ho1, hx1, _⟩ := hm
    exact ⟨o1, ho1, hx1.2.1⟩
  have I2 : Inv X pins σ H1 { s1 with heap := s1.heap.push { cls := .type "dict_values", data := .fields #[.ref d] } } := I1.kept (t' := s1.toks) fun b ob q => Heap.get?_push_of_some _ q
  have fin : wpAny (model X.prog X.w) X.A (pyIter (.ref s1.heap.objs.size)) (PIE X pins σ tg R) X.xe { s1 with heap := s1.heap.push { cls := .type "dict_values", data := .fields #[.ref d] } } := by
    refine wpAny_pyIter_values_raw (d := d) ⟨_, Heap.get?_push_size _ rfl, rfl, rfl⟩ (hm.at fun o e => Heap.get?_push_of_some _ e) (pi_one (tk := s1.toks) I2 _ (turn_valsT _ hdt) ⟨_, Heap.get?_push_size _ rfl, rfl, ?_⟩ q)
    rw [hsz] <;> rfl
  show wpAny _ _ (callWith cpos (.builtin "dict.values") [.ref d] [] []) _ X.xe s1
  exact method_meetsIn F.slot_dict_values F.entry_dict_values rfl (PySem.evalArgs_none ⟨rfl, hm.typeIs, F.args_dict_values_1 _, _, meets_dict_values_raw d hs, ⟨es, ep, hm⟩, fin⟩)
end K83
set_option maxRecDepth 100000
set_option maxHeartbeats 4000000
namespace K83
open PySem PySem.Spec PyProof.Rows L2
/-- how a call of max, min by its loop ends -/
def MmR (X : Cx) (pins : List (Addr × Obj)) (σ : L2.St) (Q : VK) (r : Result) (s' : Shared) : Prop :=
  match r with
  | .ok (.ret u) => EP X pins σ Q u s'
  | .ok _ => False
  | .error e => X.xe e s'
section
variable {X : Cx} {pins : List (Addr × Obj)} {σ : L2.St}
/-- a key's call, told for each item -/
def KeyTurn (X : Cx) (σ : L2.St) (q : Value) (xs : List V) (H0 : Hp) (KR : Nat → Value → Hp → Prop) : Prop :=
  ∀ (pins : List (Addr × Obj)) (i : Nat) (x : V) (u : Value) (s : Shared) (H' : Hp), xs[i]? = some x → RelV x u → Same H0 H' → Inv X pins σ H' s →
    wpAny (model X.prog X.w) X.A.in1 (call q [u]) (fun r s' => ∃ H'', KR i r H'' ∧ Same H' H'' ∧ Inv X pins σ H'' s') (fun _ _ => False) s
theorem wrote {H : Hp} {s : Shared} {S : Addr} {its its' : List Value} {c : Nat} (I : Inv X pins σ H s) (hf : FpOk X pins H S) (ho : s.heap.get? S = some (seqObj "list" its.toArray c)) :
    Inv X pins σ H { s with heap := s.heap.update S (Obj.mapSeq fun _ => its'.toArray) } ∧ ∃ c', (s.heap.update S (Obj.mapSeq fun _ => its'.toArray)).get? S = some (seqObj "list" its'.toArray c') := by
  obtain ⟨f0, f1, f2, f3, f4, f5⟩ := hf
  have sb := Heap.SameBut.update s.heap S (Obj.mapSeq fun _ => its'.toArray)
  exact ⟨I.turned (t' := s.toks) (fun b o hb e => (sb.2 b hb).trans e) f0 f1 f3 f4 f5, _, get?_update_seq ho fun _ => its'.toArray⟩
/-- the loop of max with a key of ints -/
theorem mxk_loop {l q I S : Addr} {xs : List V} {H0 : Hp} (key : Nat → Int) (dk : List (Str × Value)) (Q : VK) (hh : X.A.handled = none) (hs0 : SqL X.K H0 l xs)
    (hI : ∀ H' : Hp, H' I = none → FpOk X pins H' I) (hS : ∀ H' : Hp, H' S = none → FpOk X pins H' S) (hSI : S ≠ I)
    (turn : KeyTurn X σ (.ref q) xs H0 fun i r _ => ∃ t, r = .int (key i) t)
    (hQ : ∀ i x H', xs[i]? = some x → (∀ j, j < xs.length → key j ≤ key i) → Same H0 H' → Q x H') :
    ∀ (r j i : Nat) (s : Shared) (H' : Hp) (u : Value) (t : Tok) (c : Nat) (x : V), xs.length - (j + 1) = r → j + 1 ≤ xs.length → Inv X pins σ H' s → Same H0 H' → H' I = none → H' S = none →
      s.heap.IsListIter I l (j + 1) → s.heap.get? S = some (seqObj "list" #[u, .int (key i) t] c) → xs[i]? = some x → RelV x u → i ≤ j → (∀ j', j' ≤ j → key j' ≤ key i) →
      codeAny (model X.prog X.w) X.A (.builtin "max.loop" ⟨[.ref I, .ref q, .ref S], dk⟩) (MmR X pins σ Q) s := by
  have hname : (toString "max" ++ toString ".loop" : String) = "max.loop" := by decide
  intro r
  induction r with
  | zero =>
    intro j i s H' u t c x hr hj Iv sm nI nS hit hob hx ru hij hbest
    have hin : j + 1 = xs.length := by omega
    obtain ⟨its, rv, p, hz⟩ := Iv.list (sm.seq hs0)
    have hl := rv.length
    refine codeAny_builtin PySem.F.entry_max_loop ?_
    rw [Around.under_plainId PySem.F.plain_max_loop _]
    show wpAny _ X.A.in1 (seqItems? (.ref S) >>= _) _ _ _
    refine wpAny_bind (wpAny_seqItems hob rfl ?_)
    show wpAny _ X.A.in1 (tryCatch (pyNext (.ref I)) _ >>= _) _ _ _
    refine wpAny_bind (wpAny_tryCatch (wpAny_pyNext_list_end (A := X.A.in1) hh hit p.isList (by simp; omega) fun h1 eb => ?_))
    obtain ⟨f0, f1, f2, f3, f4, f5⟩ := hI H' nI
    have I1 : Inv X pins σ H' { s with heap := h1 } := Iv.turned (t' := s.toks) (fun b o hb e => eb b o hb e) f0 f1 f3 f4 f5
    have hob1 := eb S _ hSI hob
    obtain ⟨I2, _⟩ := wrote (its := [u, .int (key i) t]) (its' := []) I1 (hS H' nS) hob1
    show wpAny _ X.A.in1 (updateSeq S (fun _ => #[]) >>= _) _ _ _
    refine wpAny_bind ?_
    refine wpAny_updateSeq hob1 rfl (wpAny_bind (wpAny_letGo (wpAny_pure ?_)))
    exact ⟨x, H', I2, ru, hQ i x H' hx (fun j' hj' => hbest j' (by omega)) sm⟩
  | succ r ih =>
    intro j i s H' u t c x hr hj Iv sm nI nS hit hob hx ru hij hbest
    have hlt : j + 1 < xs.length := by omega
    obtain ⟨its, rv, p, hz⟩ := Iv.list (sm.seq hs0)
    have hl := rv.length
    obtain ⟨v, hv, rvx⟩ := rv.get (List.getElem?_eq_getElem hlt)
    refine codeAny_builtin PySem.F.entry_max_loop ?_
    rw [Around.under_plainId PySem.F.plain_max_loop _]
    show wpAny _ X.A.in1 (seqItems? (.ref S) >>= _) _ _ _
    refine wpAny_bind (wpAny_seqItems hob rfl ?_)
    show wpAny _ X.A.in1 (tryCatch (pyNext (.ref I)) _ >>= _) _ _ _
    refine wpAny_bind (wpAny_tryCatch (wpAny_pyNext_list_item hit p.isList (x := v) (by simpa using hv) fun h1 hit1 sb => ?_))
    obtain ⟨f0, f1, f2, f3, f4, f5⟩ := hI H' nI
    have I1 : Inv X pins σ H' { s with heap := h1 } := Iv.turned (t' := s.toks) (fun b o hb e => (sb.2 b hb).trans e) f0 f1 f3 f4 f5
    have hob1 : h1.get? S = some (seqObj "list" #[u, .int (key i) t] c) := (sb.2 S hSI).trans hob
    obtain ⟨oI, hoI, hoc, hod⟩ := id hit1
    have I1p := I1.pinned (fp := [S, I]) (fun b hb => by
      rcases List.mem_cons.mp hb with e | hb
      · rw [e]; exact hS H' nS
      · rw [List.mem_singleton.mp hb]; exact hI H' nI) (fun b hb => by
      rcases List.mem_cons.mp hb with e | hb
      · rw [e]; exact ⟨_, hob1, fun v z => by cases z⟩
      · rw [List.mem_singleton.mp hb]; exact ⟨_, hoI, fun v z => by rw [hod] at z; cases z⟩)
    show wpAny _ X.A.in1 (tryCatch (holding [v] (call (.ref q) [v])) _ >>= _) _ _ _
    refine wpAny_bind (wpAny_tryCatch (wpAny_holding (wpAny_mono (turn _ (j + 1) _ v { s with heap := h1 } H' (List.getElem?_eq_getElem hlt) rvx sm I1p) (fun y s2 he => ?_) fun _ _ hF => hF.elim)))
    obtain ⟨H2, ⟨t2, rfl⟩, sm2, I2p⟩ := he
    have pS := I2p.pin (S, seqObj "list" #[u, .int (key i) t] c) (List.mem_append_right _ (List.mem_append_right _ (mem_pinsAt (by simp) hob1)))
    have pI := I2p.pin (I, oI) (List.mem_append_right _ (List.mem_append_right _ (mem_pinsAt (by simp) hoI)))
    have I2 := I2p.unpinned
    have sm02 := sm.trans sm2
    have hit2 : s2.heap.IsListIter I l (j + 1 + 1) := ⟨oI, pI.1, hoc, hod⟩
    show wpAny _ X.A.in1 (tryCatch (holding [v, .int (key (j + 1)) t2] (richCompare .Gt (.int (key (j + 1)) t2) (.int (key i) t) >>= _)) _ >>= _) _ _ _
    refine wpAny_bind (wpAny_tryCatch (wpAny_holding (wpAny_bind (CmpOf.ints_gt (prog := X.prog) (w := X.w) (A := X.A.in1) (P := fun i v => ∃ t, v = .int (key i) t) key (fun i v h => h) (j + 1) i _ _ _ _ _ ⟨t2, rfl⟩ ⟨t, rfl⟩ ?_))))
    refine wpAny_bind (wpAny_holding (wpAny_truthy_bool ?_))
    refine wpAny_bind (wpAny_letGo (wpAny_pure ?_))
    by_cases hb' : key i < key (j + 1)
    · obtain ⟨I3, c3, hc3⟩ := wrote (its := [u, .int (key i) t]) (its' := [v, .int (key (j + 1)) t2]) I2 (hS H2 pS.2.1) pS.1
      simp only [hb', decide_true, if_true]
      refine wpAny_bind ?_
      refine wpAny_updateSeq pS.1 rfl (wpAny_bind (wpAny_letGo ?_))
      rw [hname]
      have s3 := Heap.SameBut.update s2.heap S (Obj.mapSeq fun _ => ([v, .int (key (j + 1)) t2] : List Value).toArray)
      refine wpAny_pure ⟨plainId_quiet PySem.F.plain_max_loop _, ih (j + 1) (j + 1) _ H2 v t2 c3 _ (by omega) hlt I3 sm02 pI.2.1 pS.2.1 ⟨oI, (s3.2 I hSI.symm).trans pI.1, hoc, hod⟩ hc3 (List.getElem?_eq_getElem hlt) rvx (Nat.le_refl _) fun j' hj' => ?_⟩
      by_cases e : j' = j + 1
      · subst e; omega
      · have hb1 := hbest j' (by omega)
        omega
    · simp only [hb', decide_false, Bool.false_eq_true, if_false]
      refine wpAny_bind (wpAny_letGo ?_)
      rw [hname]
      refine wpAny_pure ⟨plainId_quiet PySem.F.plain_max_loop _, ih (j + 1) i _ H2 u t c x (by omega) hlt I2 sm02 pI.2.1 pS.2.1 hit2 pS.1 hx ru (by omega) fun j' hj' => ?_⟩
      by_cases e : j' = j + 1
      · subst e; omega
      · exact hbest j' (by omega)
theorem max_kd (a v d : Value) : argsOk "max" ⟨[a], [(Str.ofString "key", v), (Str.ofString "default", d)]⟩ := by unfold argsOk; kernel_rfl
/-- max(xs, key=q, default=None), the keys ints -/
theorem mxk_call {l q : Addr} {xs : List V} {H0 : Hp} (key : Nat → Int) (Q : VK) (hh : X.A.handled = none) (hs0 : SqL X.K H0 l xs)
    (turn : KeyTurn X σ (.ref q) xs H0 fun i r _ => ∃ t, r = .int (key i) t)
    (hQ : ∀ i x H', xs[i]? = some x → (∀ j, j < xs.length → key j ≤ key i) → Same H0 H' → Q x H') (hN : xs = [] → ∀ H', Same H0 H' → Q .non H')
    {s : Shared} (Iv : Inv X pins σ H0 s) :
    wpAny (model X.prog X.w) X.A (call (.builtin "max") [.ref l] [(Str.ofString "key", .ref q), (Str.ofString "default", .none)]) (EP X pins σ Q) X.xe s := by
  have hname : (toString "max" ++ toString ".loop" : String) = "max.loop" := by decide
  obtain ⟨its, rv, p, hz⟩ := Iv.list hs0
  have hl := rv.length
  have ho : ∃ ol, s.heap.get? l = some ol := let ⟨ol, _, h, _⟩ := p; ⟨ol, h⟩
  obtain ⟨ol, hol⟩ := ho
  have hll : l < s.heap.objs.size := Heap.lt_size hol
  refine kmk_tree PySem.F.kind_max PySem.F.plain_max PySem.F.entry_max (max_kd _ _ _) ?_
  show wpAny _ X.A.in1 (Builtin.Builtins.bindParams "max" ["key", "default"] 0 ⟨[], [(Str.ofString "key", .ref q), (Str.ofString "default", .none)]⟩ >>= _) _ _ s
  refine wpAny_bind (wpAny_of_eq (show Builtin.Builtins.bindParams "max" ["key", "default"] 0 ⟨[], [(Str.ofString "key", .ref q), (Str.ofString "default", .none)]⟩ = pure [some (.ref q), some .none] from rfl) ?_)
  refine wpAny_bind (wpAny_pure ?_)
  refine wpAny_bind (wpAny_pyIter_list p.isList ?_)
  refine wpAny_bind (wpAny_newList ?_ (Nat.zero_le _))
  rw [hname]
  have hsz1 : (s.heap.push { cls := .type "list_iterator", data := .fields #[.ref l, .int 0 0] }).objs.size = s.heap.objs.size + 1 := size_push' ..
  have I1 : Inv X pins σ H0 { s with heap := (s.heap.push { cls := .type "list_iterator", data := .fields #[.ref l, .int 0 0] }).push (seqObj "list" #[] 0) } :=
    Iv.kept (t' := s.toks) fun b o e => Heap.get?_push_of_some _ (Heap.get?_push_of_some _ e)
  have gI : ((s.heap.push { cls := .type "list_iterator", data := .fields #[.ref l, .int 0 0] }).push (seqObj "list" #[] 0)).get? s.heap.objs.size = some { cls := .type "list_iterator", data := .fields #[.ref l, .int 0 0] } :=
    Heap.get?_push_of_some _ (Heap.get?_push_size _ rfl)
  have gS : ((s.heap.push { cls := .type "list_iterator", data := .fields #[.ref l, .int 0 0] }).push (seqObj "list" #[] 0)).get? (s.heap.objs.size + 1) = some (seqObj "list" #[] 0) := by
    rw [← hsz1]; exact Heap.get?_push_size _ rfl
  have hI : ∀ H' : Hp, H' s.heap.objs.size = none → FpOk X pins H' s.heap.objs.size := fun H' h => Iv.fpOk (Nat.le_refl _) h
  have hS : ∀ H' : Hp, H' (s.heap.objs.size + 1) = none → FpOk X pins H' (s.heap.objs.size + 1) := fun H' h => Iv.fpOk (Nat.le_succ _) h
  have nI : H0 s.heap.objs.size = none := Iv.hok.fresh (Nat.le_refl _)
  have nS : H0 (s.heap.objs.size + 1) = none := Iv.hok.fresh (Nat.le_succ _)
  have hSI : s.heap.objs.size + 1 ≠ s.heap.objs.size := Nat.succ_ne_self _
  refine wpAny_pure ⟨plainId_quiet PySem.F.plain_max_loop _, ?_⟩
  rw [hsz1]
  have key' : codeAny (model X.prog X.w) X.A (.builtin "max.loop" ⟨[.ref s.heap.objs.size, .ref q, .ref (s.heap.objs.size + 1)], [(Str.ofString "default", .none)]⟩) (MmR X pins σ Q)
      { s with heap := (s.heap.push { cls := .type "list_iterator", data := .fields #[.ref l, .int 0 0] }).push (seqObj "list" #[] 0) } := by
    obtain ⟨its1, rv1, p1, _⟩ := I1.list hs0
    have hl1 := rv1.length
    refine codeAny_builtin PySem.F.entry_max_loop ?_
    rw [Around.under_plainId PySem.F.plain_max_loop _]
    show wpAny _ X.A.in1 (seqItems? (.ref _) >>= _) _ _ _
    refine wpAny_bind (wpAny_seqItems gS rfl ?_)
    show wpAny _ X.A.in1 (tryCatch (pyNext (.ref s.heap.objs.size)) _ >>= _) _ _ _
    by_cases he : xs = []
    · subst he
      refine wpAny_bind (wpAny_tryCatch (wpAny_pyNext_list_end (A := X.A.in1) hh ⟨_, gI, rfl, rfl⟩ p1.isList (by rw [List.length_eq_zero_iff.mp hl1.symm]; rfl) fun h1 eb => ?_))
      obtain ⟨f0, f1, f2, f3, f4, f5⟩ := hI H0 nI
      have I2 := I1.turned (h' := h1) (t' := s.toks) (fun b o hb e => eb b o hb e) f0 f1 f3 f4 f5
      show wpAny _ X.A.in1 (rule _ >>= _) _ _ _
      refine wpAny_bind (wpAny_rule (wpAny_pure ?_))
      exact ⟨.non, H0, I2, rfl, hN rfl H0 (Same.refl _)⟩
    · have hlt : 0 < xs.length := List.length_pos_iff.mpr he
      obtain ⟨v, hv, rvx⟩ := rv1.get (List.getElem?_eq_getElem hlt)
      refine wpAny_bind (wpAny_tryCatch (wpAny_pyNext_list_item (x := v) ⟨_, gI, rfl, rfl⟩ p1.isList (by simpa using hv) fun h1 hit1 sb => ?_))
      obtain ⟨f0, f1, f2, f3, f4, f5⟩ := hI H0 nI
      have I2 : Inv X pins σ H0 { s with heap := h1 } := I1.turned (h' := h1) (t' := s.toks) (fun b o hb e => (sb.2 b hb).trans e) f0 f1 f3 f4 f5
      have hob1 : h1.get? (s.heap.objs.size + 1) = some (seqObj "list" #[] 0) := (sb.2 _ hSI).trans gS
      obtain ⟨oI, hoI, hoc, hod⟩ := id hit1
      have I2p := I2.pinned (fp := [s.heap.objs.size + 1, s.heap.objs.size]) (fun b hb => by
        rcases List.mem_cons.mp hb with e | hb
        · rw [e]; exact hS H0 nS
        · rw [List.mem_singleton.mp hb]; exact hI H0 nI) (fun b hb => by
        rcases List.mem_cons.mp hb with e | hb
        · rw [e]; exact ⟨_, hob1, fun v z => by cases z⟩
        · rw [List.mem_singleton.mp hb]; exact ⟨_, hoI, fun v z => by rw [hod] at z; cases z⟩)
      show wpAny _ X.A.in1 (tryCatch (holding [v] (call (.ref q) [v])) _ >>= _) _ _ _
      refine wpAny_bind (wpAny_tryCatch (wpAny_holding (wpAny_mono (turn _ 0 _ v { s with heap := h1 } H0 (List.getElem?_eq_getElem hlt) rvx (Same.refl _) I2p) (fun y s2 he => ?_) fun _ _ hF => hF.elim)))
      obtain ⟨H2, ⟨t2, rfl⟩, sm2, I3p⟩ := he
      have pS := I3p.pin (s.heap.objs.size + 1, seqObj "list" #[] 0) (List.mem_append_right _ (List.mem_append_right _ (mem_pinsAt (by simp) hob1)))
      have pI := I3p.pin (s.heap.objs.size, oI) (List.mem_append_right _ (List.mem_append_right _ (mem_pinsAt (by simp) hoI)))
      have I3 := I3p.unpinned
      obtain ⟨I4, c3, hc3⟩ := wrote (its := []) (its' := [v, .int (key 0) t2]) I3 (hS H2 pS.2.1) pS.1
      have s3 := Heap.SameBut.update s2.heap (s.heap.objs.size + 1) (Obj.mapSeq fun _ => ([v, .int (key 0) t2] : List Value).toArray)
      show wpAny _ X.A.in1 (updateSeq _ _ >>= _) _ _ _
      refine wpAny_bind ?_
      refine wpAny_updateSeq pS.1 rfl ?_
      rw [hname]
      refine wpAny_pure ⟨plainId_quiet PySem.F.plain_max_loop _, mxk_loop key _ Q hh hs0 hI hS hSI turn hQ _ 0 0 _ H2 v t2 c3 _ rfl hlt I4 sm2 pI.2.1 pS.2.1 ⟨oI, (s3.2 _ hSI.symm).trans pI.1, hoc, hod⟩ hc3 (List.getElem?_eq_getElem hlt) rvx (Nat.le_refl _) fun j' hj' => ?_⟩
      have e : j' = 0 := by omega
      subst e
      exact Int.le_refl _
  refine codeAny_mono key' fun r s' hr => ?_
  cases r with
  | error e => exact hr
  | ok fl => cases fl <;> exact hr
end
end K83
set_option maxRecDepth 100000
set_option maxHeartbeats 4000000
namespace K83
open PySem PySem.Spec PyProof.Rows L2
section
variable {X : Cx} {k : Nat} {g : Addr} {fd : FuncData} {ps : List Str} {sp : Sp}
/-- a def's call within a built-in, at one more of the stack -/
theorem run_in1 {pins : List (Addr × Obj)} {σ : L2.St} {H : Hp} {s : Shared} {us : List Value} {vs : List V} {Q : VK} (F : FnOk X.prog X.w X.K X.mg X.base CX0 k g fd ps sp) (hr : Room (k + 1) X.A) (hb : Binds X.K fd ps [])
    (I : Inv X pins σ H s) (r : Vals vs us) (h : sp vs H Q E0) : codeAny (model X.prog X.w) X.A.in1 (.call (.ref g) ⟨us, []⟩) (fun r s' => match r with
      | .ok (.ret u) => EP X pins σ Q u s'
      | _ => False) s := by
  have hl : (us ++ []).length = ps.length := by rw [List.append_nil, ← r.length]; exact F.len _ _ _ _ h
  have bb := hb s us I.kIn hl
  rw [List.append_nil] at bb
  refine codeAny_mono (F.run X.A.in1 X.stack s H ⟨us, []⟩ us vs Q E0 hr.in1 I.env0.in1 bb r h) fun r s' hq => ?_
  cases r with
  | error e => exact hq
  | ok fl =>
    cases fl with
    | ret u => exact I.after hq
    | next => exact False.elim hq
    | brk => exact False.elim hq
    | cont => exact False.elim hq
/-- max(xs, key=x.m, default=None), the keys ints, the method changes nothing -/
def rMaxK (K : PySem.W.Frag) (g : Addr) (sp : Sp) : List V → List V → Hp → VK → Prop := fun vs zs H Q => ∃ (l q a : Addr) (xs : List V) (key : Nat → Int), vs = [.ref l] ∧ zs = [.ref q, .non] ∧ H q = some (.met g a) ∧ SqL K H l xs ∧
  (∀ i x H', xs[i]? = some x → Same H H' → ∀ Q' : VK, Q' (.int (key i)) H' → sp [.ref a, x] H' Q' E0) ∧
  (∀ i x H', xs[i]? = some x → (∀ j, j < xs.length → key j ≤ key i) → Same H H' → Q x H') ∧ (xs = [] → ∀ H', Same H H' → Q .non H')
theorem cr_maxK (F : FnOk X.prog X.w X.K X.mg X.base CX0 k g fd ps sp) (hr : Room (k + 1) X.A) (hb : Binds X.K fd ps []) : CallRK X (.builtin "max") [Str.ofString "key", Str.ofString "default"] (rMaxK X.K g sp) := by
  intro pins s σ H vs zs us ws Q I r rz h
  obtain ⟨l, q, a, xs, key, rfl, rfl, hq, hs, hsp, hQ, hN⟩ := h
  obtain rfl := Vals.ref1 r
  obtain ⟨w1, w2, rfl, e1, e2⟩ := vals2 rz
  obtain rfl : w1 = Value.ref q := e1
  obtain rfl : w2 = Value.none := e2
  refine mxk_call key Q hr.hd hs (fun pins' i x u s1 H' hx ru sm I1 => ?_) hQ hN I
  refine wpAny_call (call_met I1 (sm _ _ hq) (codeAny_mono (run_in1 F hr hb I1 (vs := [.ref a, x]) (us := [.ref a, u]) (.cons rfl (.cons ru .nil)) (Q := fun v H'' => v = .int (key i) ∧ H'' = H') (hsp i x H' hx sm _ ⟨rfl, rfl⟩)) fun r s' hr' => ?_))
  cases r with
  | error e => exact hr'.elim
  | ok fl =>
    cases fl with
    | ret w' =>
      obtain ⟨v, H'', I2, rv, rfl, rfl⟩ := hr'
      obtain ⟨t, rfl⟩ := rv
      exact ⟨H'', ⟨t, rfl⟩, Same.refl _, I2⟩
    | next => exact False.elim hr'
    | brk => exact False.elim hr'
    | cont => exact False.elim hr'
end
end K83
set_option maxRecDepth 100000
set_option maxHeartbeats 4000000
namespace K83
open PySem PySem.Spec PyProof.Rows L2 PySem.W
section
variable {X : Cx} {pins : List (Addr × Obj)} {σ : L2.St}
/-- the loop of max of ints -/
theorem mx0_loop {l I S : Addr} {xs : List V} {H0 : Hp} (key : Nat → Int) (dk : List (Str × Value)) (Q : VK) (hh : X.A.handled = none) (hs0 : SqL X.K H0 l xs)
    (hI : ∀ H' : Hp, H' I = none → FpOk X pins H' I) (hS : ∀ H' : Hp, H' S = none → FpOk X pins H' S) (hSI : S ≠ I)
    (hk : ∀ (i : Nat) (x : V), xs[i]? = some x → x = V.int (key i))
    (hQ : ∀ i x H', xs[i]? = some x → (∀ j, j < xs.length → key j ≤ key i) → Same H0 H' → Q x H') :
    ∀ (r j i : Nat) (s : Shared) (H' : Hp) (u : Value) (t : Tok) (c : Nat) (x : V), xs.length - (j + 1) = r → j + 1 ≤ xs.length → Inv X pins σ H' s → Same H0 H' → H' I = none → H' S = none →
      s.heap.IsListIter I l (j + 1) → s.heap.get? S = some (seqObj "list" #[u, .int (key i) t] c) → xs[i]? = some x → RelV x u → i ≤ j → (∀ j', j' ≤ j → key j' ≤ key i) →
      codeAny (model X.prog X.w) X.A (.builtin "max.loop" ⟨[.ref I, .none, .ref S], dk⟩) (MmR X pins σ Q) s := by
  have hname : (toString "max" ++ toString ".loop" : String) = "max.loop" := by decide
  intro r
  induction r with
  | zero =>
    intro j i s H' u t c x hr hj Iv sm nI nS hit hob hx ru hij hbest
    have hin : j + 1 = xs.length := by omega
    obtain ⟨its, rv, p, hz⟩ := Iv.list (sm.seq hs0)
    have hl := rv.length
    refine codeAny_builtin PySem.F.entry_max_loop ?_
    rw [Around.under_plainId PySem.F.plain_max_loop _]
    show wpAny _ X.A.in1 (seqItems? (.ref S) >>= _) _ _ _
    refine wpAny_bind (wpAny_seqItems hob rfl ?_)
    show wpAny _ X.A.in1 (tryCatch (pyNext (.ref I)) _ >>= _) _ _ _
    refine wpAny_bind (wpAny_tryCatch (wpAny_pyNext_list_end (A := X.A.in1) hh hit p.isList (by simp; omega) fun h1 eb => ?_))
    obtain ⟨f0, f1, f2, f3, f4, f5⟩ := hI H' nI
    have I1 : Inv X pins σ H' { s with heap := h1 } := Iv.turned (t' := s.toks) (fun b o hb e => eb b o hb e) f0 f1 f3 f4 f5
    have hob1 := eb S _ hSI hob
    obtain ⟨I2, _⟩ := wrote (its := [u, .int (key i) t]) (its' := []) I1 (hS H' nS) hob1
    show wpAny _ X.A.in1 (updateSeq S (fun _ => #[]) >>= _) _ _ _
    refine wpAny_bind ?_
    refine wpAny_updateSeq hob1 rfl (wpAny_bind (wpAny_letGo (wpAny_pure ?_)))
    exact ⟨x, H', I2, ru, hQ i x H' hx (fun j' hj' => hbest j' (by omega)) sm⟩
  | succ r ih =>
    intro j i s H' u t c x hr hj Iv sm nI nS hit hob hx ru hij hbest
    have hlt : j + 1 < xs.length := by omega
    obtain ⟨its, rv, p, hz⟩ := Iv.list (sm.seq hs0)
    have hl := rv.length
    obtain ⟨v, hv, rvx⟩ := rv.get (List.getElem?_eq_getElem hlt)
    refine codeAny_builtin PySem.F.entry_max_loop ?_
    rw [Around.under_plainId PySem.F.plain_max_loop _]
    show wpAny _ X.A.in1 (seqItems? (.ref S) >>= _) _ _ _
    refine wpAny_bind (wpAny_seqItems hob rfl ?_)
    show wpAny _ X.A.in1 (tryCatch (pyNext (.ref I)) _ >>= _) _ _ _
    refine wpAny_bind (wpAny_tryCatch (wpAny_pyNext_list_item hit p.isList (x := v) (by simpa using hv) fun h1 hit1 sb => ?_))
    obtain ⟨f0, f1, f2, f3, f4, f5⟩ := hI H' nI
    have I1 : Inv X pins σ H' { s with heap := h1 } := Iv.turned (t' := s.toks) (fun b o hb e => (sb.2 b hb).trans e) f0 f1 f3 f4 f5
    have hob1 : h1.get? S = some (seqObj "list" #[u, .int (key i) t] c) := (sb.2 S hSI).trans hob
    obtain ⟨oI, hoI, hoc, hod⟩ := id hit1
    have hkv := hk (j + 1) _ (List.getElem?_eq_getElem hlt)
    rw [hkv] at rvx
    obtain ⟨t2, rfl⟩ := rvx
    have sm02 := sm
    have hit2 := hit1
    show wpAny _ X.A.in1 (pure (Value.int (key (j + 1)) t2) >>= _) _ _ _
    refine wpAny_bind (wpAny_pure ?_)
    show wpAny _ X.A.in1 (tryCatch (holding [.int (key (j + 1)) t2, .int (key (j + 1)) t2] (richCompare .Gt (.int (key (j + 1)) t2) (.int (key i) t) >>= _)) _ >>= _) _ _ _
    refine wpAny_bind (wpAny_tryCatch (wpAny_holding (wpAny_bind (CmpOf.ints_gt (prog := X.prog) (w := X.w) (A := X.A.in1) (P := fun i v => ∃ t, v = .int (key i) t) key (fun i v h => h) (j + 1) i _ _ _ _ _ ⟨t2, rfl⟩ ⟨t, rfl⟩ ?_))))
    refine wpAny_bind (wpAny_holding (wpAny_truthy_bool ?_))
    refine wpAny_bind (wpAny_letGo (wpAny_pure ?_))
    by_cases hb' : key i < key (j + 1)
    · obtain ⟨I3, c3, hc3⟩ := wrote (its := [u, .int (key i) t]) (its' := [.int (key (j + 1)) t2, .int (key (j + 1)) t2]) I1 (hS H' nS) hob1
      simp only [hb', decide_true, if_true]
      refine wpAny_bind ?_
      refine wpAny_updateSeq hob1 rfl (wpAny_bind (wpAny_letGo ?_))
      rw [hname]
      have s3 := Heap.SameBut.update h1 S (Obj.mapSeq fun _ => ([.int (key (j + 1)) t2, .int (key (j + 1)) t2] : List Value).toArray)
      refine wpAny_pure ⟨plainId_quiet PySem.F.plain_max_loop _, ih (j + 1) (j + 1) _ H' (.int (key (j + 1)) t2) t2 c3 _ (by omega) hlt I3 sm02 nI nS ⟨oI, (s3.2 I hSI.symm).trans hoI, hoc, hod⟩ hc3 (List.getElem?_eq_getElem hlt) (by rw [hkv]; exact ⟨t2, rfl⟩) (Nat.le_refl _) fun j' hj' => ?_⟩
      by_cases e : j' = j + 1
      · subst e; omega
      · have hb1 := hbest j' (by omega)
        omega
    · simp only [hb', decide_false, Bool.false_eq_true, if_false]
      refine wpAny_bind (wpAny_letGo ?_)
      rw [hname]
      refine wpAny_pure ⟨plainId_quiet PySem.F.plain_max_loop _, ih (j + 1) i _ H' u t c x (by omega) hlt I1 sm02 nI nS hit2 hob1 hx ru (by omega) fun j' hj' => ?_⟩
      by_cases e : j' = j + 1
      · subst e; omega
      · exact hbest j' (by omega)
theorem max_d (a d : Value) : argsOk "max" ⟨[a], [(Str.ofString "default", d)]⟩ := by unfold argsOk; kernel_rfl
/-- max(xs, default=None) of ints -/
theorem mx0_call {l : Addr} {xs : List V} {H0 : Hp} (key : Nat → Int) (Q : VK) (hh : X.A.handled = none) (hs0 : SqL X.K H0 l xs)
    (hk : ∀ (i : Nat) (x : V), xs[i]? = some x → x = V.int (key i))
    (hQ : ∀ i x H', xs[i]? = some x → (∀ j, j < xs.length → key j ≤ key i) → Same H0 H' → Q x H') (hN : xs = [] → ∀ H', Same H0 H' → Q .non H')
    {s : Shared} (Iv : Inv X pins σ H0 s) :
    wpAny (model X.prog X.w) X.A (call (.builtin "max") [.ref l] [(Str.ofString "default", .none)]) (EP X pins σ Q) X.xe s := by
  have hname : (toString "max" ++ toString ".loop" : String) = "max.loop" := by decide
  obtain ⟨its, rv, p, hz⟩ := Iv.list hs0
  have hl := rv.length
  have ho : ∃ ol, s.heap.get? l = some ol := let ⟨ol, _, h, _⟩ := p; ⟨ol, h⟩
  obtain ⟨ol, hol⟩ := ho
  have hll : l < s.heap.objs.size := Heap.lt_size hol
  refine kmk_tree PySem.F.kind_max PySem.F.plain_max PySem.F.entry_max (max_d _ _) ?_
  show wpAny _ X.A.in1 (Builtin.Builtins.bindParams "max" ["key", "default"] 0 ⟨[], [(Str.ofString "default", .none)]⟩ >>= _) _ _ s
  refine wpAny_bind (wpAny_of_eq (show Builtin.Builtins.bindParams "max" ["key", "default"] 0 ⟨[], [(Str.ofString "default", .none)]⟩ = pure [none, some .none] from rfl) ?_)
  refine wpAny_bind (wpAny_pure ?_)
  refine wpAny_bind (wpAny_pyIter_list p.isList ?_)
  refine wpAny_bind (wpAny_newList ?_ (Nat.zero_le _))
  rw [hname]
  have hsz1 : (s.heap.push { cls := .type "list_iterator", data := .fields #[.ref l, .int 0 0] }).objs.size = s.heap.objs.size + 1 := size_push' ..
  have I1 : Inv X pins σ H0 { s with heap := (s.heap.push { cls := .type "list_iterator", data := .fields #[.ref l, .int 0 0] }).push (seqObj "list" #[] 0) } :=
    Iv.kept (t' := s.toks) fun b o e => Heap.get?_push_of_some _ (Heap.get?_push_of_some _ e)
  have gI : ((s.heap.push { cls := .type "list_iterator", data := .fields #[.ref l, .int 0 0] }).push (seqObj "list" #[] 0)).get? s.heap.objs.size = some { cls := .type "list_iterator", data := .fields #[.ref l, .int 0 0] } :=
    Heap.get?_push_of_some _ (Heap.get?_push_size _ rfl)
  have gS : ((s.heap.push { cls := .type "list_iterator", data := .fields #[.ref l, .int 0 0] }).push (seqObj "list" #[] 0)).get? (s.heap.objs.size + 1) = some (seqObj "list" #[] 0) := by
    rw [← hsz1]; exact Heap.get?_push_size _ rfl
  have hI : ∀ H' : Hp, H' s.heap.objs.size = none → FpOk X pins H' s.heap.objs.size := fun H' h => Iv.fpOk (Nat.le_refl _) h
  have hS : ∀ H' : Hp, H' (s.heap.objs.size + 1) = none → FpOk X pins H' (s.heap.objs.size + 1) := fun H' h => Iv.fpOk (Nat.le_succ _) h
  have nI : H0 s.heap.objs.size = none := Iv.hok.fresh (Nat.le_refl _)
  have nS : H0 (s.heap.objs.size + 1) = none := Iv.hok.fresh (Nat.le_succ _)
  have hSI : s.heap.objs.size + 1 ≠ s.heap.objs.size := Nat.succ_ne_self _
  refine wpAny_pure ⟨plainId_quiet PySem.F.plain_max_loop _, ?_⟩
  rw [hsz1]
  have key' : codeAny (model X.prog X.w) X.A (.builtin "max.loop" ⟨[.ref s.heap.objs.size, .none, .ref (s.heap.objs.size + 1)], [(Str.ofString "default", .none)]⟩) (MmR X pins σ Q)
      { s with heap := (s.heap.push { cls := .type "list_iterator", data := .fields #[.ref l, .int 0 0] }).push (seqObj "list" #[] 0) } := by
    obtain ⟨its1, rv1, p1, _⟩ := I1.list hs0
    have hl1 := rv1.length
    refine codeAny_builtin PySem.F.entry_max_loop ?_
    rw [Around.under_plainId PySem.F.plain_max_loop _]
    show wpAny _ X.A.in1 (seqItems? (.ref _) >>= _) _ _ _
    refine wpAny_bind (wpAny_seqItems gS rfl ?_)
    show wpAny _ X.A.in1 (tryCatch (pyNext (.ref s.heap.objs.size)) _ >>= _) _ _ _
    by_cases he : xs = []
    · subst he
      refine wpAny_bind (wpAny_tryCatch (wpAny_pyNext_list_end (A := X.A.in1) hh ⟨_, gI, rfl, rfl⟩ p1.isList (by rw [List.length_eq_zero_iff.mp hl1.symm]; rfl) fun h1 eb => ?_))
      obtain ⟨f0, f1, f2, f3, f4, f5⟩ := hI H0 nI
      have I2 := I1.turned (h' := h1) (t' := s.toks) (fun b o hb e => eb b o hb e) f0 f1 f3 f4 f5
      show wpAny _ X.A.in1 (rule _ >>= _) _ _ _
      refine wpAny_bind (wpAny_rule (wpAny_pure ?_))
      exact ⟨.non, H0, I2, rfl, hN rfl H0 (Same.refl _)⟩
    · have hlt : 0 < xs.length := List.length_pos_iff.mpr he
      obtain ⟨v, hv, rvx⟩ := rv1.get (List.getElem?_eq_getElem hlt)
      refine wpAny_bind (wpAny_tryCatch (wpAny_pyNext_list_item (x := v) ⟨_, gI, rfl, rfl⟩ p1.isList (by simpa using hv) fun h1 hit1 sb => ?_))
      obtain ⟨f0, f1, f2, f3, f4, f5⟩ := hI H0 nI
      have I2 : Inv X pins σ H0 { s with heap := h1 } := I1.turned (h' := h1) (t' := s.toks) (fun b o hb e => (sb.2 b hb).trans e) f0 f1 f3 f4 f5
      have hob1 : h1.get? (s.heap.objs.size + 1) = some (seqObj "list" #[] 0) := (sb.2 _ hSI).trans gS
      obtain ⟨oI, hoI, hoc, hod⟩ := id hit1
      have hkv := hk 0 _ (List.getElem?_eq_getElem hlt)
      rw [hkv] at rvx
      obtain ⟨t2, rfl⟩ := rvx
      obtain ⟨I4, c3, hc3⟩ := wrote (its := []) (its' := [.int (key 0) t2, .int (key 0) t2]) I2 (hS H0 nS) hob1
      have s3 := Heap.SameBut.update h1 (s.heap.objs.size + 1) (Obj.mapSeq fun _ => ([.int (key 0) t2, .int (key 0) t2] : List Value).toArray)
      show wpAny _ X.A.in1 (pure (Value.int (key 0) t2) >>= _) _ _ _
      refine wpAny_bind (wpAny_pure ?_)
      show wpAny _ X.A.in1 (updateSeq _ _ >>= _) _ _ _
      refine wpAny_bind ?_
      refine wpAny_updateSeq hob1 rfl ?_
      rw [hname]
      refine wpAny_pure ⟨plainId_quiet PySem.F.plain_max_loop _, mx0_loop key _ Q hh hs0 hI hS hSI hk hQ _ 0 0 _ H0 (.int (key 0) t2) t2 c3 _ rfl hlt I4 (Same.refl _) nI nS ⟨oI, (s3.2 _ hSI.symm).trans hoI, hoc, hod⟩ hc3 (List.getElem?_eq_getElem hlt) (by rw [hkv]; exact ⟨t2, rfl⟩) (Nat.le_refl _) fun j' hj' => ?_⟩
      have e : j' = 0 := by omega
      subst e
      exact Int.le_refl _
  refine codeAny_mono key' fun r s' hr => ?_
  cases r with
  | error e => exact hr
  | ok fl => cases fl <;> exact hr
theorem dlt_step {a b c : PyData} (h1 : dataLt a b = false) (h2 : dataLt c b = true) : dataLt a c = false := by
  cases e : dataLt a c with
  | false => rfl
  | true => rw [show dataLt a b = true from PyProof.Rows.lex_trans _ _ _ e h2] at h1; cases h1
/-- the loop of min with a key that is data -/
theorem mnk_loop {l q I S : Addr} {xs : List V} {H0 : Hp} (kd : Nat → PyData) (hal : ∀ i j, alike (kd i) (kd j) = true) (hne : ∀ i, kd i ≠ .none) (hdep : ∀ i, X.A.in1.units + (kd i).depth < cLine) (dk : List (Str × Value)) (Q : VK) (hh : X.A.handled = none) (hs0 : SqL X.K H0 l xs)
    (hI : ∀ H' : Hp, H' I = none → FpOk X pins H' I) (hS : ∀ H' : Hp, H' S = none → FpOk X pins H' S) (hSI : S ≠ I)
    (turn : KeyTurn X σ (.ref q) xs H0 fun i r H => ∃ x, RelV x r ∧ Dv H (kd i) x)
    (hQ : ∀ i x H', xs[i]? = some x → (∀ j, j < xs.length → dataLt (kd j) (kd i) = false) → Same H0 H' → Q x H') :
    ∀ (r j i : Nat) (s : Shared) (H' : Hp) (u kv : Value) (kx : V) (c : Nat) (x : V), xs.length - (j + 1) = r → j + 1 ≤ xs.length → Inv X pins σ H' s → Same H0 H' → H' I = none → H' S = none →
      s.heap.IsListIter I l (j + 1) → s.heap.get? S = some (seqObj "list" #[u, kv] c) → RelV kx kv → Dv H' (kd i) kx → xs[i]? = some x → RelV x u → i ≤ j → (∀ j', j' ≤ j → dataLt (kd j') (kd i) = false) →
      codeAny (model X.prog X.w) X.A (.builtin "min.loop" ⟨[.ref I, .ref q, .ref S], dk⟩) (MmR X pins σ Q) s := by
  have hname : (toString "min" ++ toString ".loop" : String) = "min.loop" := by decide
  intro r
  induction r with
  | zero =>
    intro j i s H' u kv kx c x hr hj Iv sm nI nS hit hob rkv dkv hx ru hij hbest
    have hin : j + 1 = xs.length := by omega
    obtain ⟨its, rv, p, hz⟩ := Iv.list (sm.seq hs0)
    have hl := rv.length
    refine codeAny_builtin PySem.F.entry_min_loop ?_
    rw [Around.under_plainId PySem.F.plain_min_loop _]
    show wpAny _ X.A.in1 (seqItems? (.ref S) >>= _) _ _ _
    refine wpAny_bind (wpAny_seqItems hob rfl ?_)
    show wpAny _ X.A.in1 (tryCatch (pyNext (.ref I)) _ >>= _) _ _ _
    refine wpAny_bind (wpAny_tryCatch (wpAny_pyNext_list_end (A := X.A.in1) hh hit p.isList (by simp; omega) fun h1 eb => ?_))
    obtain ⟨f0, f1, f2, f3, f4, f5⟩ := hI H' nI
    have I1 : Inv X pins σ H' { s with heap := h1 } := Iv.turned (t' := s.toks) (fun b o hb e => eb b o hb e) f0 f1 f3 f4 f5
    have hob1 := eb S _ hSI hob
    obtain ⟨I2, _⟩ := wrote (its := [u, kv]) (its' := []) I1 (hS H' nS) hob1
    show wpAny _ X.A.in1 (updateSeq S (fun _ => #[]) >>= _) _ _ _
    refine wpAny_bind ?_
    refine wpAny_updateSeq hob1 rfl (wpAny_bind (wpAny_letGo (wpAny_pure ?_)))
    exact ⟨x, H', I2, ru, hQ i x H' hx (fun j' hj' => hbest j' (by omega)) sm⟩
  | succ r ih =>
    intro j i s H' u kv kx c x hr hj Iv sm nI nS hit hob rkv dkv hx ru hij hbest
    have hlt : j + 1 < xs.length := by omega
    obtain ⟨its, rv, p, hz⟩ := Iv.list (sm.seq hs0)
    have hl := rv.length
    obtain ⟨v, hv, rvx⟩ := rv.get (List.getElem?_eq_getElem hlt)
    refine codeAny_builtin PySem.F.entry_min_loop ?_
    rw [Around.under_plainId PySem.F.plain_min_loop _]
    show wpAny _ X.A.in1 (seqItems? (.ref S) >>= _) _ _ _
    refine wpAny_bind (wpAny_seqItems hob rfl ?_)
    show wpAny _ X.A.in1 (tryCatch (pyNext (.ref I)) _ >>= _) _ _ _
    refine wpAny_bind (wpAny_tryCatch (wpAny_pyNext_list_item hit p.isList (x := v) (by simpa using hv) fun h1 hit1 sb => ?_))
    obtain ⟨f0, f1, f2, f3, f4, f5⟩ := hI H' nI
    have I1 : Inv X pins σ H' { s with heap := h1 } := Iv.turned (t' := s.toks) (fun b o hb e => (sb.2 b hb).trans e) f0 f1 f3 f4 f5
    have hob1 : h1.get? S = some (seqObj "list" #[u, kv] c) := (sb.2 S hSI).trans hob
    obtain ⟨oI, hoI, hoc, hod⟩ := id hit1
    have I1p := I1.pinned (fp := [S, I]) (fun b hb => by
      rcases List.mem_cons.mp hb with e | hb
      · rw [e]; exact hS H' nS
      · rw [List.mem_singleton.mp hb]; exact hI H' nI) (fun b hb => by
      rcases List.mem_cons.mp hb with e | hb
      · rw [e]; exact ⟨_, hob1, fun v z => by cases z⟩
      · rw [List.mem_singleton.mp hb]; exact ⟨_, hoI, fun v z => by rw [hod] at z; cases z⟩)
    show wpAny _ X.A.in1 (tryCatch (holding [v] (call (.ref q) [v])) _ >>= _) _ _ _
    refine wpAny_bind (wpAny_tryCatch (wpAny_holding (wpAny_mono (turn _ (j + 1) _ v { s with heap := h1 } H' (List.getElem?_eq_getElem hlt) rvx sm I1p) (fun y s2 he => ?_) fun _ _ hF => hF.elim)))
    obtain ⟨H2, ⟨y2, ry2, dy2⟩, sm2, I2p⟩ := he
    have pS := I2p.pin (S, seqObj "list" #[u, kv] c) (List.mem_append_right _ (List.mem_append_right _ (mem_pinsAt (by simp) hob1)))
    have pI := I2p.pin (I, oI) (List.mem_append_right _ (List.mem_append_right _ (mem_pinsAt (by simp) hoI)))
    have I2 := I2p.unpinned
    have sm02 := sm.trans sm2
    have hit2 : s2.heap.IsListIter I l (j + 1 + 1) := ⟨oI, pI.1, hoc, hod⟩
    have dkv2 : Dv H2 (kd i) kx := dkv.same sm2
    obtain ⟨as1, rd1⟩ := Dp.reads I2 _ _ _ (Dv.dp dy2) ry2
    obtain ⟨as2, rd2⟩ := Dp.reads I2 _ _ _ (Dv.dp dkv2) rkv
    show wpAny _ X.A.in1 (tryCatch (holding [v, y] (richCompare .Lt y kv >>= _)) _ >>= _) _ _ _
    refine wpAny_bind (wpAny_tryCatch (wpAny_holding (wpAny_bind (rcLt_alike (kd (j + 1)) (kd i) X.A.in1 s2 y kv as1 as2 rd1 rd2 (hal _ _) (hne _) (Nat.lt_of_le_of_lt (Nat.add_le_add_left (Nat.min_le_left _ _) _) (hdep _)) X.prog X.w _ _ ?_))))
    refine wpAny_bind (wpAny_holding (wpAny_truthy_bool ?_))
    refine wpAny_bind (wpAny_letGo (wpAny_pure ?_))
    cases hb' : dataLt (kd (j + 1)) (kd i) with
    | true =>
      obtain ⟨I3, c3, hc3⟩ := wrote (its := [u, kv]) (its' := [v, y]) I2 (hS H2 pS.2.1) pS.1
      simp only [if_true]
      refine wpAny_bind ?_
      refine wpAny_updateSeq pS.1 rfl (wpAny_bind (wpAny_letGo ?_))
      rw [hname]
      have s3 := Heap.SameBut.update s2.heap S (Obj.mapSeq fun _ => ([v, y] : List Value).toArray)
      refine wpAny_pure ⟨plainId_quiet PySem.F.plain_min_loop _, ih (j + 1) (j + 1) _ H2 v y y2 c3 _ (by omega) hlt I3 sm02 pI.2.1 pS.2.1 ⟨oI, (s3.2 I hSI.symm).trans pI.1, hoc, hod⟩ hc3 ry2 dy2 (List.getElem?_eq_getElem hlt) rvx (Nat.le_refl _) fun j' hj' => ?_⟩
      by_cases e : j' = j + 1
      · subst e; exact PyProof.Rows.lex_irrefl _
      · exact dlt_step (hbest j' (by omega)) hb'
    | false =>
      simp only [Bool.false_eq_true, if_false]
      refine wpAny_bind (wpAny_letGo ?_)
      rw [hname]
      refine wpAny_pure ⟨plainId_quiet PySem.F.plain_min_loop _, ih (j + 1) i _ H2 u kv kx c x (by omega) hlt I2 sm02 pI.2.1 pS.2.1 hit2 pS.1 rkv dkv2 hx ru (by omega) fun j' hj' => ?_⟩
      by_cases e : j' = j + 1
      · subst e; exact hb'
      · exact hbest j' (by omega)
/-- min(xs, key=q), the keys data -/
theorem mnk_call {l q : Addr} {xs : List V} {H0 : Hp} (kd : Nat → PyData) (hal : ∀ i j, alike (kd i) (kd j) = true) (hne : ∀ i, kd i ≠ .none) (hdep : ∀ i, X.A.in1.units + (kd i).depth < cLine) (Q : VK) (hh : X.A.handled = none) (hs0 : SqL X.K H0 l xs)
    (turn : KeyTurn X σ (.ref q) xs H0 fun i r H => ∃ x, RelV x r ∧ Dv H (kd i) x)
    (hQ : ∀ i x H', xs[i]? = some x → (∀ j, j < xs.length → dataLt (kd j) (kd i) = false) → Same H0 H' → Q x H') (he : xs ≠ [])
    {s : Shared} (Iv : Inv X pins σ H0 s) :
    wpAny (model X.prog X.w) X.A (call (.builtin "min") [.ref l] [(Str.ofString "key", .ref q)]) (EP X pins σ Q) X.xe s := by
  have hname : (toString "min" ++ toString ".loop" : String) = "min.loop" := by decide
  obtain ⟨its, rv, p, hz⟩ := Iv.list hs0
  have hl := rv.length
  have ho : ∃ ol, s.heap.get? l = some ol := let ⟨ol, _, h, _⟩ := p; ⟨ol, h⟩
  obtain ⟨ol, hol⟩ := ho
  have hll : l < s.heap.objs.size := Heap.lt_size hol
  refine kmk_tree PySem.F.kind_min PySem.F.plain_min PySem.F.entry_min (kmk_min_key _ _) ?_
  show wpAny _ X.A.in1 (Builtin.Builtins.bindParams "min" ["key", "default"] 0 ⟨[], [(Str.ofString "key", .ref q)]⟩ >>= _) _ _ s
  refine wpAny_bind (wpAny_of_eq (show Builtin.Builtins.bindParams "min" ["key", "default"] 0 ⟨[], [(Str.ofString "key", .ref q)]⟩ = pure [some (.ref q), none] from rfl) ?_)
  refine wpAny_bind (wpAny_pure ?_)
  refine wpAny_bind (wpAny_pyIter_list p.isList ?_)
  refine wpAny_bind (wpAny_newList ?_ (Nat.zero_le _))
  rw [hname]
  have hsz1 : (s.heap.push { cls := .type "list_iterator", data := .fields #[.ref l, .int 0 0] }).objs.size = s.heap.objs.size + 1 := size_push' ..
  have I1 : Inv X pins σ H0 { s with heap := (s.heap.push { cls := .type "list_iterator", data := .fields #[.ref l, .int 0 0] }).push (seqObj "list" #[] 0) } :=
    Iv.kept (t' := s.toks) fun b o e => Heap.get?_push_of_some _ (Heap.get?_push_of_some _ e)
  have gI : ((s.heap.push { cls := .type "list_iterator", data := .fields #[.ref l, .int 0 0] }).push (seqObj "list" #[] 0)).get? s.heap.objs.size = some { cls := .type "list_iterator", data := .fields #[.ref l, .int 0 0] } :=
    Heap.get?_push_of_some _ (Heap.get?_push_size _ rfl)
  have gS : ((s.heap.push { cls := .type "list_iterator", data := .fields #[.ref l, .int 0 0] }).push (seqObj "list" #[] 0)).get? (s.heap.objs.size + 1) = some (seqObj "list" #[] 0) := by
    rw [← hsz1]; exact Heap.get?_push_size _ rfl
  have hI : ∀ H' : Hp, H' s.heap.objs.size = none → FpOk X pins H' s.heap.objs.size := fun H' h => Iv.fpOk (Nat.le_refl _) h
  have hS : ∀ H' : Hp, H' (s.heap.objs.size + 1) = none → FpOk X pins H' (s.heap.objs.size + 1) := fun H' h => Iv.fpOk (Nat.le_succ _) h
  have nI : H0 s.heap.objs.size = none := Iv.hok.fresh (Nat.le_refl _)
  have nS : H0 (s.heap.objs.size + 1) = none := Iv.hok.fresh (Nat.le_succ _)
  have hSI : s.heap.objs.size + 1 ≠ s.heap.objs.size := Nat.succ_ne_self _
  refine wpAny_pure ⟨plainId_quiet PySem.F.plain_min_loop _, ?_⟩
  rw [hsz1]
  have key' : codeAny (model X.prog X.w) X.A (.builtin "min.loop" ⟨[.ref s.heap.objs.size, .ref q, .ref (s.heap.objs.size + 1)], []⟩) (MmR X pins σ Q)
      { s with heap := (s.heap.push { cls := .type "list_iterator", data := .fields #[.ref l, .int 0 0] }).push (seqObj "list" #[] 0) } := by
    obtain ⟨its1, rv1, p1, _⟩ := I1.list hs0
    have hl1 := rv1.length
    refine codeAny_builtin PySem.F.entry_min_loop ?_
    rw [Around.under_plainId PySem.F.plain_min_loop _]
    show wpAny _ X.A.in1 (seqItems? (.ref _) >>= _) _ _ _
    refine wpAny_bind (wpAny_seqItems gS rfl ?_)
    show wpAny _ X.A.in1 (tryCatch (pyNext (.ref s.heap.objs.size)) _ >>= _) _ _ _
    · have hlt : 0 < xs.length := List.length_pos_iff.mpr he
      obtain ⟨v, hv, rvx⟩ := rv1.get (List.getElem?_eq_getElem hlt)
      refine wpAny_bind (wpAny_tryCatch (wpAny_pyNext_list_item (x := v) ⟨_, gI, rfl, rfl⟩ p1.isList (by simpa using hv) fun h1 hit1 sb => ?_))
      obtain ⟨f0, f1, f2, f3, f4, f5⟩ := hI H0 nI
      have I2 : Inv X pins σ H0 { s with heap := h1 } := I1.turned (h' := h1) (t' := s.toks) (fun b o hb e => (sb.2 b hb).trans e) f0 f1 f3 f4 f5
      have hob1 : h1.get? (s.heap.objs.size + 1) = some (seqObj "list" #[] 0) := (sb.2 _ hSI).trans gS
      obtain ⟨oI, hoI, hoc, hod⟩ := id hit1
      have I2p := I2.pinned (fp := [s.heap.objs.size + 1, s.heap.objs.size]) (fun b hb => by
        rcases List.mem_cons.mp hb with e | hb
        · rw [e]; exact hS H0 nS
        · rw [List.mem_singleton.mp hb]; exact hI H0 nI) (fun b hb => by
        rcases List.mem_cons.mp hb with e | hb
        · rw [e]; exact ⟨_, hob1, fun v z => by cases z⟩
        · rw [List.mem_singleton.mp hb]; exact ⟨_, hoI, fun v z => by rw [hod] at z; cases z⟩)
      show wpAny _ X.A.in1 (tryCatch (holding [v] (call (.ref q) [v])) _ >>= _) _ _ _
      refine wpAny_bind (wpAny_tryCatch (wpAny_holding (wpAny_mono (turn _ 0 _ v { s with heap := h1 } H0 (List.getElem?_eq_getElem hlt) rvx (Same.refl _) I2p) (fun y s2 he => ?_) fun _ _ hF => hF.elim)))
      obtain ⟨H2, ⟨y2, ry2, dy2⟩, sm2, I3p⟩ := he
      have pS := I3p.pin (s.heap.objs.size + 1, seqObj "list" #[] 0) (List.mem_append_right _ (List.mem_append_right _ (mem_pinsAt (by simp) hob1)))
      have pI := I3p.pin (s.heap.objs.size, oI) (List.mem_append_right _ (List.mem_append_right _ (mem_pinsAt (by simp) hoI)))
      have I3 := I3p.unpinned
      obtain ⟨I4, c3, hc3⟩ := wrote (its := []) (its' := [v, y]) I3 (hS H2 pS.2.1) pS.1
      have s3 := Heap.SameBut.update s2.heap (s.heap.objs.size + 1) (Obj.mapSeq fun _ => ([v, y] : List Value).toArray)
      show wpAny _ X.A.in1 (updateSeq _ _ >>= _) _ _ _
      refine wpAny_bind ?_
      refine wpAny_updateSeq pS.1 rfl ?_
      rw [hname]
      refine wpAny_pure ⟨plainId_quiet PySem.F.plain_min_loop _, mnk_loop kd hal hne hdep _ Q hh hs0 hI hS hSI turn hQ _ 0 0 _ H2 v y y2 c3 _ rfl hlt I4 sm2 pI.2.1 pS.2.1 ⟨oI, (s3.2 _ hSI.symm).trans pI.1, hoc, hod⟩ hc3 ry2 dy2 (List.getElem?_eq_getElem hlt) rvx (Nat.le_refl _) fun j' hj' => ?_⟩
      have e : j' = 0 := by omega
      subst e
      exact PyProof.Rows.lex_irrefl _
  refine codeAny_mono key' fun r s' hr => ?_
  cases r with
  | error e => exact hr
  | ok fl => cases fl <;> exact hr
end
end K83
set_option maxRecDepth 100000
set_option maxHeartbeats 4000000
namespace K83
open PySem PySem.Spec PyProof.Rows L2 PySem.W
section
variable {X : Cx} {k : Nat} {g : Addr} {fd : FuncData} {ps : List Str} {sp : Sp}
/-- x.m as a value -/
def tBound (C g : Addr) (m : Str) (ta : TE) : TE := fun σ H Q => ta σ H fun x H1 => ∃ a dx fs, x = .ref a ∧ H1 a = some (.ins C dx fs) ∧ fs.lookup m = none ∧ ∀ p, H1 p = none → Q (.ref p) (upd H1 p (.met g a))
theorem pe_bound {e : Expr} {m : Str} {pos : Pos} {ta : TE} {C : Addr} (he : PE X e ta) (c : Cls X.K C) (b : BMeth X.K C m g) (hb : attributeBase e m X.env (eval e X.env) = eval e X.env) : PE X (.Attribute e m pos) (tBound C g m ta) := by
  refine ⟨fun pins s σ H Q I h => ?_⟩
  refine attr_of hb (thn (he.run pins s σ H _ I h) fun v s1 ⟨x, H1, I1, r1, q1⟩ => ?_)
  obtain ⟨a, dx, fs, rfl, ha, hl, q⟩ := q1
  exact op_getbound I1 ha c b hl r1 q
/-- max(xs, default=None) of ints -/
def rMax0 (K : PySem.W.Frag) : List V → List V → Hp → VK → Prop := fun vs zs H Q => ∃ (l : Addr) (ns : List Int), vs = [.ref l] ∧ zs = [.non] ∧ SqL K H l (ns.map V.int) ∧ (ns = [] → ∀ H', Same H H' → Q .non H') ∧
  ∀ m, m ∈ ns → (∀ y ∈ ns, y ≤ m) → ∀ H', Same H H' → Q (.int m) H'
theorem cr_max0 (hc : X.calm = true) : CallRK X (.builtin "max") [Str.ofString "default"] (rMax0 X.K) := by
  intro pins s σ H vs zs us ws Q I r rz h
  obtain ⟨l, ns, rfl, rfl, hs, hN, hQ⟩ := h
  obtain rfl := Vals.ref1 r
  obtain ⟨w1, rfl, e1⟩ := vals1 rz
  obtain rfl : w1 = Value.none := e1
  refine mx0_call (fun i => ns.getD i 0) Q (I.ok.hd hc) hs (fun i x hx => ?_) (fun i x H' hx hb sm => ?_) (fun he => hN (List.map_eq_nil_iff.mp he)) I
  · rw [List.getElem?_map] at hx
    cases hn : ns[i]? with
    | none => rw [hn] at hx; cases hx
    | some n => rw [hn] at hx; cases hx; simp [List.getD, hn]
  · rw [List.getElem?_map] at hx
    cases hn : ns[i]? with
    | none => rw [hn] at hx; cases hx
    | some n =>
      rw [hn] at hx
      cases hx
      refine hQ n (List.mem_of_getElem? hn) (fun y hy => ?_) H' sm
      obtain ⟨j, hj, e⟩ := List.getElem_of_mem hy
      have q := hb j (by rw [List.length_map]; exact hj)
      simp only [List.getD, hn, List.getElem?_eq_getElem hj, e, Option.getD_some] at q
      exact q
/-- min(xs, key=f), the keys data -/
def rMinK (K : PySem.W.Frag) (g : Addr) (sp : Sp) : List V → List V → Hp → VK → Prop := fun vs zs H Q => ∃ (l : Addr) (xs : List V) (kd : Nat → PyData), vs = [.ref l] ∧ zs = [.ref g] ∧ SqL K H l xs ∧ xs ≠ [] ∧
  (∀ i j, alike (kd i) (kd j) = true) ∧ (∀ i, kd i ≠ .none) ∧ (∀ i, (kd i).depth ≤ 8) ∧
  (∀ i x H', xs[i]? = some x → Same H H' → ∀ Q' : VK, (∀ y H'', Same H' H'' → Dv H'' (kd i) y → Q' y H'') → sp [x] H' Q' E0) ∧
  (∀ i x H', xs[i]? = some x → (∀ j, j < xs.length → dataLt (kd j) (kd i) = false) → Same H H' → Q x H')
theorem cr_minK (F : FnOk X.prog X.w X.K X.mg X.base CX0 k g fd ps sp) (hr : Room (k + 1) X.A) (hb : Binds X.K fd ps []) : CallRK X (.builtin "min") [Str.ofString "key"] (rMinK X.K g sp) := by
  intro pins s σ H vs zs us ws Q I r rz h
  obtain ⟨l, xs, kd, rfl, rfl, hs, hne, h1, h2, h3, hsp, hQ⟩ := h
  obtain rfl := Vals.ref1 r
  obtain ⟨w1, rfl, e1⟩ := vals1 rz
  obtain rfl : w1 = Value.ref g := e1
  have hu := hr.units
  have hun : X.A.in1.units = X.A.units + 1 := rfl
  refine mnk_call kd h1 h2 (fun i => by have := h3 i; omega) Q hr.hd hs (fun pins' i x u s1 H' hx ru sm I1 => ?_) hQ hne I
  refine wpAny_call (codeAny_mono (run_in1 F hr hb I1 (vs := [x]) (us := [u]) (.cons ru .nil) (Q := fun v H'' => Dv H'' (kd i) v ∧ Same H' H'') (hsp i x H' hx sm _ fun y H'' s' d' => ⟨d', s'⟩)) fun r s' hr' => ?_)
  cases r with
  | error e => exact hr'.elim
  | ok fl =>
    cases fl with
    | ret w' =>
      obtain ⟨v, H'', I2, rv, d', s'⟩ := hr'
      exact ⟨H'', ⟨v, rv, d'⟩, s', I2⟩
    | next => exact False.elim hr'
    | brk => exact False.elim hr'
    | cont => exact False.elim hr'
/-- sorted(xs) of data -/
theorem eachIs_dv {H : Hp} {β : Type} {enc : β → PyData} : ∀ {bs : List β} {xs : List V} {us : List Value}, DvAll H (bs.map enc) xs → Vals xs us → EachIs (fun v b => ∃ x, RelV x v ∧ Dv H (enc b) x) us bs
  | [], _, _, h, r => by cases h; cases r; exact .nil
  | b :: bs, _, _, h, r => by
    obtain ⟨x, t, rfl, h1, h2⟩ := h
    cases r with
    | cons r1 r2 => exact .cons ⟨x, r1, h1⟩ (eachIs_dv h2 r2)
theorem dv_eachIs {H : Hp} {β : Type} {enc : β → PyData} : ∀ {bs : List β} {us : List Value}, EachIs (fun v b => ∃ x, RelV x v ∧ Dv H (enc b) x) us bs → ∃ xs, DvAll H (bs.map enc) xs ∧ Vals xs us
  | _, _, .nil => ⟨[], rfl, .nil⟩
  | _, _, .cons ⟨x, r1, h1⟩ t => by
    obtain ⟨xs, h2, r2⟩ := dv_eachIs t
    exact ⟨x :: xs, ⟨x, xs, rfl, h1, h2⟩, .cons r1 r2⟩
theorem reads_each {pins : List (Addr × Obj)} {σ : L2.St} {H : Hp} {s : Shared} (I : Inv X pins σ H s) {β : Type} {enc : β → PyData} : ∀ {bs : List β} {us : List Value}, EachIs (fun v b => ∃ x, RelV x v ∧ Dv H (enc b) x) us bs → EachIs (fun v b => ∃ as, Reads s.heap v (enc b) as) us bs
  | _, _, .nil => .nil
  | _, _, .cons ⟨x, r1, h1⟩ t => .cons (Dp.reads I _ _ _ (Dv.dp h1) r1) (reads_each I t)
def rSortD {β : Type} (enc : β → PyData) : List V → Hp → VK → Prop := fun vs H Q => ∃ (a : Addr) (bs : List β) (xs : List V), vs = [V.ref a] ∧ H a = some (.lst xs) ∧ DvAll H (bs.map enc) xs ∧
  ∀ ys p, DvAll H ((bs.mergeSort (dataLe false enc)).map enc) ys → H p = none → Q (.ref p) (upd H p (.lst ys))
theorem cr_sortD {β : Type} (enc : β → PyData) (hu : X.A.units + 64 < cLine) (h1 : ∀ b b', alike (enc b) (enc b') = true) (h2 : (∀ b, ∃ x r, enc b = .tuple (x :: r)) ∨ ∀ b, enc b ≠ .none ∧ ∀ xs, enc b ≠ .tuple xs) (h3 : ∀ b, (enc b).depth ≤ 8) : CallR X (.builtin "sorted") (rSortD enc) := by
  intro pins s σ H vs us Q I r h
  obtain ⟨a, bs, xs, rfl, ha, hd, q⟩ := h
  rw [Vals.ref1 r]
  obtain ⟨its, rv, pl, hz⟩ := I.list (SqL.of (K := X.K) ha)
  have hl := hd.lenM
  have e := eachIs_dv hd rv
  refine sorted_data (R := fun v b => ∃ x, RelV x v ∧ Dv H (enc b) x) pl.isList e (reads_each I e) (AllAlike.of h1) (h2.elim Sortable.tuples Sortable.others) (by omega) (fun b _ => by have := h3 b; omega) fun out ho eo => ?_
  obtain ⟨ys, dy, ry⟩ := dv_eachIs eo
  obtain ⟨ep, he'⟩ := PyProof.Rows.sortedAll_at s.heap its out.toArray
  have hlen : ys.length ≤ sizeLine := by rw [ry.length, ho]; omega
  exact ⟨.ref _, upd H (s.heap.objs.size + 1) (.lst ys), I.laid (t' := s.toks) (fun _ _ => PyProof.Rows.sortedAll_old) (Nat.le_succ _) ⟨hlen, out, ep, ry, he'⟩, rfl, q ys _ dy (I.hok.fresh (Nat.le_succ _))⟩
end
end K83
set_option maxRecDepth 100000
set_option maxHeartbeats 4000000
namespace K83
open PySem PySem.Spec PyProof.Rows L2
section
variable {X : Cx}
/-- xs.remove(y) of data: the first equal one -/
def rRemD : V → List V → Hp → VK → Prop := fun x vs H Q => ∃ (a : Addr) (y : V) (d : PyData) (xs : List V) (ds : List PyData) (j : Nat) (z : PyData), x = V.ref a ∧ vs = [y] ∧ H a = some (.lst xs) ∧ DvAll H ds xs ∧ Dv H d y ∧
  PyData.canLayAll0 ds = true ∧ SeqAt.shaped d = true ∧ ds[j]? = some z ∧ PyData.eqv z d = true ∧ (∀ (m : Nat) (z' : PyData), m < j → ds[m]? = some z' → PyData.eqv z' d = false) ∧ Q .non (upd H a (.lst (xs.eraseIdx j)))
theorem mt_remD (hu : X.A.units + 65 < cLine) : MtM X "list.remove" rRemD := by
  intro pins s σ H x vs v us Q I rx rxs h
  obtain ⟨a, y, d, xs, ds, j, z, rfl, rfl, hH, hl, hy, hxs, sd, hz, hzj, hno, q⟩ := h
  cases rx
  obtain ⟨uy, rfl, ry⟩ := rxs.one
  obtain ⟨bs, r1⟩ := Dp.reads I d y uy (Dv.dp hy) ry
  obtain ⟨hsz, its, n, rv, hlen, e⟩ := I.lstM hH
  obtain ⟨as, h4⟩ := Dp.readsAll I ds xs its (DvAll.dp hl) rv
  have hdd : min (PyData.depthAll ds) d.depth ≤ 64 := Nat.le_trans (Nat.min_le_right _ _) (by
    unfold SeqAt.shaped at sd
    rw [Bool.and_eq_true] at sd
    exact of_decide_eq_true sd.2)
  have hn : its.length = ds.length := SeqAt.ReadsAll.length ds its as h4
  have hmap : its.map (SeqAt.readOf s.heap) = ds := SeqAt.readsAll_map ds its as hxs h4
  obtain ⟨hjd, _⟩ := List.getElem?_eq_some_iff.mp hz
  have hjl : j < its.length := by omega
  have hj : j < its.toArray.size := by simpa using hjl
  have at_ : ∀ (m : Nat) (hm : m < its.toArray.size) (z' : PyData), ds[m]? = some z' → SeqAt.readOf s.heap its.toArray[m] = z' := by
    intro m hm z' hz'
    have hml : m < its.length := by simpa using hm
    rw [← hmap, List.getElem?_map, List.getElem?_eq_getElem hml] at hz'
    have e1 : SeqAt.readOf s.heap its[m] = z' := Option.some.inj (show some (SeqAt.readOf s.heap its[m]) = some z' from hz')
    simpa using e1
  refine call_meets PySem.F.slot_list_remove ⟨_, e, rfl⟩ PySem.F.entry_list_remove (PySem.F.args_list_remove_2 _ _)
    (SeqAt.list_removeAt a its.toArray n none #[] uy (fun u => PyData.eqv (SeqAt.readOf s.heap u) d) j hj ?_ ?_ (by rw [List.size_toArray]; omega)) ⟨e, SeqAt.items_eqAt (vs := its.toArray) (show ReadsAll s.heap its.toArray.toList ds as from h4) r1 hxs (SeqAt.canLay_of_shaped sd) (by omega), ?_⟩
  · show PyData.eqv (SeqAt.readOf s.heap its.toArray[j]) d = true
    rw [at_ j hj z hz]
    exact hzj
  · intro m hm hmj
    have hmd : m < ds.length := by omega
    have hz' : ds[m]? = some ds[m] := List.getElem?_eq_getElem hmd
    show PyData.eqv (SeqAt.readOf s.heap its.toArray[m]) d = false
    rw [at_ m hm _ hz']
    exact hno m _ hmj hz'
  · refine ⟨.non, _, I.lset (its' := its.eraseIdx j) (t' := s.toks) hH e ?_ (rv.eraseIdx j) ?_, rfl, q⟩
    · show its.toArray.eraseIdxIfInBounds j = (its.eraseIdx j).toArray
      rw [List.eraseIdxIfInBounds_toArray]
    · have z2 := len_erase xs j
      omega
end
end K83
set_option maxRecDepth 100000
set_option maxHeartbeats 4000000
namespace K83
open PySem PySem.Spec PyProof.Rows L2
/-! ### zip(a, b, strict=True) of two lists of one length -/
abbrev ZS (h : Heap) (z TI TO : Addr) (f0 : Value) (f1 : Bool) : Prop :=
  h.get? z = some { cls := .type "zip", dict := none, data := .fields #[f0, .bool f1, .bool true, .ref TI, .ref TO], slots := #[] }
def Own0 (f0 : Value) : Prop := f0 = .none ∨ ∃ T : Nat, f0 = rawInt T
section
variable {prog : Program} {w : World} {A : Around} {E : Value → Shared → Prop} {s : Shared}
theorem noe_item {it l : Addr} {i : Nat} {items : Array Value} {x : Value} {Q : Option Value → Shared → Prop} (hit : s.heap.IsListIter it l i) (hl : s.heap.IsList l items) (hx : items[i]? = some x)
    (hQ : ∀ h', h'.IsListIter it l (i + 1) → Heap.SameBut it s.heap h' → Q (some x) { s with heap := h' }) : wpAny (model prog w) A (Builtin.SmallTypes.nextOrEnd (.ref it)) Q E s := by
  unfold Builtin.SmallTypes.nextOrEnd
  exact wpAny_bind (wpAny_attempt (wpAny_nextOf_list_item hit hl hx fun h' h1 h2 => wpAny_pure (hQ h' h1 h2)))
theorem noe_end {it l : Addr} {i : Nat} {items : Array Value} {Q : Option Value → Shared → Prop} (hh : A.handled = none) (hit : s.heap.IsListIter it l i) (hl : s.heap.IsList l items) (hx : items[i]? = none)
    (hQ : ∀ h', Heap.ExtBut it s.heap h' → Q none { s with heap := h' }) : wpAny (model prog w) A (Builtin.SmallTypes.nextOrEnd (.ref it)) Q E s := by
  unfold Builtin.SmallTypes.nextOrEnd
  refine wpAny_bind (wpAny_attempt (wpAny_nextOf_list_end hh hit hl hx fun h' e h1 h2 => ?_))
  obtain ⟨o, ho, hc⟩ := h2
  refine wpAny_bind (wpAny_isInstance (T := "StopIteration") (b := true) ⟨o, ho, hc⟩ isSubtype_stop ?_)
  exact wpAny_pure (hQ h' h1)
theorem stop_raise {α : Type} {Q : α → Shared → Prop} (hh : A.handled = none) (hE : ∀ h' e, (∀ b o, s.heap.get? b = some o → h'.get? b = some o) → (∃ o, h'.get? e = some o ∧ o.cls = .type "StopIteration") → E (.ref e) { s with heap := h' }) :
    wpAny (model prog w) A (Builtin.SmallTypes.stopIteration : Sem α) Q E s := by
  unfold Builtin.SmallTypes.stopIteration
  refine wpAny_bind ?_
  simp only [newExc, newTuple]
  refine wpAny_bind (wpAny_newObj_type ?_ (by size_fits))
  refine wpAny_bind (m := firstArgMember _ _) (wpAny_of_eq (a := Value.none) (by first | rfl | (simp only [firstArgMember]; rfl)) ?_)
  refine wpAny_newObj_type ?_ (by size_fits)
  refine wpAny_raiseNew_none hh ?_
  exact hE _ _ (fun b o e => Heap.get?_push_of_some _ (Heap.get?_push_of_some _ e)) ⟨_, Heap.get?_push_size _ rfl, rfl⟩
theorem own_is {z TI TO : Addr} {f0 : Value} {f1 : Bool} {Q : Bool → Shared → Prop} (hz : ZS s.heap z TI TO f0 f1) (h0 : Own0 f0) (ht : Q true s)
    (hf : ∀ h', ZS h' z TI TO f0 true → Heap.SameBut z s.heap h' → Q false { s with heap := h' }) : wpAny (model prog w) A (Builtin.SmallTypes.ownedTupleIsFree (.ref z)) Q E s := by
  unfold Builtin.SmallTypes.ownedTupleIsFree
  rcases h0 with rfl | ⟨T, rfl⟩
  · exact wpAny_bind (wpAny_field hz rfl (x := .none) rfl (wpAny_pure ht))
  · refine wpAny_bind (wpAny_field hz rfl (x := rawInt T) rfl ?_)
    show wpAny _ _ (loadIfAlive ((T : Int)).toNat >>= _) _ _ _
    refine wpAny_bind ?_
    have hl : ∀ {Q' : Option Obj → Shared → Prop}, Q' (s.heap.get? ((T : Int)).toNat) s → wpAny (model prog w) A (loadIfAlive ((T : Int)).toNat) Q' E s := fun q => fun _ _ _ => q
    refine hl ?_
    cases s.heap.get? ((T : Int)).toNat with
    | none => exact wpAny_pure ht
    | some o =>
      show wpAny _ _ (field (.ref z) 1 >>= _) _ _ _
      refine wpAny_bind (wpAny_field hz rfl (x := .bool f1) rfl ?_)
      cases f1 with
      | false =>
        show wpAny _ _ ((setField (.ref z) 1 (.bool true)) >>= _) _ _ _
        exact wpAny_bind (wpAny_setField_rec hz (by simp) fun h' hz' hs' => wpAny_pure (hf h' hz' hs'))
      | true => exact wpAny_bind (wpAny_pure (wpAny_pure (hf s.heap hz (Heap.SameBut.refl _ _))))
/-- what stands behind a draw -/
structure ZA (h h' : Heap) (z TI TO i1 i2 l1 l2 : Addr) (k : Nat) (x y : Value) : Prop where
  zs : ∃ f0 f1, Own0 f0 ∧ ZS h' z TI TO f0 f1
  to : ∃ a b, IsPair h' TO a b
  t1 : h'.IsListIter i1 l1 (k + 1)
  t2 : h'.IsListIter i2 l2 (k + 1)
  tu : IsPair h' h.objs.size x y
  sz : h'.objs.size = h.objs.size + 1
  kp : ∀ c o, c ≠ z → c ≠ TO → c ≠ i1 → c ≠ i2 → h.get? c = some o → h'.get? c = some o
theorem zs_item {z TI TO i1 i2 l1 l2 : Addr} {k : Nat} {xs ys : Array Value} {x y a b : Value} {f0 : Value} {f1 : Bool} {Q : Value → Shared → Prop} (D : ZipApart z TI TO i1 i2 l1 l2)
    (hz : ZS s.heap z TI TO f0 f1) (h0 : Own0 f0) (hTI : IsPair s.heap TI (.ref i1) (.ref i2)) (hTO : IsPair s.heap TO a b)
    (h1 : s.heap.IsListIter i1 l1 k) (h2 : s.heap.IsListIter i2 l2 k) (hl1 : s.heap.IsList l1 xs) (hl2 : s.heap.IsList l2 ys) (hx : xs[k]? = some x) (hy : ys[k]? = some y)
    (hQ : ∀ h', ZA s.heap h' z TI TO i1 i2 l1 l2 k x y → Q (.ref s.heap.objs.size) { s with heap := h' }) :
    wpAny (model prog w) A (Builtin.«zip.__next__» ⟨[.ref z], []⟩) (fun fin s' => ∃ v, fin = .done (.ret v) ∧ Q v s') E s := by
  show wpAny _ _ (field (.ref z) 2 >>= _) _ _ _
  refine wpAny_bind (wpAny_field hz rfl (x := .bool true) rfl ?_)
  show wpAny _ _ (field (.ref z) 3 >>= _) _ _ _
  refine wpAny_bind (wpAny_field hz rfl (x := .ref TI) rfl ?_)
  refine wpAny_bind (wpAny_seqItems hTI rfl ?_)
  show wpAny _ _ (Builtin.SmallTypes.ownedTupleIsFree (.ref z) >>= _) _ _ _
  refine wpAny_bind (own_is hz h0 ?_ fun hA hzA hsA => ?_)
  · simp only [if_true]
    refine wpAny_bind (wpAny_rule ?_)
    refine wpAny_bind (wpAny_field hz rfl (x := .ref TO) rfl ?_)
    refine wpAny_bind (wpAny_setField_rec hz (by simp) fun h₁ hz₁ hs₁ => ?_)
    replace hz₁ : ZS h₁ z TI TO .ellipsis f1 := hz₁
    refine wpAny_bind ?_
    simp only [List.zipIdx_cons, List.zipIdx_nil, List.forIn_cons, List.forIn_nil]
    refine wpAny_bind (wpAny_bind (wpAny_onRaise ?_))
    show wpAny _ _ (Builtin.SmallTypes.nextOrEnd (.ref i1)) _ _ _
    refine noe_item (h1.extBut hs₁.extBut D.i1z) (hl1.extBut hs₁.extBut D.l1z) hx fun h₂ h1₂ hs₂ => ?_
    have hTO₂ : IsPair h₂ TO a b := hs₂.extBut _ _ D.TOi1 (hs₁.extBut _ _ D.TOz hTO)
    refine wpAny_bind (wpAny_seqItems hTO₂ rfl ?_)
    refine wpAny_bind (wpAny_updateSeq_pair hTO₂ fun h₃ hTO₃ hs₃ => ?_)
    replace hTO₃ : IsPair h₃ TO x b := hTO₃
    refine wpAny_bind (wpAny_letGo (wpAny_pure ?_))
    refine wpAny_bind (wpAny_bind (wpAny_onRaise ?_))
    show wpAny _ _ (Builtin.SmallTypes.nextOrEnd (.ref i2)) _ _ _
    refine noe_item (((h2.extBut hs₁.extBut D.i2z).extBut hs₂.extBut D.i12.symm).extBut hs₃.extBut D.TOi2.symm)
      (((hl2.extBut hs₁.extBut D.l2z).extBut hs₂.extBut D.l2i1).extBut hs₃.extBut D.l2TO) hy fun h₄ h2₄ hs₄ => ?_
    have hTO₄ : IsPair h₄ TO x b := hs₄.extBut _ _ D.TOi2 hTO₃
    refine wpAny_bind (wpAny_seqItems hTO₄ rfl ?_)
    refine wpAny_bind (wpAny_updateSeq_pair hTO₄ fun h₅ hTO₅ hs₅ => ?_)
    replace hTO₅ : IsPair h₅ TO x y := hTO₅
    refine wpAny_bind (wpAny_letGo (wpAny_pure (wpAny_pure ?_)))
    refine wpAny_bind (wpAny_seqItems hTO₅ rfl ?_)
    refine wpAny_bind (wpAny_newTuple ?_)
    have hsz : h₅.objs.size = s.heap.objs.size := by rw [hs₅.1, hs₄.1, hs₃.1, hs₂.1, hs₁.1]
    have hz₅ : ZS h₅ z TI TO .ellipsis f1 := hs₅.extBut _ _ D.TOz.symm (hs₄.extBut _ _ D.i2z.symm (hs₃.extBut _ _ D.TOz.symm (hs₂.extBut _ _ D.i1z.symm hz₁)))
    have hk₅ : ∀ c o, c ≠ z → c ≠ TO → c ≠ i1 → c ≠ i2 → s.heap.get? c = some o → h₅.get? c = some o := fun c o c1 c2 c3 c4 e =>
      hs₅.extBut _ _ c2 (hs₄.extBut _ _ c4 (hs₃.extBut _ _ c2 (hs₂.extBut _ _ c3 (hs₁.extBut _ _ c1 e))))
    have h1₅ : h₅.IsListIter i1 l1 (k + 1) := ((h1₂.extBut hs₃.extBut D.TOi1.symm).extBut hs₄.extBut D.i12).extBut hs₅.extBut D.TOi1.symm
    have h2₅ : h₅.IsListIter i2 l2 (k + 1) := h2₄.extBut hs₅.extBut D.TOi2.symm
    have hzlt : z < h₅.objs.size := Heap.lt_size hz₅
    show wpAny _ _ (Builtin.SmallTypes.ownedTupleHandOut (.ref z) (.ref h₅.objs.size) >>= _) _ _ _
    refine wpAny_bind ?_
    unfold Builtin.SmallTypes.ownedTupleHandOut
    have hz₆ : ZS (h₅.push { cls := .type "tuple", data := .seq #[x, y] }) z TI TO .ellipsis f1 := Heap.get?_push_of_some _ hz₅
    refine wpAny_bind (wpAny_setField_rec hz₆ (by simp) fun h₇ hz₇ hs₇ => ?_)
    replace hz₇ : ZS h₇ z TI TO (rawInt h₅.objs.size) f1 := hz₇
    refine wpAny_setField_rec hz₇ (by simp) fun h₈ hz₈ hs₈ => ?_
    replace hz₈ : ZS h₈ z TI TO (rawInt h₅.objs.size) false := hz₈
    have up : ∀ c o, c ≠ z → h₅.get? c = some o → h₈.get? c = some o := fun c o c1 e => hs₈.extBut _ _ c1 (hs₇.extBut _ _ c1 (Heap.get?_push_of_some _ e))
    have hT₈ : IsPair h₈ h₅.objs.size x y := hs₈.extBut _ _ (Nat.ne_of_gt hzlt) (hs₇.extBut _ _ (Nat.ne_of_gt hzlt) (Heap.get?_push_size _ rfl))
    have hz8 : h₈.objs.size = h₅.objs.size + 1 := by rw [hs₈.1, hs₇.1, Heap.size_push]
    rw [hsz] at hz₈ hT₈ hz8
    refine wpAny_pure ⟨_, rfl, ?_⟩
    show Q (.ref h₅.objs.size) _
    rw [hsz]
    exact hQ h₈ ⟨⟨_, _, .inr ⟨_, rfl⟩, hz₈⟩, ⟨_, _, up _ _ D.TOz hTO₅⟩, h1₅.at fun o e => up _ o D.i1z e, h2₅.at fun o e => up _ o D.i2z e, hT₈, hz8, fun c o c1 c2 c3 c4 e => up c o c1 (hk₅ c o c1 c2 c3 c4 e)⟩
  · simp only [Bool.false_eq_true, if_false]
    refine wpAny_bind ?_
    rw [← Array.forIn_toList]
    simp only [List.forIn_cons, List.forIn_nil]
    refine wpAny_bind (wpAny_bind (wpAny_holding ?_))
    show wpAny _ _ (Builtin.SmallTypes.nextOrEnd (.ref i1)) _ _ _
    refine noe_item (h1.extBut hsA.extBut D.i1z) (hl1.extBut hsA.extBut D.l1z) hx fun h₂ h1₂ hs₂ => wpAny_pure ?_
    refine wpAny_bind (wpAny_bind (wpAny_holding ?_))
    show wpAny _ _ (Builtin.SmallTypes.nextOrEnd (.ref i2)) _ _ _
    refine noe_item ((h2.extBut hsA.extBut D.i2z).extBut hs₂.extBut D.i12.symm) ((hl2.extBut hsA.extBut D.l2z).extBut hs₂.extBut D.l2i1) hy fun h₃ h2₃ hs₃ => wpAny_pure (wpAny_pure ?_)
    show wpAny _ _ (newTuple [x, y] >>= _) _ _ _
    refine wpAny_bind (wpAny_newTuple ?_)
    have hsz : h₃.objs.size = s.heap.objs.size := by rw [hs₃.1, hs₂.1, hsA.1]
    have kA : ∀ c o, c ≠ z → c ≠ i1 → c ≠ i2 → s.heap.get? c = some o → (h₃.push { cls := .type "tuple", data := .seq #[x, y] }).get? c = some o := fun c o c1 c3 c4 e =>
      Heap.get?_push_of_some _ (hs₃.extBut _ _ c4 (hs₂.extBut _ _ c3 (hsA.extBut _ _ c1 e)))
    have hT : IsPair (h₃.push { cls := .type "tuple", data := .seq #[x, y] }) h₃.objs.size x y := Heap.get?_push_size _ rfl
    have hz8 : (h₃.push { cls := .type "tuple", data := .seq #[x, y] }).objs.size = h₃.objs.size + 1 := Heap.size_push ..
    rw [hsz] at hT hz8
    refine wpAny_pure ⟨_, rfl, ?_⟩
    show Q (.ref h₃.objs.size) _
    rw [hsz]
    exact hQ _ ⟨⟨f0, true, h0, Heap.get?_push_of_some _ (hs₃.extBut _ _ D.i2z.symm (hs₂.extBut _ _ D.i1z.symm hzA))⟩, ⟨a, b, kA _ _ D.TOz D.TOi1 D.TOi2 hTO⟩,
      (h1₂.extBut hs₃.extBut D.i12).at fun o e => Heap.get?_push_of_some _ e, h2₃.at fun o e => Heap.get?_push_of_some _ e, hT, hz8, fun c o c1 c2 c3 c4 e => kA c o c1 c3 c4 e⟩
theorem zs_end {z TI TO i1 i2 l1 l2 : Addr} {k : Nat} {xs ys : Array Value} {a b : Value} {f0 : Value} {f1 : Bool} {Q : PySem.Fin → Shared → Prop} (hh : A.handled = none) (D : ZipApart z TI TO i1 i2 l1 l2)
    (hz : ZS s.heap z TI TO f0 f1) (h0 : Own0 f0) (hTI : IsPair s.heap TI (.ref i1) (.ref i2)) (hTO : IsPair s.heap TO a b)
    (h1 : s.heap.IsListIter i1 l1 k) (h2 : s.heap.IsListIter i2 l2 k) (hl1 : s.heap.IsList l1 xs) (hl2 : s.heap.IsList l2 ys) (hx : xs[k]? = none) (hy : ys[k]? = none)
    (hE : ∀ h' e, (∀ c o, c ≠ z → c ≠ TO → c ≠ i1 → c ≠ i2 → s.heap.get? c = some o → h'.get? c = some o) → (∃ o, h'.get? e = some o ∧ o.cls = .type "StopIteration") → E (.ref e) { s with heap := h' }) :
    wpAny (model prog w) A (Builtin.«zip.__next__» ⟨[.ref z], []⟩) Q E s := by
  show wpAny _ _ (field (.ref z) 2 >>= _) _ _ _
  refine wpAny_bind (wpAny_field hz rfl (x := .bool true) rfl ?_)
  show wpAny _ _ (field (.ref z) 3 >>= _) _ _ _
  refine wpAny_bind (wpAny_field hz rfl (x := .ref TI) rfl ?_)
  refine wpAny_bind (wpAny_seqItems hTI rfl ?_)
  show wpAny _ _ (Builtin.SmallTypes.ownedTupleIsFree (.ref z) >>= _) _ _ _
  refine wpAny_bind (own_is hz h0 ?_ fun hA hzA hsA => ?_)
  · simp only [if_true]
    refine wpAny_bind (wpAny_rule ?_)
    refine wpAny_bind (wpAny_field hz rfl (x := .ref TO) rfl ?_)
    refine wpAny_bind (wpAny_setField_rec hz (by simp) fun h₁ hz₁ hs₁ => ?_)
    replace hz₁ : ZS h₁ z TI TO .ellipsis f1 := hz₁
    refine wpAny_bind ?_
    simp only [List.zipIdx_cons, List.zipIdx_nil, List.forIn_cons, List.forIn_nil]
    refine wpAny_bind (wpAny_bind (wpAny_onRaise ?_))
    show wpAny _ _ (Builtin.SmallTypes.nextOrEnd (.ref i1)) _ _ _
    refine noe_end hh (h1.extBut hs₁.extBut D.i1z) (hl1.extBut hs₁.extBut D.l1z) hx fun h₂ hs₂ => ?_
    have hz₂ : ZS h₂ z TI TO .ellipsis f1 := hs₂ _ _ D.i1z.symm hz₁
    refine wpAny_bind (wpAny_setField_rec hz₂ (by simp) fun h₃ hz₃ hs₃ => ?_)
    have i2₃ : h₃.IsListIter i2 l2 k := ((h2.extBut hs₁.extBut D.i2z).extBut hs₂ D.i12.symm).extBut hs₃.extBut D.i2z
    have l2₃ : h₃.IsList l2 ys := ((hl2.extBut hs₁.extBut D.l2z).extBut hs₂ D.l2i1).extBut hs₃.extBut D.l2z
    have k₃ : ∀ c o, c ≠ z → c ≠ i1 → s.heap.get? c = some o → h₃.get? c = some o := fun c o c1 c3 e => hs₃.extBut _ _ c1 (hs₂ _ _ c3 (hs₁.extBut _ _ c1 e))
    refine wpAny_bind ?_
    show wpAny _ _ (forIn ([Value.ref i2].zipIdx 1) _ _ >>= _) _ _ _
    simp only [List.zipIdx_cons, List.zipIdx_nil, List.forIn_cons, List.forIn_nil]
    refine wpAny_bind (wpAny_bind ?_)
    refine wpAny_bind (noe_end hh i2₃ l2₃ hy fun h₄ hs₄ => ?_)
    refine wpAny_pure (wpAny_pure ?_)
    refine wpAny_bind (wpAny_rule (stop_raise hh fun h₅ e hk₅ he => ?_))
    exact hE h₅ e (fun c o c1 c2 c3 c4 e => hk₅ c o (hs₄ _ _ c4 (k₃ c o c1 c3 e))) he
  · show wpAny _ _ (forIn #[Value.ref i1, Value.ref i2] _ _ >>= _) _ _ _
    refine wpAny_bind ?_
    rw [← Array.forIn_toList]
    simp only [List.forIn_cons, List.forIn_nil]
    refine wpAny_bind (wpAny_bind (wpAny_holding ?_))
    show wpAny _ _ (Builtin.SmallTypes.nextOrEnd (.ref i1)) _ _ _
    refine noe_end hh (h1.extBut hsA.extBut D.i1z) (hl1.extBut hsA.extBut D.l1z) hx fun h₂ hs₂ => ?_
    have i2₃ : h₂.IsListIter i2 l2 k := (h2.extBut hsA.extBut D.i2z).extBut hs₂ D.i12.symm
    have l2₃ : h₂.IsList l2 ys := (hl2.extBut hsA.extBut D.l2z).extBut hs₂ D.l2i1
    refine wpAny_bind ?_
    show wpAny _ _ (forIn ([Value.ref i2].zipIdx 1) _ _ >>= _) _ _ _
    simp only [List.zipIdx_cons, List.zipIdx_nil, List.forIn_cons, List.forIn_nil]
    refine wpAny_bind (wpAny_bind ?_)
    refine wpAny_bind (noe_end hh i2₃ l2₃ hy fun h₄ hs₄ => ?_)
    refine wpAny_pure (wpAny_pure ?_)
    refine wpAny_bind (wpAny_rule (stop_raise hh fun h₅ e hk₅ he => ?_))
    exact hE h₅ e (fun c o c1 c2 c3 c4 e => hk₅ c o (hs₄ _ _ c4 (hs₂ _ _ c3 (hsA.extBut _ _ c1 e)))) he
end
end K83
set_option maxRecDepth 100000
set_option maxHeartbeats 4000000
namespace K83
open PySem PySem.Spec PyProof.Rows L2
section
variable {prog : Program} {w : World} {A : Around} {E : Value → Shared → Prop} {s : Shared}
theorem zs_pyNext_item {z TI TO i1 i2 l1 l2 : Addr} {k : Nat} {xs ys : Array Value} {x y a b : Value} {f0 : Value} {f1 : Bool} {Q : Option Value → Shared → Prop} (D : ZipApart z TI TO i1 i2 l1 l2)
    (hz : ZS s.heap z TI TO f0 f1) (h0 : Own0 f0) (hTI : IsPair s.heap TI (.ref i1) (.ref i2)) (hTO : IsPair s.heap TO a b)
    (h1 : s.heap.IsListIter i1 l1 k) (h2 : s.heap.IsListIter i2 l2 k) (hl1 : s.heap.IsList l1 xs) (hl2 : s.heap.IsList l2 ys) (hx : xs[k]? = some x) (hy : ys[k]? = some y)
    (hQ : ∀ h', ZA s.heap h' z TI TO i1 i2 l1 l2 k x y → Q (some (.ref s.heap.objs.size)) { s with heap := h' }) : wpAny (model prog w) A (pyNext (.ref z)) Q E s := by
  have hT : s.TypeIs (.ref z) "zip" := ⟨_, hz, rfl⟩
  unfold pyNext
  exact wpAny_bind (wpAny_attempt (wpAny_callSpecial?_slot (name := Str.ofString "__next__") hT PySem.F.slot_zip_next
    (wpAny_call_entry PySem.F.slot_zip_next hT PySem.F.entry_zip_next (zs_item D hz h0 hTI hTO h1 h2 hl1 hl2 hx hy fun h' a => wpAny_pure (hQ h' a)) (PySem.F.args_zip_next_1 _))))
theorem zs_nextOf_item {z TI TO i1 i2 l1 l2 : Addr} {k : Nat} {xs ys : Array Value} {x y a b : Value} {f0 : Value} {f1 : Bool} {Q : Value → Shared → Prop} (D : ZipApart z TI TO i1 i2 l1 l2)
    (hz : ZS s.heap z TI TO f0 f1) (h0 : Own0 f0) (hTI : IsPair s.heap TI (.ref i1) (.ref i2)) (hTO : IsPair s.heap TO a b)
    (h1 : s.heap.IsListIter i1 l1 k) (h2 : s.heap.IsListIter i2 l2 k) (hl1 : s.heap.IsList l1 xs) (hl2 : s.heap.IsList l2 ys) (hx : xs[k]? = some x) (hy : ys[k]? = some y)
    (hQ : ∀ h', ZA s.heap h' z TI TO i1 i2 l1 l2 k x y → Q (.ref s.heap.objs.size) { s with heap := h' }) : wpAny (model prog w) A (Builtin.SmallTypes.nextOf (.ref z)) Q E s := by
  have hT : s.TypeIs (.ref z) "zip" := ⟨_, hz, rfl⟩
  unfold Builtin.SmallTypes.nextOf
  exact wpAny_bind (wpAny_callSpecial?_slot (name := Str.ofString "__next__") hT PySem.F.slot_zip_next
    (wpAny_call_entry PySem.F.slot_zip_next hT PySem.F.entry_zip_next (zs_item D hz h0 hTI hTO h1 h2 hl1 hl2 hx hy fun h' a => wpAny_pure (hQ h' a)) (PySem.F.args_zip_next_1 _)))
theorem zs_pyNext_end {z TI TO i1 i2 l1 l2 : Addr} {k : Nat} {xs ys : Array Value} {a b : Value} {f0 : Value} {f1 : Bool} {Q : Option Value → Shared → Prop} (hh : A.handled = none) (D : ZipApart z TI TO i1 i2 l1 l2)
    (hz : ZS s.heap z TI TO f0 f1) (h0 : Own0 f0) (hTI : IsPair s.heap TI (.ref i1) (.ref i2)) (hTO : IsPair s.heap TO a b)
    (h1 : s.heap.IsListIter i1 l1 k) (h2 : s.heap.IsListIter i2 l2 k) (hl1 : s.heap.IsList l1 xs) (hl2 : s.heap.IsList l2 ys) (hx : xs[k]? = none) (hy : ys[k]? = none)
    (hQ : ∀ h', (∀ c o, c ≠ z → c ≠ TO → c ≠ i1 → c ≠ i2 → s.heap.get? c = some o → h'.get? c = some o) → Q none { s with heap := h' }) : wpAny (model prog w) A (pyNext (.ref z)) Q E s := by
  have hT : s.TypeIs (.ref z) "zip" := ⟨_, hz, rfl⟩
  unfold pyNext
  refine wpAny_bind (wpAny_attempt (wpAny_callSpecial?_slot (name := Str.ofString "__next__") hT PySem.F.slot_zip_next
    (wpAny_call_entry PySem.F.slot_zip_next hT PySem.F.entry_zip_next (zs_end (A := A.in1) hh D hz h0 hTI hTO h1 h2 hl1 hl2 hx hy fun h' e hk he => ?_) (PySem.F.args_zip_next_1 _))))
  obtain ⟨o, ho, hc⟩ := he
  refine wpAny_bind (wpAny_isInstance (T := "StopIteration") (b := true) ⟨o, ho, hc⟩ isSubtype_stop ?_)
  exact wpAny_pure (hQ _ hk)
theorem zs_nextOf_end {z TI TO i1 i2 l1 l2 : Addr} {k : Nat} {xs ys : Array Value} {a b : Value} {f0 : Value} {f1 : Bool} {Q : Value → Shared → Prop} (hh : A.handled = none) (D : ZipApart z TI TO i1 i2 l1 l2)
    (hz : ZS s.heap z TI TO f0 f1) (h0 : Own0 f0) (hTI : IsPair s.heap TI (.ref i1) (.ref i2)) (hTO : IsPair s.heap TO a b)
    (h1 : s.heap.IsListIter i1 l1 k) (h2 : s.heap.IsListIter i2 l2 k) (hl1 : s.heap.IsList l1 xs) (hl2 : s.heap.IsList l2 ys) (hx : xs[k]? = none) (hy : ys[k]? = none)
    (hE : ∀ h' e, (∀ c o, c ≠ z → c ≠ TO → c ≠ i1 → c ≠ i2 → s.heap.get? c = some o → h'.get? c = some o) → (∃ o, h'.get? e = some o ∧ o.cls = .type "StopIteration") → E (.ref e) { s with heap := h' }) :
    wpAny (model prog w) A (Builtin.SmallTypes.nextOf (.ref z)) Q E s := by
  have hT : s.TypeIs (.ref z) "zip" := ⟨_, hz, rfl⟩
  unfold Builtin.SmallTypes.nextOf
  exact wpAny_bind (wpAny_callSpecial?_slot (name := Str.ofString "__next__") hT PySem.F.slot_zip_next
    (wpAny_call_entry PySem.F.slot_zip_next hT PySem.F.entry_zip_next (zs_end (A := A.in1) hh D hz h0 hTI hTO h1 h2 hl1 hl2 hx hy hE) (PySem.F.args_zip_next_1 _)))
/-- ahead of the store to several names -/
theorem zs_go {elts : List Expr} {kk : Nat} {pos : Pos} {z TI TO T : Addr} {f0 : Value} {f1 : Bool} {Q : Unit → Shared → Prop} (hz : ZS s.heap z TI TO f0 f1) (h0 : Own0 f0)
    (hQ : ∀ h' g0, Own0 g0 → ZS h' z TI TO g0 f1 → Heap.SameBut z s.heap h' → Q () { s with heap := h' }) : wpAny (model prog w) A (letOwnedTupleGo (.Tuple elts kk pos) (.ref z) (.ref T)) Q E s := by
  unfold letOwnedTupleGo
  refine wpAny_bind (wpAny_load hz ?_)
  show wpAny _ _ (if (["enumerate", "zip", "dict_itemiterator", "dict_reverseitemiterator", "odict_iterator", "itertools.zip_longest", "itertools.pairwise"].contains "zip" &&
      (#[f0, .bool f1, .bool true, .ref TI, .ref TO] : Array Value)[0]? == some (rawInt T)) = true then _ else _) Q E s
  split
  · refine wpAny_bind (wpAny_rule ?_)
    show wpAny _ _ (setField (.ref z) 0 .none) Q E s
    exact wpAny_setField_rec hz (by simp) fun h' hz' hs' => hQ h' .none (.inl rfl) hz' hs'
  · exact wpAny_pure (hQ s.heap f0 h0 hz (Heap.SameBut.refl _ _))
theorem zs_iter {z TI TO : Addr} {f0 : Value} {f1 : Bool} {Q : Value → Shared → Prop} (hz : ZS s.heap z TI TO f0 f1) (h : Q (.ref z) s) : wpAny (model prog w) A (pyIter (.ref z)) Q E s := by
  have hT : s.TypeIs (.ref z) "zip" := ⟨_, hz, rfl⟩
  refine wpAny_pyIter_slot hT PySem.F.slot_zip_iter (wpAny_call_entry PySem.F.slot_zip_iter hT PySem.F.entry_zip_iter ?_ (PySem.F.args_zip_iter_1 _))
  show wpAny _ _ (ret (.ref z)) _ _ s
  exact wpAny_pure ⟨_, rfl, "zip", _, hT, PySem.F.slot_zip_next.lookup, h⟩
theorem tc_zip_strict (a b c : Value) : checkTypeCall "zip" ⟨[a, b], [(Str.ofString "strict", c)]⟩ = pure () := by kernel_rfl
theorem nc_zip_strict (a b c : Value) : checkBuiltinCall "zip.__new__" ⟨[.type "zip", a, b], [(Str.ofString "strict", c)]⟩ = pure () := by kernel_rfl
theorem oi_zip_strict (obj a b c : Value) : argsOk "object.__init__" ⟨[obj, a, b], [(Str.ofString "strict", c)]⟩ := by
  unfold argsOk; rw [signature?_of (id := "object.__init__") (n := ['_', '_', 't', 'i', 'n', 'i', '_', '_']) (o := ['t', 'c', 'e', 'j', 'b', 'o']) (by kernel_rfl) PySem.F.owner_object]; kernel_rfl
abbrev zsH5 (h : Heap) (l1 l2 : Addr) : Heap := (zipH4 h l1 l2).push { cls := .type "zip", data := .fields #[.none, .bool false, .bool true, .ref (zipH2 h l1 l2).objs.size, .ref (zipH3 h l1 l2).objs.size] }
theorem meets_zip_strict (l1 l2 : Addr) (xs ys : Array Value) :
    Meets (Builtin.«zip.__new__» ⟨[.type "zip", .ref l1, .ref l2], [(Str.ofString "strict", .bool true)]⟩) (fun _ R s => s.heap.IsList l1 xs ∧ s.heap.IsList l2 ys ∧
      R (.ok (.ret (.ref (zipH4 s.heap l1 l2).objs.size))) { s with heap := zsH5 s.heap l1 l2 }) :=
  .of_wp fun prog w A R s h => by
    obtain ⟨hp, g, d, tk, os⟩ := s; obtain ⟨hl1, hl2, h⟩ := h
    have hsub := sub_zip
    have e2 : (Str.ofString "strict" != ("strict" : Str)) = false := by decide +kernel
    have hL1 : Heap.IsList (Shared.heap ⟨hp, g, d, tk, os⟩) l1 xs := hl1
    have hL2 : Heap.IsList (Shared.heap ⟨hp.push { cls := .type "list_iterator", data := .fields #[.ref l1, .int 0 0] }, g, d, tk, os⟩) l2 ys := Heap.IsList.push hl2 _
    wp_walk using wpAny_pyIter_list hL1, wpAny_pyIter_list hL2, wpAny_truthy_bool
    exact ⟨_, rfl, h⟩
end
end K83
set_option maxRecDepth 100000
set_option maxHeartbeats 4000000
namespace K83
open PySem PySem.Spec PyProof.Rows L2
section
variable {prog : Program} {w : World} {A : Around} {E : Value → Shared → Prop} {s : Shared}
theorem call_zip_strict {l1 l2 : Addr} {xs ys : Array Value} {Q : Value → Shared → Prop} (hl1 : s.heap.IsList l1 xs) (hl2 : s.heap.IsList l2 ys)
    (h : ∀ h', ZS h' (s.heap.objs.size + 4) (s.heap.objs.size + 2) (s.heap.objs.size + 3) .none false → IsPair h' (s.heap.objs.size + 2) (.ref s.heap.objs.size) (.ref (s.heap.objs.size + 1)) →
      IsPair h' (s.heap.objs.size + 3) .none .none → h'.IsListIter s.heap.objs.size l1 0 → h'.IsListIter (s.heap.objs.size + 1) l2 0 → h'.objs.size = s.heap.objs.size + 5 →
      (∀ c o, s.heap.get? c = some o → h'.get? c = some o) → Q (.ref (s.heap.objs.size + 4)) { s with heap := h' }) :
    wpAny (model prog w) A (call (.type "zip") [.ref l1, .ref l2] [(Str.ofString "strict", .bool true)]) Q E s := by
  refine callType_newKw PySem.F.called_zip (by decide) (tc_zip_strict _ _ _) (nc_zip_strict _ _ _) (fun obj => oi_zip_strict obj _ _ _) PySem.F.entry_zip_new
    (meets_zip_strict l1 l2 xs ys) ⟨hl1, hl2, ?_⟩
  have z1 : (zipH1 s.heap l1).objs.size = s.heap.objs.size + 1 := Heap.size_push ..
  have z2 : (zipH2 s.heap l1 l2).objs.size = s.heap.objs.size + 2 := by rw [Heap.size_push, z1]
  have z3 : (zipH3 s.heap l1 l2).objs.size = s.heap.objs.size + 3 := by rw [Heap.size_push, z2]
  have z4 : (zipH4 s.heap l1 l2).objs.size = s.heap.objs.size + 4 := by rw [Heap.size_push, z3]
  have z5 : (zsH5 s.heap l1 l2).objs.size = s.heap.objs.size + 5 := by rw [Heap.size_push, z4]
  have g5 : (zsH5 s.heap l1 l2).get? (zipH4 s.heap l1 l2).objs.size = some _ := Heap.get?_push_size _ rfl
  have g4 : (zsH5 s.heap l1 l2).get? (zipH3 s.heap l1 l2).objs.size = some _ := Heap.get?_push_of_some _ (Heap.get?_push_size _ rfl)
  have g3 : (zsH5 s.heap l1 l2).get? (zipH2 s.heap l1 l2).objs.size = some _ := Heap.get?_push_of_some _ (Heap.get?_push_of_some _ (Heap.get?_push_size _ rfl))
  have g2 : (zsH5 s.heap l1 l2).get? (zipH1 s.heap l1).objs.size = some _ := Heap.get?_push_of_some _ (Heap.get?_push_of_some _ (Heap.get?_push_of_some _ (Heap.get?_push_size _ rfl)))
  have g1 : (zsH5 s.heap l1 l2).get? s.heap.objs.size = some _ := Heap.get?_push_of_some _ (Heap.get?_push_of_some _ (Heap.get?_push_of_some _ (Heap.get?_push_of_some _ (Heap.get?_push_size _ rfl))))
  show _ ∧ _
  rw [z2, z3, z4] at g5
  rw [z1, z2] at g3
  rw [z3] at g4
  rw [z1] at g2
  rw [z4]
  exact ⟨⟨_, g5, rfl⟩, h _ g5 g3 g4 ⟨_, g1, rfl, rfl⟩ ⟨_, g2, rfl, rfl⟩ z5 fun c o x =>
    Heap.get?_push_of_some _ (Heap.get?_push_of_some _ (Heap.get?_push_of_some _ (Heap.get?_push_of_some _ (Heap.get?_push_of_some _ x))))⟩
end
section
variable {M : Model} {A : Around} {E : Value → Shared → Prop} {s : Shared} {env : Env}
/-- the call of a built-in class with keywords -/
theorem callWith_typeK {pos : Pos} {T : String} {e : Expr} {rest : List Expr} {kws : List Keyword} {Q : Value → Shared → Prop}
    (h : wpAny M A (spliced (backTo pos (starEach (e :: rest) env))) (fun vs s₁ => wpAny M A (evalAll ((backToKw pos (keywordEach kws env)).map (·.2)))
      (fun kvs s₂ => wpAny M A (call (.type T) vs (((backToKw pos (keywordEach kws env)).filterMap (·.1)).zip kvs)) Q E s₂) E s₁) E s)
    (he : backTo pos (starEach (e :: rest) env) = (false, eval e env) :: backTo pos (starEach rest env) := by rfl)
    (hplain : (backTo pos (starEach (e :: rest) env)).any (·.1) = false := by rfl)
    (hall : (backToKw pos (keywordEach kws env)).all (·.1.isSome) = true := by rfl)
    (hkw : (backToKw pos (keywordEach kws env)).any (·.1.isNone) = false := by rfl) :
    wpAny M A (callWith pos (.type T) [] (backTo pos (starEach (e :: rest) env)) (backToKw pos (keywordEach kws env))) Q E s := by
  unfold callWith
  have h2 : wpAny M A (evalArgs (.type T) true (backTo pos (starEach (e :: rest) env)) (backToKw pos (keywordEach kws env))) (fun a s₁ => wpAny M A (call (.type T) a.pos a.kw) Q E s₁) E s := by
    rw [he] at h ⊢
    exact evalArgs_kwB hall h
  refine wpAny_bind (wpAny_holding (wpAny_mono h2 (fun a s₁ h₁ => wpAny_bind (wpAny_standAt ?_)) fun _ _ x => x))
  simp only [hplain, hkw, Bool.or_false, List.nil_append]
  refine wpAny_bind (wpAny_pure ?_)
  exact wpAny_bind (wpAny_mono h₁ (fun r s₂ hr => wpAny_bind (wpAny_holding (wpAny_point (wpAny_pure hr)))) fun _ _ x => x)
end
/-- the strict zip's own state -/
abbrev ZSt (z TI TO i1 i2 a b : Addr) (i : Nat) (h : Heap) : Prop := (∃ f0 f1, Own0 f0 ∧ ZS h z TI TO f0 f1) ∧ IsPair h TI (.ref i1) (.ref i2) ∧ (∃ x y, IsPair h TO x y) ∧ h.IsListIter i1 a i ∧ h.IsListIter i2 b i
theorem ZSt.obj {z TI TO i1 i2 a b : Addr} {i : Nat} {h : Heap} (st : ZSt z TI TO i1 i2 a b i h) : ∀ c ∈ [z, TI, TO, i1, i2], ∃ o, h.get? c = some o ∧ ∀ v, o.data ≠ .cell v := fun c hc => by
  obtain ⟨⟨f0, f1, _, hz⟩, hTI, ⟨x, y, hTO⟩, ⟨o1, e1, _, d1⟩, ⟨o2, e2, _, d2⟩⟩ := st
  have e' : c = z ∨ c = TI ∨ c = TO ∨ c = i1 ∨ c = i2 := by simpa using hc
  rcases e' with q | q | q | q | q
  · rw [q]; exact ⟨_, hz, fun v q => nomatch q⟩
  · rw [q]; exact ⟨_, hTI, fun v q => nomatch q⟩
  · rw [q]; exact ⟨_, hTO, fun v q => nomatch q⟩
  · rw [q]; exact ⟨o1, e1, fun v q => by rw [d1] at q; cases q⟩
  · rw [q]; exact ⟨o2, e2, fun v q => by rw [d2] at q; cases q⟩
theorem ZSt.keep {z TI TO i1 i2 a b : Addr} {i : Nat} {h h' : Heap} (st : ZSt z TI TO i1 i2 a b i h) (k : ∀ b ∈ [z, TI, TO, i1, i2], ∀ o, h.get? b = some o → h'.get? b = some o) : ZSt z TI TO i1 i2 a b i h' := by
  obtain ⟨⟨f0, f1, h0, hz⟩, hTI, ⟨x, y, hTO⟩, h1, h2⟩ := st
  exact ⟨⟨f0, f1, h0, k z (by simp) _ hz⟩, k TI (by simp) _ hTI, ⟨x, y, k TO (by simp) _ hTO⟩, h1.at fun o q => k i1 (by simp) o q, h2.at fun o q => k i2 (by simp) o q⟩
/-- two lists of one length, each pair a new tuple -/
def Itzs (K : PySem.W.Frag) (a b : Addr) : It :=
  ⟨fun i H => ∃ (xs ys : List V) (x y : V), SqL K H a xs ∧ SqL K H b ys ∧ xs[i]? = some x ∧ ys[i]? = some y,
    fun i H v H' => ∃ T x y, v = .ref T ∧ H T = none ∧ H' = upd H T (.tup [x, y]) ∧ (∀ xs, SqL K H a xs → xs[i]? = some x) ∧ ∀ ys, SqL K H b ys → ys[i]? = some y,
    fun i H => ∃ xs ys : List V, SqL K H a xs ∧ SqL K H b ys ∧ xs.length ≤ i ∧ ys.length ≤ i⟩
theorem turn_zs {P : Program} {w : World} {K : PySem.W.Frag} {elts : List Expr} {kk : Nat} {tpos : Pos} {a b z TI TO i1 i2 : Addr} (D : ZipApart z TI TO i1 i2 a b) :
    Turn P w K (.Tuple elts kk tpos) (Itzs K a b) [z, TI, TO, i1, i2] z (ZSt z TI TO i1 i2 a b) where
  mem := by simp
  obj := fun i h st => st.obj
  keep := fun i h h' st k => st.keep k
  item := by
    intro X hP hw hK hc i pins s σ H E I hf st hg
    subst hP hw hK
    have stobj := st.obj
    obtain ⟨⟨f0, f1, h0, hz⟩, hTI, ⟨x0, y0, hTO⟩, h1, h2⟩ := st
    obtain ⟨xs, ys, x, y, hqx, hqy, hx, hy⟩ := hg
    obtain ⟨its, rv, p, _⟩ := I.list hqx
    obtain ⟨its2, rv2, p2, _⟩ := I.list hqy
    obtain ⟨u, hu, ru⟩ := rv.get hx
    obtain ⟨u2, hu2, ru2⟩ := rv2.get hy
    have hzl : z < s.heap.objs.size := Heap.lt_size hz
    refine zs_pyNext_item D hz h0 hTI hTO h1 h2 p.isList p2.isList (x := u) (y := u2) (by simpa using hu) (by simpa using hu2) fun h' za => ?_
    obtain ⟨⟨g0, g1, hg0, z'⟩, TO', h1', h2', hT, hsz, hk⟩ := za
    refine ⟨_, rfl, zs_go (s := { s with heap := h' }) z' hg0 fun h'' k0 hk0 z'' sb => ?_⟩
    have hT2 : h''.get? s.heap.objs.size = some { cls := .type "tuple", data := .seq #[u, u2] } := (sb.2 _ (Nat.ne_of_gt hzl)).trans hT
    have new : ObjOk X.prog X.w (upd H s.heap.objs.size (.tup [x, y])) h'' s.heap.objs.size (.tup [x, y]) :=
      ⟨by show 2 ≤ sizeLine; decide, [u, u2], .cons ru (.cons ru2 .nil), ⟨_, hT2, rfl, _, rfl⟩⟩
    have I1 : Inv X pins σ (upd H s.heap.objs.size (.tup [x, y])) { s with heap := h'' } :=
      I.turnedNew (t' := s.toks) (ch := [z, TI, TO, i1, i2]) (fun c o hb q => (sb.2 c (fun q' => hb (by simp [q']))).trans (hk c o (fun q' => hb (by simp [q'])) (fun q' => hb (by simp [q'])) (fun q' => hb (by simp [q'])) (fun q' => hb (by simp [q'])) q)) hf (Nat.le_refl _) new
    obtain ⟨a', b', TO'⟩ := TO'
    refine ⟨.ref s.heap.objs.size, _, I1, rfl, ⟨_, x, y, rfl, I.hok.fresh (Nat.le_refl _), rfl, fun l hl => by rw [I.list_inj hl hqx]; exact hx, fun l hl => by rw [I.list_inj hl hqy]; exact hy⟩, ⟨⟨k0, g1, hk0, z''⟩, ?_, ⟨a', b', ?_⟩, ?_, ?_⟩, fun c hcm => ?_⟩
    · exact (sb.2 _ D.TIz).trans (hk _ _ D.TIz D.TITO D.TIi1 D.TIi2 hTI)
    · exact (sb.2 _ D.TOz).trans TO'
    · exact h1'.at fun o q => (sb.2 _ D.i1z).trans q
    · exact h2'.at fun o q => (sb.2 _ D.i2z).trans q
    · obtain ⟨o, ho, _⟩ := stobj c hcm
      rw [upd_ne (Nat.ne_of_lt (Heap.lt_size ho))]
      exact (hf c hcm).1
  done := by
    intro X hP hw hK hc i pins s σ H E I hf st hg
    subst hP hw hK
    obtain ⟨⟨f0, f1, h0, hz⟩, hTI, ⟨x0, y0, hTO⟩, h1, h2⟩ := st
    obtain ⟨xs, ys, hqx, hqy, hex, hey⟩ := hg
    obtain ⟨its, rv, p, _⟩ := I.list hqx
    obtain ⟨its2, rv2, p2, _⟩ := I.list hqy
    have l1 := rv.length
    have l2 := rv2.length
    exact zs_pyNext_end (I.ok.hd hc) D hz h0 hTI hTO h1 h2 p.isList p2.isList (by simp; omega) (by simp; omega) fun h' hk => ⟨rfl, I.turnedL (t' := s.toks) (ch := [z, TI, TO, i1, i2]) (fun c o hb q => hk c o (fun q' => hb (by simp [q'])) (fun q' => hb (by simp [q'])) (fun q' => hb (by simp [q'])) (fun q' => hb (by simp [q'])) q) hf⟩
  self := fun A i s Q E st h => by
    obtain ⟨⟨f0, f1, _, hz⟩, _⟩ := st
    exact zs_iter hz h
def iZs (K : PySem.W.Frag) (ta : TA) : TI := fun σ H R => ta σ H fun vs H1 => ∃ a b xs ys, vs = [.ref a, .ref b] ∧ SqL K H1 a xs ∧ SqL K H1 b ys ∧ R (Itzs K a b) H1
section
variable {X : Cx} {e e2 : Expr} {ta : TA} {p pos tpos kp cp : Pos} {elts : List Expr} {kk ck : Nat}
theorem pi_zs (hg : Gl X "zip") (hm : X.mg "zip" = none) (ha : PA X [e, e2] ta)
    (hks : (backToKw pos (keywordEach [⟨some (Str.ofString "strict"), .Constant (.bool true) ck cp, kp⟩] X.env)).filterMap (·.1) = [Str.ofString "strict"] := by rfl)
    (he : backTo pos (starEach [e, e2] X.env) = (false, eval e X.env) :: backTo pos (starEach [e2] X.env) := by rfl) (hpl : (backTo pos (starEach [e, e2] X.env)).any (·.1) = false := by rfl) :
    PI X (.Tuple elts kk tpos) (.Call (.Name "zip" p) [e, e2] [⟨some (Str.ofString "strict"), .Constant (.bool true) ck cp, kp⟩] pos) (iZs X.K ta) := by
  refine ⟨fun pins s σ H R I h => ?_⟩
  have hk : PK X [⟨some (Str.ofString "strict"), .Constant (.bool true) ck cp, kp⟩] (tCons (tC (.bl true)) tNil) := pk_cons pe_bl pk_nil
  refine wpAny_Call_Name_kw (ld_blt I hg hm PyProof.Rows.boot_zip ?_)
  refine callWith_typeK (thn (ha.run pos pins s σ H _ I h) fun us s1 ⟨vs, H1, I1, r1, q1⟩ => thn (hk.run pos pins s1 σ H1 (fun zs H' => zs = [.bl true] ∧ H' = H1) I1 ⟨rfl, rfl⟩) fun ws s2 ⟨zs, H2, I2, r2, q2⟩ => ?_) he hpl
  rw [hks]
  obtain ⟨rfl, rfl⟩ := q2
  obtain ⟨w1, rfl, e1⟩ := vals1 r2
  obtain rfl : w1 = Value.bool true := e1
  obtain ⟨a, b, xs, ys, ex, hqx, hqy, q⟩ := q1
  subst ex
  obtain ⟨u1, u2, rfl, ru1, ru2⟩ := vals2 r1
  cases ru1
  cases ru2
  obtain ⟨its, rv, p1, _⟩ := I2.list hqx
  obtain ⟨its2, rv2, p2, _⟩ := I2.list hqy
  have la : a < s2.heap.objs.size := p1.lt
  have lb : b < s2.heap.objs.size := p2.lt
  refine call_zip_strict p1.isList p2.isList fun h' hz hTI hTO h1 h2 hsz hk => zs_iter hz ?_
  have I3 : Inv X pins σ H2 { s2 with heap := h' } := I2.kept (t' := s2.toks) hk
  refine ⟨s2.heap.objs.size + 4, [s2.heap.objs.size + 4, s2.heap.objs.size + 2, s2.heap.objs.size + 3, s2.heap.objs.size, s2.heap.objs.size + 1], _, _, H2, rfl, I3, turn_zs (PySem.W.ktu_apart s2.heap.objs.size a b la lb), ⟨⟨_, _, .inl rfl, hz⟩, hTI, ⟨_, _, hTO⟩, h1, h2⟩, fun c hcm => ?_, q⟩
  have e' : c = s2.heap.objs.size + 4 ∨ c = s2.heap.objs.size + 2 ∨ c = s2.heap.objs.size + 3 ∨ c = s2.heap.objs.size ∨ c = s2.heap.objs.size + 1 := by simpa using hcm
  have hle : s2.heap.objs.size ≤ c := by
    rcases e' with z | z | z | z | z <;> rw [z] <;> first | exact Nat.le_add_right _ _ | exact Nat.le_refl _
  exact I2.fpOk hle (I2.hok.fresh hle)
end
end K83
set_option maxRecDepth 100000
set_option maxHeartbeats 4000000
namespace K83
open PySem PySem.Spec PyProof.Rows L2
section
variable {prog : Program} {w : World} {A : Around} {E : Value → Shared → Prop} {s : Shared}
theorem zs_enum_next {e z TI TO i1 i2 l1 l2 : Addr} {i : Nat} {c : Int} {xs ys : Array Value} {x y old : Value} {Q : Value → Shared → Prop} (D : ZipApart z TI TO i1 i2 l1 l2)
    (he : IsEnum s.heap e z c old) (st : ZSt z TI TO i1 i2 l1 l2 i s.heap) (hl1 : s.heap.IsList l1 xs) (hl2 : s.heap.IsList l2 ys) (hx : xs[i]? = some x) (hy : ys[i]? = some y) (hef : e ∉ [z, TI, TO, i1, i2])
    (hQ : ∀ h' tk, IsEnumOut h' e z (c + 1) (.ref s.heap.objs.size) (s.heap.objs.size + 1) → ZSt z TI TO i1 i2 l1 l2 (i + 1) h' →
      h'.get? s.heap.objs.size = some { cls := .type "tuple", data := .seq #[x, y] } → h'.get? (s.heap.objs.size + 1) = some { cls := .type "tuple", data := .seq #[.int c tk, .ref s.heap.objs.size] } →
      (∀ b o, b ∉ [e, z, TI, TO, i1, i2] → s.heap.get? b = some o → h'.get? b = some o) → Q (.ref (s.heap.objs.size + 1)) { s with heap := h', toks := tk + 1 }) :
    wpAny (model prog w) A (Builtin.«enumerate.__next__» ⟨[.ref e], []⟩) (fun fin s' => ∃ v, fin = .done (.ret v) ∧ Q v s') E s := by
  obtain ⟨hp, g, d, tk₀, os⟩ := s
  have stobj := st.obj
  obtain ⟨⟨f0, f1, h0, hz⟩, hTI, ⟨x0, y0, hTO⟩, h1, h2⟩ := st
  show wpAny _ _ (field (.ref e) 2 >>= _) _ _ _
  refine wpAny_bind (wpAny_field he rfl (x := .ref z) rfl ?_)
  refine wpAny_bind (zs_nextOf_item D hz h0 hTI hTO h1 h2 hl1 hl2 hx hy fun h₁ za => ?_)
  obtain ⟨⟨g0, g1, hg0, z'⟩, TO', h1', h2', hT, hsz, hk⟩ := za
  replace hk : ∀ c o, c ≠ z → c ≠ TO → c ≠ i1 → c ≠ i2 → hp.get? c = some o → h₁.get? c = some o := hk
  replace hsz : h₁.objs.size = hp.objs.size + 1 := hsz
  replace hT : h₁.get? hp.objs.size = some { cls := .type "tuple", data := .seq #[x, y] } := hT
  obtain ⟨a', b', TO'⟩ := TO'
  have st1 : ZSt z TI TO i1 i2 l1 l2 (i + 1) h₁ := ⟨⟨g0, g1, hg0, z'⟩, hk _ _ D.TIz D.TITO D.TIi1 D.TIi2 hTI, ⟨a', b', TO'⟩, h1', h2'⟩
  have n0 : e ≠ z ∧ e ≠ TI ∧ e ≠ TO ∧ e ≠ i1 ∧ e ≠ i2 := by simpa using hef
  have he₁ : IsEnum h₁ e z c old := hk e _ n0.1 n0.2.2.1 n0.2.2.2.1 n0.2.2.2.2 he
  have hel : e < hp.objs.size := Heap.lt_size he
  show wpAny _ _ (field (.ref e) 3 >>= _) _ _ ⟨h₁, g, d, tk₀, os⟩
  refine wpAny_bind (wpAny_field he₁ rfl (x := rawInt c) rfl ?_)
  show wpAny _ _ (field (.ref e) 4 >>= _) _ _ ⟨h₁, g, d, tk₀, os⟩
  refine wpAny_bind (wpAny_field he₁ rfl (x := .none) rfl ?_)
  show wpAny _ _ (mkInt c >>= _) _ _ ⟨h₁, g, d, tk₀, os⟩
  refine wpAny_bind (wpAny_mkInt ?_)
  show wpAny _ _ (setField (.ref e) 3 (rawInt (c + 1)) >>= _) _ _ ⟨h₁, g, d, tk₀ + 1, os⟩
  refine wpAny_bind (wpAny_setField_rec he₁ (by simp) fun h₂ he₂ hs₂ => ?_)
  replace hs₂ : Heap.SameBut e h₁ h₂ := hs₂
  replace he₂ : IsEnum h₂ e z (c + 1) old := he₂
  show wpAny _ _ (setField (.ref e) 4 .none >>= _) _ _ ⟨h₂, g, d, tk₀ + 1, os⟩
  refine wpAny_bind (wpAny_setField_rec he₂ (by simp) fun h₃ he₃ hs₃ => ?_)
  replace hs₃ : Heap.SameBut e h₂ h₃ := hs₃
  replace he₃ : IsEnum h₃ e z (c + 1) old := he₃
  show wpAny _ _ (newTuple [.int c tk₀, .ref hp.objs.size] >>= _) _ _ ⟨h₃, g, d, tk₀ + 1, os⟩
  refine wpAny_bind (wpAny_newTuple ?_)
  have he₄ : IsEnum (h₃.push { cls := .type "tuple", data := .seq #[.int c tk₀, .ref hp.objs.size] }) e z (c + 1) old := Heap.get?_push_of_some _ he₃
  have hsz3 : h₃.objs.size = hp.objs.size + 1 := by rw [hs₃.1, hs₂.1, hsz]
  have ht₄ : (h₃.push { cls := .type "tuple", data := .seq #[.int c tk₀, .ref hp.objs.size] }).get? h₃.objs.size = some { cls := .type "tuple", data := .seq #[.int c tk₀, .ref hp.objs.size] } := Heap.get?_push_size _ rfl
  have up : ∀ b o, b ≠ e → h₁.get? b = some o → (h₃.push { cls := .type "tuple", data := .seq #[.int c tk₀, .ref hp.objs.size] }).get? b = some o := fun b o hbe hb =>
    Heap.get?_push_of_some _ (hs₃.extBut b o hbe (hs₂.extBut b o hbe hb))
  generalize h₃.push { cls := .type "tuple", data := .seq #[.int c tk₀, .ref hp.objs.size] } = h₄ at he₄ ht₄ up
  rw [hsz3] at ht₄
  show wpAny _ _ (Builtin.SmallTypes.ownedTupleIsFree (.ref e) >>= _) _ _ ⟨h₄, g, d, tk₀ + 1, os⟩
  rw [hsz3]
  refine wpAny_bind ?_
  unfold Builtin.SmallTypes.ownedTupleIsFree
  refine wpAny_bind (wpAny_field he₄ rfl (x := .none) rfl (wpAny_pure ?_))
  simp only [if_true]
  refine wpAny_bind (wpAny_rule ?_)
  refine wpAny_bind (wpAny_field he₄ rfl (x := old) rfl ?_)
  refine wpAny_bind (wpAny_setField_rec he₄ (by simp) fun h₅ he₅ hs₅ => ?_)
  replace hs₅ : Heap.SameBut e h₄ h₅ := hs₅
  replace he₅ : IsEnum h₅ e z (c + 1) (.ref hp.objs.size) := he₅
  show wpAny _ _ (Builtin.SmallTypes.ownedTupleHandOut (.ref e) (.ref (hp.objs.size + 1)) >>= _) _ _ ⟨h₅, g, d, tk₀ + 1, os⟩
  refine wpAny_bind ?_
  unfold Builtin.SmallTypes.ownedTupleHandOut
  refine wpAny_bind (wpAny_setField_rec he₅ (by simp) fun h₆ he₆ hs₆ => ?_)
  replace hs₆ : Heap.SameBut e h₅ h₆ := hs₆
  replace he₆ : IsEnumOut h₆ e z (c + 1) (.ref hp.objs.size) (hp.objs.size + 1) := he₆
  refine wpAny_setField_rec he₆ (by simp) fun h₇ he₇ hs₇ => ?_
  replace hs₇ : Heap.SameBut e h₆ h₇ := hs₇
  replace he₇ : IsEnumOut h₇ e z (c + 1) (.ref hp.objs.size) (hp.objs.size + 1) := he₇
  have up' : ∀ b o, b ≠ e → h₄.get? b = some o → h₇.get? b = some o := fun b o hbe hb => hs₇.extBut b o hbe (hs₆.extBut b o hbe (hs₅.extBut b o hbe hb))
  have ne : ∀ b, hp.objs.size ≤ b → b ≠ e := fun b hb => Nat.ne_of_gt (Nat.lt_of_lt_of_le hel hb)
  refine wpAny_bind (wpAny_letGo (wpAny_pure ⟨_, rfl, hQ h₇ tk₀ he₇ ?_ ?_ ?_ ?_⟩))
  · exact st1.keep fun b hb o q => up' b o (fun q' => hef (q' ▸ hb)) (up b o (fun q' => hef (q' ▸ hb)) q)
  · exact up' _ _ (ne _ (Nat.le_refl _)) (up _ _ (ne _ (Nat.le_refl _)) hT)
  · exact up' _ _ (ne _ (Nat.le_add_right _ _)) ht₄
  · intro b o hb q
    have n1 : b ≠ e ∧ b ≠ z ∧ b ≠ TI ∧ b ≠ TO ∧ b ≠ i1 ∧ b ≠ i2 := by simpa using hb
    exact up' _ _ n1.1 (up _ _ n1.1 (hk b o n1.2.1 n1.2.2.2.1 n1.2.2.2.2.1 n1.2.2.2.2.2 q))
theorem zs_enum_item {e z TI TO i1 i2 l1 l2 : Addr} {i : Nat} {c : Int} {xs ys : Array Value} {x y old : Value} {Q : Option Value → Shared → Prop} (D : ZipApart z TI TO i1 i2 l1 l2)
    (he : IsEnum s.heap e z c old) (st : ZSt z TI TO i1 i2 l1 l2 i s.heap) (hl1 : s.heap.IsList l1 xs) (hl2 : s.heap.IsList l2 ys) (hx : xs[i]? = some x) (hy : ys[i]? = some y) (hef : e ∉ [z, TI, TO, i1, i2])
    (hQ : ∀ h' tk, IsEnumOut h' e z (c + 1) (.ref s.heap.objs.size) (s.heap.objs.size + 1) → ZSt z TI TO i1 i2 l1 l2 (i + 1) h' →
      h'.get? s.heap.objs.size = some { cls := .type "tuple", data := .seq #[x, y] } → h'.get? (s.heap.objs.size + 1) = some { cls := .type "tuple", data := .seq #[.int c tk, .ref s.heap.objs.size] } →
      (∀ b o, b ∉ [e, z, TI, TO, i1, i2] → s.heap.get? b = some o → h'.get? b = some o) → Q (some (.ref (s.heap.objs.size + 1))) { s with heap := h', toks := tk + 1 }) :
    wpAny (model prog w) A (pyNext (.ref e)) Q E s := by
  have hT : s.TypeIs (.ref e) "enumerate" := ⟨_, he, rfl⟩
  unfold pyNext
  exact wpAny_bind (wpAny_attempt (wpAny_callSpecial?_slot (name := Str.ofString "__next__") hT PySem.F.slot_enumerate_next
    (wpAny_call_entry PySem.F.slot_enumerate_next hT PySem.F.entry_enumerate_next
      (zs_enum_next D he st hl1 hl2 hx hy hef fun h' tk a b c d k => wpAny_pure (hQ h' tk a b c d k)) (PySem.F.args_enumerate_next_1 _))))
theorem zs_enum_end {e z TI TO i1 i2 l1 l2 : Addr} {k : Nat} {c : Int} {xs ys : Array Value} {old : Value} {Q : Option Value → Shared → Prop} (hh : A.handled = none) (D : ZipApart z TI TO i1 i2 l1 l2)
    (he : IsEnum s.heap e z c old) (st : ZSt z TI TO i1 i2 l1 l2 k s.heap) (hl1 : s.heap.IsList l1 xs) (hl2 : s.heap.IsList l2 ys) (hx : xs[k]? = none) (hy : ys[k]? = none)
    (hQ : ∀ h', (∀ c o, c ≠ z → c ≠ TO → c ≠ i1 → c ≠ i2 → s.heap.get? c = some o → h'.get? c = some o) → Q none { s with heap := h' }) : wpAny (model prog w) A (pyNext (.ref e)) Q E s := by
  have hT : s.TypeIs (.ref e) "enumerate" := ⟨_, he, rfl⟩
  obtain ⟨⟨f0, f1, h0, hz⟩, hTI, ⟨x0, y0, hTO⟩, h1, h2⟩ := st
  unfold pyNext
  refine wpAny_bind (wpAny_attempt (wpAny_callSpecial?_slot (name := Str.ofString "__next__") hT PySem.F.slot_enumerate_next
    (wpAny_call_entry PySem.F.slot_enumerate_next hT PySem.F.entry_enumerate_next ?_ (PySem.F.args_enumerate_next_1 _))))
  show wpAny _ _ (field (.ref e) 2 >>= _) _ _ _
  refine wpAny_bind (wpAny_field he rfl (x := .ref z) rfl ?_)
  refine wpAny_bind (zs_nextOf_end (A := A.in1) hh D hz h0 hTI hTO h1 h2 hl1 hl2 hx hy fun h' x he' hx' => ?_)
  obtain ⟨o, ho, hc⟩ := hx'
  refine wpAny_bind (wpAny_isInstance (T := "StopIteration") (b := true) ⟨o, ho, hc⟩ isSubtype_stop ?_)
  exact wpAny_pure (hQ _ he')
abbrev enumObj (z : Addr) (k : Int) : Obj := { cls := .type "enumerate", data := .fields #[.none, .bool false, .ref z, rawInt k, .none, .none] }
theorem meets_enum_zs (z TI TO : Addr) (f0 : Value) (f1 : Bool) (k : Int) (t : Tok) (hfit : Builtin.SmallTypes.fitsIndex k = true) :
    Meets (Builtin.«enumerate.__new__» ⟨[.type "enumerate", .ref z, .int k t], []⟩) (fun _ R s => ZS s.heap z TI TO f0 f1 ∧
      R (.ok (.ret (.ref s.heap.objs.size))) { s with heap := s.heap.push (enumObj z k) }) :=
  .of_wp fun prog w A R s h => by
    obtain ⟨hp, g, d, tk, os⟩ := s; obtain ⟨h1, h⟩ := h
    have hsub := sub_enumerate
    have hnf : (!Builtin.SmallTypes.fitsIndex k) = false := by rw [hfit]; rfl
    have q1 : ∀ {A' : Around} {E : Value → Shared → Prop} {Q : Value → Shared → Prop}, Q (.ref z) ⟨hp, g, d, tk, os⟩ → wpAny (model prog w) A' (pyIter (.ref z)) Q E ⟨hp, g, d, tk, os⟩ :=
      fun q => zs_iter h1 q
    wp_walk using q1
    refine wpAny_stack_any fun st => wpAny_pure ?_
    split
    · rename_i c _ _ _ _ _
      cases (c == Value.type "enumerate")
      · wp_walk using q1
        exact ⟨_, rfl, h⟩
      · wp_walk using q1
        exact ⟨_, rfl, h⟩
    · wp_walk using q1
      exact ⟨_, rfl, h⟩
theorem call_enum_zs {z TI TO : Addr} {f0 : Value} {f1 : Bool} {k : Int} {t : Tok} {Q : Value → Shared → Prop} (hz : ZS s.heap z TI TO f0 f1) (hk0 : -(2 ^ 63) ≤ k) (hk1 : k < 2 ^ 63)
    (h : IsEnum (s.heap.push (enumObj z k)) s.heap.objs.size z k .none → Q (.ref s.heap.objs.size) { s with heap := s.heap.push (enumObj z k) }) :
    wpAny (model prog w) A (call (.type "enumerate") [.ref z, .int k t]) Q E s := by
  have he : IsEnum (s.heap.push (enumObj z k)) s.heap.objs.size z k .none := Heap.get?_push_size _ rfl
  exact callType_new PySem.F.called_enumerate (by decide) (PySem.F.typeCall_enumerate_2 _ _) (PySem.F.newCall_enumerate_2 _ _) (fun obj => PySem.F.args_object_init_3 obj _ _) PySem.F.entry_enumerate_new
    (meets_enum_zs z TI TO f0 f1 k t (fits_start hk0 hk1)) ⟨hz, ⟨_, he, rfl⟩, h he⟩
end
/-- two lists of one length, each pair a new tuple, counted from c -/
def Itez (K : PySem.W.Frag) (a b : Addr) (c : Int) : It :=
  ⟨fun i H => ∃ (xs ys : List V) (x y : V), SqL K H a xs ∧ SqL K H b ys ∧ xs[i]? = some x ∧ ys[i]? = some y,
    fun i H v H' => ∃ T T2 x y, v = .ref T2 ∧ H T = none ∧ H T2 = none ∧ T ≠ T2 ∧ H' = upd (upd H T (.tup [x, y])) T2 (.tup [.int (c + (i : Nat)), .ref T]) ∧ (∀ xs, SqL K H a xs → xs[i]? = some x) ∧ ∀ ys, SqL K H b ys → ys[i]? = some y,
    fun i H => ∃ xs ys : List V, SqL K H a xs ∧ SqL K H b ys ∧ xs.length ≤ i ∧ ys.length ≤ i⟩
theorem turn_ez {P : Program} {w : World} {K : PySem.W.Frag} {elts : List Expr} {kk : Nat} {tpos : Pos} {a b e z TI TO i1 i2 : Addr} {c : Int} (D : ZipApart z TI TO i1 i2 a b) (hef : e ∉ [z, TI, TO, i1, i2]) :
    Turn P w K (.Tuple elts kk tpos) (Itez K a b c) [e, z, TI, TO, i1, i2] e (fun i h => (∃ old, IsEnum h e z (c + ((i : Nat) : Int)) old) ∧ ZSt z TI TO i1 i2 a b i h) where
  mem := by simp
  obj := fun i h st b hb => by
    obtain ⟨⟨old, he⟩, st⟩ := st
    rcases List.mem_cons.mp hb with q | q
    · rw [q]; exact ⟨_, he, fun v q => nomatch q⟩
    · exact st.obj b q
  keep := fun i h h' st k => let ⟨⟨old, he⟩, st⟩ := st; ⟨⟨old, k e (by simp) _ he⟩, st.keep fun b hb o q => k b (List.mem_cons_of_mem _ hb) o q⟩
  item := by
    intro X hP hw hK hc i pins s σ H E I hf st hg
    subst hP hw hK
    obtain ⟨⟨old, he⟩, st⟩ := st
    obtain ⟨xs, ys, x, y, hqx, hqy, hx, hy⟩ := hg
    obtain ⟨its, rv, p, _⟩ := I.list hqx
    obtain ⟨its2, rv2, p2, _⟩ := I.list hqy
    obtain ⟨u, hu, ru⟩ := rv.get hx
    obtain ⟨u2, hu2, ru2⟩ := rv2.get hy
    have hel : e < s.heap.objs.size := Heap.lt_size he
    have hlt : ∀ q ∈ [e, z, TI, TO, i1, i2], q < s.heap.objs.size := fun q hq => by
      rcases List.mem_cons.mp hq with w | w
      · rw [w]; exact hel
      · obtain ⟨o, ho, _⟩ := st.obj q w
        exact Heap.lt_size ho
    refine zs_enum_item D he st p.isList p2.isList (x := u) (y := u2) (by simpa using hu) (by simpa using hu2) hef fun h' tk ho st' hT hT2 hk => ?_
    refine ⟨_, rfl, wpAny_letOwnedTupleGo_enum (s := { s with heap := h', toks := tk + 1 }) ho fun h'' he' sb => ?_⟩
    have gT : h''.get? s.heap.objs.size = some { cls := .type "tuple", data := .seq #[u, u2] } := (sb.2 _ (Nat.ne_of_gt hel)).trans hT
    have gT2 : h''.get? (s.heap.objs.size + 1) = some { cls := .type "tuple", data := .seq #[.int (c + (i : Nat)) tk, .ref s.heap.objs.size] } := (sb.2 _ (Nat.ne_of_gt (Nat.lt_succ_of_lt hel))).trans hT2
    have kk : ∀ b ob, b ∉ [e, z, TI, TO, i1, i2] → s.heap.get? b = some ob → h''.get? b = some ob := fun b ob hb q => (sb.2 b (fun z => hb (by simp [z]))).trans (hk b ob hb q)
    have n1 : H s.heap.objs.size = none := I.hok.fresh (Nat.le_refl _)
    have n2 : H (s.heap.objs.size + 1) = none := I.hok.fresh (Nat.le_add_right _ _)
    have nn : (s.heap.objs.size : Addr) ≠ s.heap.objs.size + 1 := (Nat.succ_ne_self _).symm
    let mid := s.heap.push { cls := .type "tuple", data := .seq #[u, u2] }
    have gm : mid.get? s.heap.objs.size = some { cls := .type "tuple", data := .seq #[u, u2] } := Heap.get?_push_size _ rfl
    have new1 : ObjOk X.prog X.w (upd H s.heap.objs.size (.tup [x, y])) mid s.heap.objs.size (.tup [x, y]) :=
      ⟨by show 2 ≤ sizeLine; decide, [u, u2], .cons ru (.cons ru2 .nil), ⟨_, gm, rfl, _, rfl⟩⟩
    have I1 : Inv X pins σ (upd H s.heap.objs.size (.tup [x, y])) { s with heap := mid } :=
      I.turnedNew (t' := s.toks) (ch := []) (fun b ob _ q => Heap.get?_push_of_some _ q) (fun b hb => nomatch hb) (Nat.le_refl _) new1
    have new2 : ObjOk X.prog X.w (upd (upd H s.heap.objs.size (.tup [x, y])) (s.heap.objs.size + 1) (.tup [.int (c + (i : Nat)), .ref s.heap.objs.size])) h'' (s.heap.objs.size + 1) (.tup [.int (c + (i : Nat)), .ref s.heap.objs.size]) :=
      ⟨by show 2 ≤ sizeLine; decide, [.int (c + (i : Nat)) tk, .ref s.heap.objs.size], .cons ⟨_, rfl⟩ (.cons rfl .nil), ⟨_, gT2, rfl, _, rfl⟩⟩
    have km : ∀ b ob, b ∉ [e, z, TI, TO, i1, i2] → mid.get? b = some ob → h''.get? b = some ob := fun b ob hb q => by
      by_cases hN : b = s.heap.objs.size
      · rw [hN] at q ⊢
        rw [gm] at q
        rw [gT]; exact q
      · refine kk b ob hb ?_
        rcases Heap.get?_push_cases q with w | w
        · exact absurd w.1 hN
        · exact w
    have f2 : ∀ b ∈ [e, z, TI, TO, i1, i2], FpOk X pins (upd H s.heap.objs.size (.tup [x, y])) b := fun b hb =>
      ⟨by rw [upd_ne (Nat.ne_of_lt (hlt b hb))]; exact (hf b hb).1, (hf b hb).2⟩
    have hms : mid.objs.size = s.heap.objs.size + 1 := Heap.size_push ..
    have I2 : Inv X pins σ (upd (upd H s.heap.objs.size (.tup [x, y])) (s.heap.objs.size + 1) (.tup [.int (c + (i : Nat)), .ref s.heap.objs.size])) { s with heap := h'', toks := tk + 1 } :=
      I1.turnedNew (t' := tk + 1) (ch := [e, z, TI, TO, i1, i2]) km f2 (by show mid.objs.size ≤ _; rw [hms]; exact Nat.le_refl _) new2
    refine ⟨.ref (s.heap.objs.size + 1), _, I2, rfl, ⟨_, _, x, y, rfl, n1, n2, nn, rfl, fun l hl => by rw [I.list_inj hl hqx]; exact hx, fun l hl => by rw [I.list_inj hl hqy]; exact hy⟩, ⟨⟨.ref s.heap.objs.size, ?_⟩, st'.keep fun b hb o q => (sb.2 b (fun z => hef (z ▸ hb))).trans q⟩, fun b hb => ?_⟩
    · have e1 : c + ((i + 1 : Nat) : Int) = c + (i : Int) + 1 := by omega
      rw [e1]; exact he'
    · rw [upd_ne (Nat.ne_of_lt (Nat.lt_succ_of_lt (hlt b hb))), upd_ne (Nat.ne_of_lt (hlt b hb))]
      exact (hf b hb).1
  done := by
    intro X hP hw hK hc i pins s σ H E I hf st hg
    subst hP hw hK
    obtain ⟨⟨old, he⟩, st⟩ := st
    obtain ⟨xs, ys, hqx, hqy, hex, hey⟩ := hg
    obtain ⟨its, rv, p, _⟩ := I.list hqx
    obtain ⟨its2, rv2, p2, _⟩ := I.list hqy
    have l1 := rv.length
    have l2 := rv2.length
    exact zs_enum_end (I.ok.hd hc) D he st p.isList p2.isList (by simp; omega) (by simp; omega) fun h' hk => ⟨rfl, I.turnedL (t' := s.toks) (ch := [e, z, TI, TO, i1, i2]) (fun c o hb q => hk c o (fun q' => hb (by simp [q'])) (fun q' => hb (by simp [q'])) (fun q' => hb (by simp [q'])) (fun q' => hb (by simp [q'])) q) hf⟩
  self := fun A i s Q E st h => let ⟨⟨_, he⟩, _⟩ := st; wpAny_pyIter_enum he h
def iEzs (K : PySem.W.Frag) (ta : TA) (tb : TE) : TI := fun σ H R => ta σ H fun vs H1 => ∃ a b xs ys, vs = [.ref a, .ref b] ∧ SqL K H1 a xs ∧ SqL K H1 b ys ∧ tb σ H1 fun v H2 => ∃ c : Int, v = .int c ∧ -(2 ^ 63) ≤ c ∧ c < 2 ^ 63 ∧ R (Itez K a b c) H2
section
variable {X : Cx} {e e2 eb : Expr} {ta : TA} {tb : TE} {p pos zp zpos tpos kp cp : Pos} {elts : List Expr} {kk ck : Nat}
theorem pi_ezs (hg1 : Gl X "enumerate") (hm1 : X.mg "enumerate" = none) (hg : Gl X "zip") (hm : X.mg "zip" = none) (ha : PA X [e, e2] ta) (hb : PE X eb tb)
    (hks : (backToKw zpos (keywordEach [⟨some (Str.ofString "strict"), .Constant (.bool true) ck cp, kp⟩] X.env)).filterMap (·.1) = [Str.ofString "strict"] := by rfl)
    (he : backTo zpos (starEach [e, e2] X.env) = (false, eval e X.env) :: backTo zpos (starEach [e2] X.env) := by rfl) (hpl : (backTo zpos (starEach [e, e2] X.env)).any (·.1) = false := by rfl)
    (hs : starEach ((.Call (.Name "zip" zp) [e, e2] [⟨some (Str.ofString "strict"), .Constant (.bool true) ck cp, kp⟩] zpos) :: [eb]) X.env = (false, eval (.Call (.Name "zip" zp) [e, e2] [⟨some (Str.ofString "strict"), .Constant (.bool true) ck cp, kp⟩] zpos) X.env) :: starEach [eb] X.env := by rfl)
    (hpl2 : (backTo pos (starEach [eb] X.env)).any (·.1) = false := by rfl)
    (hs2 : backTo pos (starEach [(.Call (.Name "zip" zp) [e, e2] [⟨some (Str.ofString "strict"), .Constant (.bool true) ck cp, kp⟩] zpos), eb] X.env) = [(false, eval (.Call (.Name "zip" zp) [e, e2] [⟨some (Str.ofString "strict"), .Constant (.bool true) ck cp, kp⟩] zpos) X.env), (false, eval eb X.env)] := by rfl) :
    PI X (.Tuple elts kk tpos) (.Call (.Name "enumerate" p) [(.Call (.Name "zip" zp) [e, e2] [⟨some (Str.ofString "strict"), .Constant (.bool true) ck cp, kp⟩] zpos), eb] [] pos) (iEzs X.K ta tb) := by
  refine ⟨fun pins s σ H R I h => ?_⟩
  refine Call_ (ld_blt I hg1 hm1 boot_enumerate (PyProof.Rows.callWith_type1 ?_ hs hpl2))
  rw [hs2]
  refine PySem.Calls.spliced_cons ?_
  have hk : PK X [⟨some (Str.ofString "strict"), .Constant (.bool true) ck cp, kp⟩] (tCons (tC (.bl true)) tNil) := pk_cons pe_bl pk_nil
  refine wpAny_Call_Name_kw (ld_blt I hg hm PyProof.Rows.boot_zip ?_)
  refine callWith_typeK (thn (ha.run zpos pins s σ H _ I h) fun us s1 ⟨vs, H1, I1, r1, q1⟩ => thn (hk.run zpos pins s1 σ H1 (fun zs H' => zs = [.bl true] ∧ H' = H1) I1 ⟨rfl, rfl⟩) fun ws s2 ⟨zs, H2, I2, r2, q2⟩ => ?_) he hpl
  rw [hks]
  obtain ⟨rfl, rfl⟩ := q2
  obtain ⟨w1, rfl, e1⟩ := vals1 r2
  obtain rfl : w1 = Value.bool true := e1
  obtain ⟨a, b, xs, ys, ex, hqx, hqy, q⟩ := q1
  subst ex
  obtain ⟨u1, u2, rfl, ru1, ru2⟩ := vals2 r1
  cases ru1
  cases ru2
  obtain ⟨its, rv, p1, _⟩ := I2.list hqx
  obtain ⟨its2, rv2, p2, _⟩ := I2.list hqy
  have la : a < s2.heap.objs.size := p1.lt
  have lb : b < s2.heap.objs.size := p2.lt
  refine call_zip_strict p1.isList p2.isList fun h' hz hTI hTO h1 h2 hsz hk => ?_
  have I3 : Inv X pins σ H2 { s2 with heap := h' } := I2.kept (t' := s2.toks) hk
  have D := PySem.W.ktu_apart s2.heap.objs.size a b la lb
  have Z : ZSt (s2.heap.objs.size + 4) (s2.heap.objs.size + 2) (s2.heap.objs.size + 3) s2.heap.objs.size (s2.heap.objs.size + 1) a b 0 h' := ⟨⟨_, _, .inl rfl, hz⟩, hTI, ⟨_, _, hTO⟩, h1, h2⟩
  have f3 : ∀ c ∈ [s2.heap.objs.size + 4, s2.heap.objs.size + 2, s2.heap.objs.size + 3, s2.heap.objs.size, s2.heap.objs.size + 1], FpOk X pins H2 c := fun c hcm => by
    have e' : c = s2.heap.objs.size + 4 ∨ c = s2.heap.objs.size + 2 ∨ c = s2.heap.objs.size + 3 ∨ c = s2.heap.objs.size ∨ c = s2.heap.objs.size + 1 := by simpa using hcm
    have hle : s2.heap.objs.size ≤ c := by
      rcases e' with z | z | z | z | z <;> rw [z] <;> first | exact Nat.le_add_right _ _ | exact Nat.le_refl _
    exact I2.fpOk hle (I2.hok.fresh hle)
  have I4 := I3.pinned f3 Z.obj
  refine PySem.Calls.spliced_cons (thn (hb.run _ { s2 with heap := h' } σ H2 _ I4 q) fun u s4 ⟨v, H4, I5, r5, q5⟩ => PySem.Calls.spliced_nil ?_)
  obtain ⟨c, ev, hc0, hc1, q6⟩ := q5
  subst ev
  obtain ⟨t, rfl⟩ := r5
  have still : ∀ x ∈ [s2.heap.objs.size + 4, s2.heap.objs.size + 2, s2.heap.objs.size + 3, s2.heap.objs.size, s2.heap.objs.size + 1], ∀ o, h'.get? x = some o → s4.heap.get? x = some o ∧ H4 x = none := fun x hx o ho => by
    have w := I5.pin (x, o) (List.mem_append_right _ (List.mem_append_right _ (mem_pinsAt hx ho)))
    exact ⟨w.1, w.2.1⟩
  have Z4 : ZSt (s2.heap.objs.size + 4) (s2.heap.objs.size + 2) (s2.heap.objs.size + 3) s2.heap.objs.size (s2.heap.objs.size + 1) a b 0 s4.heap := Z.keep fun x hx o ho => (still x hx o ho).1
  have Z4' := Z4
  obtain ⟨⟨f0, f1, h0, hz4⟩, _⟩ := Z4'
  have I6 : Inv X pins σ H4 s4 := I5.unpinned
  refine call_enum_zs hz4 hc0 hc1 fun he6 => wpAny_pyIter_enum he6 ?_
  have I7 : Inv X pins σ H4 { s4 with heap := s4.heap.push (enumObj (s2.heap.objs.size + 4) c) } := I6.kept (t' := s4.toks) fun b ob q => Heap.get?_push_of_some _ q
  have hzl : ∀ x ∈ [s2.heap.objs.size + 4, s2.heap.objs.size + 2, s2.heap.objs.size + 3, s2.heap.objs.size, s2.heap.objs.size + 1], x < s4.heap.objs.size := fun x hx => by
    obtain ⟨o, ho, _⟩ := Z4.obj x hx
    exact Heap.lt_size ho
  refine ⟨s4.heap.objs.size, s4.heap.objs.size :: [s2.heap.objs.size + 4, s2.heap.objs.size + 2, s2.heap.objs.size + 3, s2.heap.objs.size, s2.heap.objs.size + 1], _, _, H4, rfl, I7, turn_ez D (fun hx => absurd (hzl _ hx) (Nat.lt_irrefl _)), ⟨⟨_, by simpa using he6⟩, Z4.keep fun x _ o ho => Heap.get?_push_of_some _ ho⟩, fun x hx => ?_, q6⟩
  rcases List.mem_cons.mp hx with e | hx
  · rw [e]
    exact I6.fpOk (Nat.le_refl _) (I6.hok.fresh (Nat.le_refl _))
  · obtain ⟨o, ho, _⟩ := Z.obj x hx
    exact ⟨(still x hx o ho).2, (f3 x hx).2⟩
end
end K83
set_option maxRecDepth 100000
set_option maxHeartbeats 4000000
namespace K83
open PySem PySem.Spec PyProof.Rows L2
section
variable {P : Program} {w : World} {K : Type} [DecidableEq K]
/-- two entries are of two keys -/
def Df (kd : KeyKind P w K) (e f : Int × Value) : Prop := ∀ k, ¬ (kd.is k e.2 = true ∧ kd.is k f.2 = true)
/-- the set of keys at a: S its members; its table rises and can be walked -/
def SetG (kd : KeyKind P w K) (h : Heap) (a : Addr) (S : K → Bool) (n : Nat) : Prop :=
  ∃ o es ep t, h.get? a = some o ∧ o.ExactSet ∧ o.data = .set es ep t ∧ ElemsOf kd es.toList ∧ es.toList.Pairwise (Df kd) ∧ (∀ k, S k = true ↔ ∃ e ∈ es.toList, kd.is k e.2 = true) ∧
    es.size < scanBound ∧ t.fits es.size = true ∧ es.size = n ∧ Ris t.place.toList ∧ (w.params.followText "set-order" = true ∨ t.led = true)
variable {kd : KeyKind P w K} {h h' : Heap} {a : Addr} {S : K → Bool} {n : Nat}
theorem Df.symm {e f : Int × Value} (d : Df kd e f) : Df kd f e := fun k z => d k ⟨z.2, z.1⟩
theorem SetG.at (R : SetG kd h a S n) (k : ∀ o, h.get? a = some o → h'.get? a = some o) : SetG kd h' a S n := by
  obtain ⟨o, es, ep, t, ho, r⟩ := R
  exact ⟨o, es, ep, t, k o ho, r⟩
theorem SetG.congr {S' : K → Bool} (R : SetG kd h a S n) (e : ∀ k, S' k = S k) : SetG kd h a S' n := by
  have q : S' = S := funext e
  rw [q]; exact R
end
section
variable {P : Program} {w : World} {K : Type} [DecidableEq K] {kd : KeyKind P w K} {A : Around} {E : Value → Shared → Prop} {s : Shared} {a : Addr} {S : K → Bool} {n : Nat}
theorem setG_tail {g : Bool → Sem Unit} (hg : ∀ (b : Bool) (s₁ : Shared) (Q' : Unit → Shared → Prop), Q' () s₁ → wpAny (model P w) A (g b) Q' E s₁)
    {o : Obj} {es : Array (Int × Value)} {ep : Nat} {t : SetTable} (ho : s.heap.get? a = some o) (hex : o.ExactSet) (hd : o.data = .set es ep t)
    {es1 : Array (Int × Value)} {t2 : SetTable} {S' : K → Bool} (g1 : ElemsOf kd es1.toList) (nd1 : es1.toList.Pairwise (Df kd)) (m1 : ∀ k, S' k = true ↔ ∃ e ∈ es1.toList, kd.is k e.2 = true)
    (hb1 : es1.size < scanBound) (hf2 : t2.fits es1.size = true) (hr : Ris t2.place.toList) (hl : w.params.followText "set-order" = true ∨ t2.led = true) {wasDummy : Bool} {R : Option Bool → Shared → Prop}
    (hR : ∀ h', Heap.SameBut a s.heap h' → SetG kd h' a S' es1.size → R (some true) { s with heap := h' }) :
    wpAny (model P w) A (do
        storeSet a es1 t2
        if (!wasDummy && t2.tooFull) = true then do
            g (relayAll t2 es1 (SetTable.grown es1.size)).2.2
            storeSet a (relayAll t2 es1 (SetTable.grown es1.size)).1 (relayAll t2 es1 (SetTable.grown es1.size)).2.1
            pure (some true)
          else pure (some true)) R E s := by
  refine wpAny_bind (wpAny_storeSet_of ho hd ?_ (fits_of_scanBound hb1))
  have ho1 := store_at (es' := es1) (t' := t2) ho hd
  have sb1 := Heap.SameBut.update s.heap a (Obj.putSet es1 t2)
  split
  · have pm := relayAll_perm t2 es1 (SetTable.grown es1.size)
    have hf3 := relayAll_fits t2 es1 (SetTable.grown es1.size)
    have hr3 := relayAll_ris t2 es1 (SetTable.grown es1.size)
    have hl3 := relayAll_led t2 es1 (SetTable.grown es1.size)
    generalize relayAll t2 es1 (SetTable.grown es1.size) = Z at pm hf3 hr3 hl3 ⊢
    obtain ⟨es2, t3, gave⟩ := Z
    dsimp only at pm hf3 hr3 hl3 ⊢
    have hsz : es2.size = es1.size := by rw [← Array.length_toList, pm.length_eq, Array.length_toList]
    have hb2 : es2.size < scanBound := by rw [hsz]; exact hb1
    refine wpAny_bind (hg _ _ _ ?_)
    refine wpAny_bind (wpAny_storeSet_of ho1 rfl ?_ (fits_of_scanBound hb2))
    have ho2 := store_at (es' := es2) (t' := t3) ho1 rfl
    refine wpAny_pure (hR _ (sb1.trans (Heap.SameBut.update _ a _)) ?_)
    exact ⟨_, es2, _, t3, ho2, hex, rfl, fun e he => g1 e (pm.mem_iff.mp he), (pm.pairwise_iff fun {_ _} z => z.symm).mpr nd1, fun k => (m1 k).trans ⟨fun ⟨e, he, z⟩ => ⟨e, pm.mem_iff.mpr he, z⟩, fun ⟨e, he, z⟩ => ⟨e, pm.mem_iff.mp he, z⟩⟩, hb2, hf3, hsz, hr3,
      hl.imp id fun z => by rw [hl3]; exact z⟩
  · exact wpAny_pure (hR _ sb1 ⟨_, es1, _, t2, ho1, hex, rfl, g1, nd1, m1, hb1, hf2, rfl, hr, hl⟩)
theorem setG_add {k : K} {u : Value} {Q : Bool → Shared → Prop} (R : SetG kd s.heap a S n) (hkey : kd.is k u = true) (hsc : u.scannable = true) (room : n + 1 < scanBound)
    (hQ : ∀ h', Heap.SameBut a s.heap h' → SetG kd h' a (fun j => S j || decide (j = k)) (if S k = true then n else n + 1) → Q (!S k) { s with heap := h' }) :
    wpAny (model P w) A (setAddHashed a u (kd.hash k)) Q E s := by
  obtain ⟨o, es, ep, t, ho, hex, hd, hel, nd, hm, hb, hf, hn, hr, hl⟩ := R
  unfold setAddHashed setAddHashedIn
  refine wpAny_holding (wpAny_bind (wpAny_setState_of ho hd hf ?_))
  dsimp only
  rw [byScan_of hsc hb hel]
  simp only [↓reduceIte]
  unfold setAddByScan
  refine wpAny_bind ?_
  refine wpAny_bind (wpAny_rule ?_)
  refine wpAny_bind (wpAny_setScan_of hkey ho hd hf hel ?_)
  cases hfi : List.findIdx? (fun e => kd.is k e.2) es.toList with
  | some j =>
    dsimp only
    obtain ⟨hj, pj, _⟩ := List.findIdx?_eq_some_iff_getElem.mp hfi
    have hSk : S k = true := (hm k).2 ⟨es.toList[j], List.getElem_mem hj, pj⟩
    refine wpAny_pure (wpAny_pure ?_)
    have q := hQ s.heap (Heap.SameBut.refl a s.heap) ⟨o, es, ep, t, ho, hex, hd, hel, nd, fun i => by
      rw [Bool.or_eq_true, decide_eq_true_eq, ← hm i]
      exact ⟨fun z => z.elim id (fun e => e ▸ hSk), .inl⟩, hb, hf, by rw [if_pos hSk]; exact hn, hr, hl⟩
    rw [hSk] at q
    exact q
  | none =>
    dsimp only
    have hnk : ∀ e ∈ es.toList, ¬ kd.is k e.2 = true := fun e he q => by
      have c := List.findIdx?_eq_none_iff.mp hfi e he
      rw [q] at c
      cases c
    have hSk : S k = false := by
      cases q : S k with
      | false => rfl
      | true =>
        obtain ⟨e, he, z⟩ := (hm k).1 q
        exact absurd z (hnk e he)
    have hgw : ∀ (b : Bool) {s₁ : Shared} {Q' : Unit → Shared → Prop}, Q' () s₁ → wpAny (model P w) A (match b with | true => rule "set.scan.the-table-gave-way" | false => pure ()) Q' E s₁ :=
      fun b s₁ Q' q => by cases b <;> first | exact wpAny_pure q | exact wpAny_rule q
    have pm := layNew_perm t es (kd.hash k) u
    have hf1 := layNew_fits t es (kd.hash k) u
    have hr1 := layNew_ris t es (kd.hash k) u hr
    have hl1 := layNew_led t es (kd.hash k) u
    generalize layNew t es (kd.hash k) u = Z at pm hf1 hr1 hl1 ⊢
    obtain ⟨es1, t1, wasDummy, gave⟩ := Z
    dsimp only at pm hf1 hr1 hl1 ⊢
    rw [Array.toList_push] at pm
    have pc : es1.toList.Perm ((kd.hash k, u) :: es.toList) := pm.trans (List.perm_append_singleton _ _)
    have g1 : ElemsOf kd es1.toList := fun e he => by
      rcases List.mem_cons.mp (pc.mem_iff.mp he) with z | z
      · rw [z]; exact ⟨⟨k, hkey, rfl⟩, hsc⟩
      · exact hel e z
    have nd1 : es1.toList.Pairwise (Df kd) := (pc.pairwise_iff fun {_ _} z => z.symm).mpr (List.pairwise_cons.mpr ⟨fun f hf' j z => by
      have e1 := kd.inj _ _ _ z.1 hkey
      rw [e1] at z
      exact hnk f hf' z.2, nd⟩)
    have m1 : ∀ i, (S i || decide (i = k)) = true ↔ ∃ e ∈ es1.toList, kd.is i e.2 = true := fun i => by
      rw [Bool.or_eq_true, decide_eq_true_eq, hm i]
      constructor
      · rintro (⟨e, he, z⟩ | z)
        · exact ⟨e, pc.mem_iff.mpr (List.mem_cons_of_mem _ he), z⟩
        · exact ⟨_, pc.mem_iff.mpr List.mem_cons_self, z ▸ hkey⟩
      · rintro ⟨e, he, z⟩
        rcases List.mem_cons.mp (pc.mem_iff.mp he) with y | y
        · rw [y] at z
          exact .inr (kd.inj _ _ _ z hkey)
        · exact .inl ⟨e, y, z⟩
    have hsz : es1.size = n + 1 := by rw [← Array.length_toList, pc.length_eq, List.length_cons, Array.length_toList, hn]
    have hb1 : es1.size < scanBound := by rw [hsz]; exact room
    have hled : w.params.followText "set-order" = true ∨ t1.led = true := hl.imp id fun z => by rw [hl1]; exact z
    have fin : ∀ h', Heap.SameBut a s.heap h' → SetG kd h' a (fun j => S j || decide (j = k)) es1.size → Q true { s with heap := h' } := fun h' sb r => by
      have q := hQ h' sb
      rw [hSk] at q
      rw [hsz] at r
      exact q r
    refine wpAny_bind (hgw _ ?_)
    split
    · refine wpAny_bind ?_
      rw [hashByValue_scannable 8 hsc]
      refine wpAny_pure ?_
      refine setG_tail ?_ ho hex hd g1 nd1 m1 hb1 ?_ ?_ ?_ ?_
      · intro b s₁ Q' q; cases b <;> first | exact wpAny_pure q | exact wpAny_rule q
      · first | (split <;> first | exact hf1 | exact SetTable.fits_plain_off hf1) | exact hf1
      · first | (split <;> exact hr1) | exact hr1
      · first | (split <;> exact hled) | exact hled
      · intro h' sb r; dsimp only; exact wpAny_pure (fin h' sb r)
    · refine wpAny_bind (wpAny_pure ?_)
      simp only [↓reduceIte]
      refine setG_tail ?_ ho hex hd g1 nd1 m1 hb1 hf1 hr1 hled ?_
      · intro b s₁ Q' q; cases b <;> first | exact wpAny_pure q | exact wpAny_rule q
      · intro h' sb r; dsimp only; exact wpAny_pure (fin h' sb r)
end
end K83
set_option maxRecDepth 100000
set_option maxHeartbeats 4000000
namespace K83
open PySem PySem.Spec PyProof.Rows L2
theorem setG_new_at {P : Program} {w : World} {K : Type} [DecidableEq K] {kd : KeyKind P w K} {h : Heap} {a : Addr} {ns : List K} (ho : h.get? a = some { cls := .type "set", dict := none, data := .set #[] 0 (.fresh 0 0 (!w.params.followText "set-order")) }) : SetG kd h a (fun j => decide (j ∈ ns.take 0)) 0 :=
  ⟨_, #[], 0, _, ho, ⟨rfl, rfl, rfl⟩, rfl, (fun e he => by simp at he), (by simp), (fun k => by simp), (by decide), (by rfl), rfl, List.Pairwise.nil, by
    show _ ∨ (!w.params.followText "set-order") = true
    cases w.params.followText "set-order"
    · exact .inr rfl
    · exact .inl rfl⟩
section
variable {P : Program} {w : World} {K : Type} [DecidableEq K] {kd : KeyKind P w K} {A : Around} {E : Value → Shared → Prop} {s : Shared}
theorem setG_loop (hscan : ∀ k u, kd.is k u = true → u.scannable = true) {I : Addr} {fp wr : List Addr} {G : Array GenState → Array GenState → Prop} {n : Nat} {Pv : Nat → Value → Prop} {St : Nat → Shared → Prop} {R : Result → Shared → Prop}
    (W : WalksS P w A.in1 I fp wr G n Pv St) (S : Addr) (hSf : S ∉ fp) (ns : List K) (hn : n = ns.length) (hb : ns.length + 1 < scanBound) (hval : ∀ i v, Pv i v → ∃ k, ns[i]? = some k ∧ kd.is k v = true) :
    ∀ (k i : Nat) (s : Shared), n - i = k → i ≤ n → St i s → (∃ c, c ≤ i ∧ SetG kd s.heap S (fun j => decide (j ∈ ns.take i)) c) →
      (∀ s' c, Moved (S :: wr) G s s' → c ≤ n → SetG kd s'.heap S (fun j => decide (j ∈ ns)) c → R (.ok (.ret .none)) s') →
      codeAny (model P w) A (.builtin "set.update.loop" ⟨[.ref S, .ref I], []⟩) R s := by
  have hSw : S ∉ wr := fun h => hSf (W.sub _ h)
  have hsub : ∀ b ∈ wr, b ∈ S :: wr := fun b hb => List.mem_cons_of_mem _ hb
  intro k
  induction k with
  | zero =>
    intro i s hk' hi hst ⟨c, hc, hS⟩ hR
    have hin : i = n := by omega
    subst hin
    refine codeAny_builtin PyProof.Rows.F.entry_set_update_loop ?_
    rw [Around.under_plainId PyProof.Rows.F.plain_set_update_loop _]
    show wpAny _ A.in1 (pyNext (.ref I) >>= _) _ _ s
    refine wpAny_bind (W.done s _ _ hst fun s' hm => ?_)
    show wpAny _ A.in1 (ret Value.none) _ _ s'
    have e : ns.take i = ns := List.take_of_length_le (by omega)
    rw [e] at hS
    exact wpAny_pure (hR s' c (hm.mono hsub) hc (hS.at fun o e => hm.heap S o hSw e))
  | succ k ih =>
    intro i s hk' hi hst ⟨c, hc, hS⟩ hR
    have hlt : i < n := by omega
    refine codeAny_builtin PyProof.Rows.F.entry_set_update_loop ?_
    rw [Around.under_plainId PyProof.Rows.F.plain_set_update_loop _]
    show wpAny _ A.in1 (pyNext (.ref I) >>= _) _ _ s
    refine wpAny_bind (W.item i s _ _ hlt hst fun v s' hP hst' hm => ?_)
    obtain ⟨z, hz, hkey⟩ := hval i v hP
    have hS' : SetG kd s'.heap S (fun j => decide (j ∈ ns.take i)) c := hS.at fun o e => hm.heap S o hSw e
    show wpAny _ A.in1 (holding [v] (setAdd S v) >>= _) _ _ s'
    refine wpAny_bind (wpAny_holding ?_)
    unfold setAdd
    refine wpAny_holding ?_
    refine wpAny_bind (kd.pyHash hkey ?_)
    refine setG_add (s := { s' with toks := s'.toks + 1 }) hS' hkey (hscan _ _ hkey) (by omega) fun h' hsb hS2 => ?_
    have hS3 : SetG kd h' S (fun j => decide (j ∈ ns.take (i + 1))) (if decide (z ∈ ns.take i) = true then c else c + 1) := hS2.congr fun j => by
      rw [List.take_add_one, hz]
      simp [List.mem_append]
    have hc3 : (if decide (z ∈ ns.take i) = true then c else c + 1) ≤ i + 1 := by
      split <;> omega
    refine wpAny_pure ⟨plainId_quiet PyProof.Rows.F.plain_set_update_loop _, ih (i + 1) _ (by omega) hlt (W.frame _ s' _ _ hst' (Nat.le_succ _) fun b hb o e => ?_) ⟨_, hc3, hS3⟩ fun s'' c2 hm'' hc'' hS'' => ?_⟩
    · rw [hsb.2 b (fun h : b = S => hSf (by rw [← h]; exact hb))]; exact e
    · refine hR s'' c2 (Moved.trans W.gtrans ((hm.mono hsub).then_heap (Nat.le_succ _) fun b o hb e => ?_) hm'') hc'' hS''
      rw [hsb.2 b (fun h : b = S => hb (by rw [h]; exact List.mem_cons_self))]; exact e
set_option maxRecDepth 100000 in
set_option maxHeartbeats 3200000 in
theorem call_setG (hscan : ∀ k u, kd.is k u = true → u.scannable = true) {l : Addr} {items : Array Value} (ns : List K) {Q : Value → Shared → Prop} (hh : A.handled = none) (hl : s.heap.IsList l items) (hisz : items.size = ns.length) (hval : ∀ (i : Nat) (v : Value), items[i]? = some v → ∃ k, ns[i]? = some k ∧ kd.is k v = true) (hb : ns.length + 1 < scanBound)
    (h : ∀ (h' : Heap) (tk c : Nat), SetG kd h' s.heap.objs.size (fun j => decide (j ∈ ns)) c → c ≤ ns.length → (∀ b o, s.heap.get? b = some o → h'.get? b = some o) → Q (.ref s.heap.objs.size) { s with heap := h', toks := tk }) :
    wpAny (model P w) A (call (.type "set") [.ref l]) Q E s := by
  obtain ⟨c, tl, hmro⟩ := PySem.F.called_set.mro
  have hmade := PySem.F.called_set.made
  have hsub := PySem.F.called_set.sub
  refine wpAny_call (codeAny_of_tree ?_)
  show wpAny _ _ (callAny (.type "set") _) _ _ _
  refine wpAny_pure ⟨Code.quiet_builtin _ (by decide +kernel), codeAny_builtin PySem.F.entry_type_call ?_⟩
  rw [Around.under_plain (weight_type_call_type "set" [.ref l] []) rfl]
  have h1 := PySem.F.called_set.notType
  have h2 := PySem.F.called_set.canCreate
  have hct := PySem.F.typeCall_set_1 (.ref l)
  repeat (any_goals (first | assumption | wp_step))

  refine codeAny_mono (code_set_led1 (.ref l) (E := E) (Q₁ := fun obj s₁ => obj = .ref s.heap.objs.size ∧ s₁ = { s with heap := s.heap.push { cls := .type "set", dict := none, data := .set #[] 0 (.fresh 0 0 (!w.params.followText "set-order")) } }) ⟨rfl, rfl⟩) fun r s₁ hr => ?_
  cases r with
  | error e => exact hr
  | ok fl =>
    cases fl with
    | ret obj =>
      obtain ⟨rfl, rfl⟩ := hr
      have hS : (s.heap.push { cls := .type "set", dict := none, data := .set #[] 0 (.fresh 0 0 (!w.params.followText "set-order")) }).get? s.heap.objs.size = some { cls := .type "set", dict := none, data := .set #[] 0 (.fresh 0 0 (!w.params.followText "set-order")) } := Heap.get?_push_size _ rfl
      have hT : Shared.TypeIs { s with heap := s.heap.push { cls := .type "set", dict := none, data := .set #[] 0 (.fresh 0 0 (!w.params.followText "set-order")) } } (.ref s.heap.objs.size) "set" := ⟨_, hS, rfl⟩
      have hli := PySem.F.called_set.init.lookup
      have hbi := PySem.F.called_set.init.bind (.ref s.heap.objs.size)
      repeat (any_goals (first | assumption | wp_step))

      refine codeAny_mono (codeAny_call_builtin (R := wants (fun r s₂ => r = .none ∧ ∃ h' tk c, s₂ = { s with heap := h', toks := tk } ∧ SetG kd h' s.heap.objs.size (fun j => decide (j ∈ ns)) c ∧ c ≤ ns.length ∧
          (∀ b o, s.heap.get? b = some o → h'.get? b = some o)) E) PySem.F.called_set.init.plain PySem.F.entry_set_init (check_set_init_1 hT ?_)) fun r₂ s₂ hr₂ => ?_
      · obtain ⟨ol, hol, hcl, nl, hdl⟩ := hl
        obtain ⟨ocls, odict, odata, oslots⟩ := ol
        simp only at hcl hdl
        subst hcl; subst hdl
        have hol' : (s.heap.push { cls := .type "set", dict := none, data := .set #[] 0 (.fresh 0 0 (!w.params.followText "set-order")) }).get? l = some { cls := .type "list", dict := odict, data := .seq items nl, slots := oslots } := Heap.get?_push_of_some _ hol
        have hsls := PySem.F.sub_list_set
        have hslf := PySem.F.sub_list_frozenset
        have hne : (Value.type "list" == Value.type "dict") = false := by decide
        have hl1 : (s.heap.push { cls := .type "set", dict := none, data := .set #[] 0 (.fresh 0 0 (!w.params.followText "set-order")) }).IsList l items := ⟨_, hol', rfl, nl, rfl⟩
        unfold Builtin.«set.__init__» noKeywords Builtin.Frozenset.updateFrom
        generalize hPI : pyIter = PI
        wp_walk
        subst hPI

        refine wpAny_pyIter_list hl1 ?_
        refine wpAny_bind (wpAny_runValue ?_)
        have hlS : l < s.heap.objs.size := Heap.lt_size hol
        have hh3 : A.in1.in1.in1.handled = none := by simp [hh]
        have hz1 : (s.heap.push { cls := .type "set", dict := none, data := .set #[] 0 (.fresh 0 0 (!w.params.followText "set-order")) }).objs.size = s.heap.objs.size + 1 := Heap.size_push ..
        have hneI : l ≠ (s.heap.push { cls := .type "set", dict := none, data := .set #[] 0 (.fresh 0 0 (!w.params.followText "set-order")) }).objs.size := by
          rw [Heap.size_push]; exact Nat.ne_of_lt (Nat.lt_succ_of_lt hlS)
        have hSf : s.heap.objs.size ∉ [(s.heap.push { cls := .type "set", dict := none, data := .set #[] 0 (.fresh 0 0 (!w.params.followText "set-order")) }).objs.size, l] := by
          rw [Heap.size_push]; simp only [List.mem_cons, List.mem_singleton, List.not_mem_nil, or_false, not_or]
          exact ⟨Nat.ne_of_lt (Nat.lt_succ_self _), Nat.ne_of_gt hlS⟩
        refine setG_loop hscan ((Walks.list hh3 _ l hneI items).toS) s.heap.objs.size
          hSf ns hisz hb hval (items.size - 0) 0 _ (by omega) (Nat.zero_le _)
          ⟨⟨_, Heap.get?_push_size _ rfl, rfl, rfl⟩, (hl1.push _)⟩ ?hS0 ?hR
        case hS0 =>
          have hget : ((s.heap.push { cls := .type "set", dict := none, data := .set #[] 0 (.fresh 0 0 (!w.params.followText "set-order")) }).push { cls := .type "list_iterator", data := .fields #[.ref l, .int 0 0] }).get? s.heap.objs.size
              = some { cls := .type "set", dict := none, data := .set #[] 0 (.fresh 0 0 (!w.params.followText "set-order")) } := Heap.get?_push_of_some _ hS
          exact ⟨0, Nat.le_refl 0, setG_new_at hget⟩
        case hR =>
          intro s' c' hm hc' hS'
          obtain ⟨h', g2, d', tk', os'⟩ := s'
          have eg : g2 = s.gens := hm.gens
          have ed : d' = s.drawn := hm.drawn
          have eo : os' = s.os := hm.os
          subst eg; subst ed; subst eo
          show wpAny _ _ _ _ _ _
          refine wpAny_pure ?_
          show wpAny _ _ (ret Value.none) _ _ _
          rw [hisz] at hc'
          refine wpAny_pure ⟨rfl, h', tk', c', rfl, hS', hc', fun b o e => ?_⟩
          have hb0 : b < s.heap.objs.size := Heap.lt_size e
          have hb1 : b ≠ s.heap.objs.size := Nat.ne_of_lt hb0
          have hb2 : b ≠ (s.heap.push { cls := .type "set", dict := none, data := .set #[] 0 (.fresh 0 0 (!w.params.followText "set-order")) }).objs.size := by
            rw [Heap.size_push]; exact Nat.ne_of_lt (Nat.lt_succ_of_lt hb0)
          exact hm.heap b o (by simp only [List.mem_cons, List.mem_singleton, List.not_mem_nil, or_false, not_or]; exact ⟨hb1, hb2⟩) (Heap.get?_push_of_some _ (Heap.get?_push_of_some _ e))

      · cases r₂ with
        | error e => exact hr₂
        | ok fl₂ =>
          cases fl₂ with
          | ret r =>
            obtain ⟨rfl, h', tk, c', rfl, hS', hc', hk'⟩ := hr₂
            repeat (any_goals (first | assumption | wp_step))
            exact h _ _ _ hS' hc' hk'
          | _ => exact hr₂.elim
    | _ => exact hr.elim
end
end K83
set_option maxRecDepth 100000
set_option maxHeartbeats 4000000
namespace K83
open PySem PySem.Spec PyProof.Rows L2
/-- a short list without doubles -/
theorem nodup_len {α : Type} [DecidableEq α] : ∀ (l D : List α), l.Nodup → (∀ x ∈ l, x ∈ D) → l.length ≤ D.length
  | [], _, _, _ => Nat.zero_le _
  | x :: l, D, h, m => by
    obtain ⟨h1, h2⟩ := List.nodup_cons.mp h
    have q := nodup_len l (D.erase x) h2 fun y hy => (List.mem_erase_of_ne (fun (e : y = x) => h1 (e ▸ hy))).mpr (m y (List.mem_cons_of_mem _ hy))
    rw [List.length_erase_of_mem (m x List.mem_cons_self)] at q
    have p : 0 < D.length := List.length_pos_of_mem (m x List.mem_cons_self)
    rw [List.length_cons]
    omega
section
variable {P : Program} {w : World} {h : Heap} {a : Addr}
theorem str_scan {k : Str} {u : Value} (h : (PySem.strKind P w).is k u = true) : u.scannable = true := by
  obtain ⟨t, rfl⟩ := Value.isStrOf_shape h
  rfl
theorem int_scan {k : Int} {u : Value} (h : (intKind P w).is k u = true) : u.scannable = true := by
  obtain ⟨t, rfl⟩ := Value.isInt_shape h
  rfl
/-- the keys of the entries -/
theorem keys_of {K : Type} [DecidableEq K] {kd : KeyKind P w K} : ∀ {l : List (Int × Value)}, ElemsOf kd l → l.Pairwise (Df kd) → ∃ ks : List K, Paired (fun k (e : Int × Value) => kd.is k e.2 = true) ks l ∧ ks.Nodup
  | [], _, _ => ⟨[], .nil, List.nodup_nil⟩
  | e :: l, h, d => by
    obtain ⟨⟨⟨k, hk, _⟩, _⟩, ht⟩ := And.intro h.head h.tail
    obtain ⟨d1, d2⟩ := List.pairwise_cons.mp d
    obtain ⟨ks, p, nd⟩ := keys_of ht d2
    refine ⟨k :: ks, .cons hk p, List.nodup_cons.mpr ⟨fun hm => ?_, nd⟩⟩
    obtain ⟨i, hi⟩ := List.mem_iff_getElem?.mp hm
    have : ∀ {ks : List K} {l : List (Int × Value)} {i : Nat}, Paired (fun k (e : Int × Value) => kd.is k e.2 = true) ks l → ks[i]? = some k → ∃ f ∈ l, kd.is k f.2 = true := fun {ks l i} p => by
      induction p generalizing i with
      | nil => intro z; simp at z
      | cons h1 _ ih =>
        intro z
        cases i with
        | zero => cases z; exact ⟨_, List.mem_cons_self, h1⟩
        | succ i =>
          obtain ⟨f, hf, w⟩ := ih (i := i) (by simpa using z)
          exact ⟨f, List.mem_cons_of_mem _ hf, w⟩
    obtain ⟨f, hf, z⟩ := this p hi
    exact d1 f hf k ⟨hk, z⟩
theorem paired_mem {K : Type} [DecidableEq K] {kd : KeyKind P w K} {ks : List K} {l : List (Int × Value)} (p : Paired (fun k (e : Int × Value) => kd.is k e.2 = true) ks l) (k : K) : k ∈ ks ↔ ∃ e ∈ l, kd.is k e.2 = true := by
  induction p with
  | nil => simp
  | cons h1 _ ih =>
    rw [List.mem_cons, ih]
    constructor
    · rintro (z | ⟨e, he, z⟩)
      · exact ⟨_, List.mem_cons_self, z ▸ h1⟩
      · exact ⟨e, List.mem_cons_of_mem _ he, z⟩
    · rintro ⟨e, he, z⟩
      rcases List.mem_cons.mp he with y | y
      · rw [y] at z; exact .inl (kd.inj _ _ _ z h1)
      · exact .inr ⟨e, y, z⟩
theorem ints_map : ∀ {ks : List Int} {l : List (Int × Value)}, Paired (fun k (e : Int × Value) => (intKind P w).is k e.2 = true) ks l → l.map keyOf = ks
  | _, _, .nil => rfl
  | _, _, .cons (a := k) (b := e) h t => by
    obtain ⟨tk, q⟩ := Value.isInt_shape h
    rw [List.map_cons, ints_map t]
    show (match e.2 with | .int k _ => k | _ => 0) :: _ = _
    rw [q]
theorem strs_map : ∀ {ks : List Str} {l : List (Int × Value)}, Paired (fun k (e : Int × Value) => (PySem.strKind P w).is k e.2 = true) ks l → StrsAre (l.map (·.2)) ks
  | _, _, .nil => .nil
  | _, _, .cons (a := k) (b := e) h t => by
    obtain ⟨tk, q⟩ := Value.isStrOf_shape h
    rw [List.map_cons, q]
    exact .cons _ _ (strs_map t)
theorem SetG.setR {S : Int → Bool} {n : Nat} (R : SetG (intKind P w) h a S n) : SetR w h a S n := by
  obtain ⟨o, es, ep, t, ho, hex, hd, hel, nd, hm, hb, hf, hn, hr, hl⟩ := R
  obtain ⟨ks, p, nk⟩ := keys_of hel nd
  have e := ints_map p
  refine ⟨o, es, ep, t, ho, hex, hd, fun f hf' => ?_, by rw [e]; exact nk, fun k => by rw [e, paired_mem p, hm], hb, hf, hn, hr, hl⟩
  obtain ⟨⟨k, hk, hh⟩, _⟩ := hel f hf'
  obtain ⟨tk, q⟩ := Value.isInt_shape hk
  exact ⟨k, tk, q, hh⟩
theorem SetR.count {S : Int → Bool} {n : Nat} (R : SetR w h a S n) {D : List Int} (hD : ∀ k, S k = true → k ∈ D) : n ≤ D.length := by
  obtain ⟨o, es, ep, t, ho, hex, hd, hel, nd, hm, hb, hf, hn, _⟩ := R
  have q := nodup_len _ D nd fun k hk => hD k ((hm k).2 hk)
  rw [List.length_map, Array.length_toList] at q
  omega
end
section
variable {X : Cx}
/-- set(xs) of a list of ints -/
def rSetI (K : PySem.W.Frag) (w : World) : List V → Hp → VK → Prop := fun vs H Q => ∃ (l : Addr) (ks : List Int), vs = [V.ref l] ∧ SqL K H l (ks.map V.int) ∧ ks.length + 1 < scanBound ∧
  ∀ p n, (∀ D : List Int, (∀ k ∈ ks, k ∈ D) → n ≤ D.length) → H p = none → Q (.ref p) (upd H p (SetO w p (fun j => decide (j ∈ ks)) n))
theorem cr_setI (hc : X.calm = true) : CallR X (.type "set") (rSetI X.K X.w) := by
  intro pins s σ H vs us Q I r h
  obtain ⟨l, ks, rfl, hs, hb, q⟩ := h
  rw [Vals.ref1 r]
  obtain ⟨its, rv, hl, _⟩ := I.list hs
  have hlen := rv.length
  rw [List.length_map] at hlen
  have hi := rv.ints
  refine call_setG (kd := intKind X.prog X.w) (fun k u => int_scan) ks (I.ok.hd hc) hl.isList (by simp [hlen]) (fun i v hv => ?_) hb fun h' tk c R hle kp => ?_
  · have hv' : its[i]? = some v := by simpa using hv
    have hi' : i < ks.length := by rw [hlen]; exact (List.getElem?_eq_some_iff.mp hv').1
    obtain ⟨t, e⟩ := PyProof.Rows.IntsAre.int_at hi i v hv'
    refine ⟨ks[i], List.getElem?_eq_getElem hi', ?_⟩
    rw [e, List.getD_eq_getElem?_getD, List.getElem?_eq_getElem hi']
    exact intKind_is _ _ _ _
  · have R' := R.setR
    exact ⟨.ref _, upd H s.heap.objs.size (SetO X.w s.heap.objs.size (fun j => decide (j ∈ ks)) c), I.laid (t' := tk) (fun b u e => kp b u e) (Nat.le_refl _) (setO_new R'), rfl,
      q _ c (fun D hD => SetR.count R' fun k hk => hD k (by simpa using hk)) (I.hok.fresh (Nat.le_refl _))⟩
/-- the set of texts at a -/
def SetT (P : Program) (w : World) (a : Addr) (S : Str → Bool) (n : Nat) : HO := .ext fun h => SetG (PySem.strKind P w) h a S n
theorem setT_new {P : Program} {w : World} {H : Hp} {h : Heap} {a : Addr} {S : Str → Bool} {n : Nat} (R : SetG (PySem.strKind P w) h a S n) : ObjOk P w H h a (SetT P w a S n) := by
  have ⟨o, _, _, _, ho, _⟩ := R
  exact ⟨R, ⟨o, ho⟩, fun h1 h2 p k => SetG.at p k⟩
theorem setT_get {pins : List (Addr × Obj)} {σ : L2.St} {H : Hp} {s : Shared} {a : Addr} {S : Str → Bool} {n : Nat} (I : Inv X pins σ H s) (ha : H a = some (SetT X.prog X.w a S n)) : SetG (PySem.strKind X.prog X.w) s.heap a S n := (I.hok a _ ha).1
/-- set(xs) of a list of texts -/
def rSetS (K : PySem.W.Frag) (P : Program) (w : World) : List V → Hp → VK → Prop := fun vs H Q => ∃ (l : Addr) (ks : List Str), vs = [V.ref l] ∧ SqL K H l (ks.map V.str) ∧ ks.length + 1 < scanBound ∧
  ∀ p n, n ≤ ks.length → H p = none → Q (.ref p) (upd H p (SetT P w p (fun j => decide (j ∈ ks)) n))
theorem cr_setS (hc : X.calm = true) : CallR X (.type "set") (rSetS X.K X.prog X.w) := by
  intro pins s σ H vs us Q I r h
  obtain ⟨l, ks, rfl, hs, hb, q⟩ := h
  rw [Vals.ref1 r]
  obtain ⟨its, rv, hl, _⟩ := I.list hs
  have hlen := rv.length
  rw [List.length_map] at hlen
  refine call_setG (kd := PySem.strKind X.prog X.w) (fun k u => str_scan) ks (I.ok.hd hc) hl.isList (by simp [hlen]) (fun i v hv => ?_) hb fun h' tk c R hle kp => ?_
  · have hv' : its[i]? = some v := by simpa using hv
    have hi' : i < ks.length := by rw [hlen]; exact (List.getElem?_eq_some_iff.mp hv').1
    obtain ⟨u, hu, ru⟩ := rv.get (i := i) (x := V.str ks[i]) (by rw [List.getElem?_map, List.getElem?_eq_getElem hi']; rfl)
    rw [hv'] at hu
    cases hu
    obtain ⟨t, rfl⟩ := ru
    refine ⟨ks[i], List.getElem?_eq_getElem hi', ?_⟩
    show (ks[i] == ks[i]) = true
    exact beq_self_eq_true _
  · exact ⟨.ref _, upd H s.heap.objs.size (SetT X.prog X.w s.heap.objs.size (fun j => decide (j ∈ ks)) c), I.laid (t' := tk) (fun b u e => kp b u e) (Nat.le_refl _) (setT_new R), rfl, q _ c hle (I.hok.fresh (Nat.le_refl _))⟩
theorem sorted_setT {P : Program} {w : World} {A : Around} {E : Value → Shared → Prop} {s : Shared} {a : Addr} {S : Str → Bool} {n : Nat} {Q : Value → Shared → Prop} (R : SetG (PySem.strKind P w) s.heap a S n) (hh : A.handled = none)
    (hQ : ∀ s' p (out : Array Value) (c : Nat) (ns : List Str), (∀ b o, s.heap.get? b = some o → s'.heap.get? b = some o) → s'.gens = s.gens → s'.os = s.os → s.heap.objs.size ≤ p →
      s'.heap.get? p = some (seqObj "list" out c) → StrsAre out.toList ns → ns.Nodup → (∀ k, k ∈ ns ↔ S k = true) → ns.length = n → Q (.ref p) s') :
    wpAny (model P w) A (call (.builtin "sorted") [.ref a]) Q E s := by
  obtain ⟨o, es, ep, t, ho, hex, hd, g, nd, hm, hb, hf, hn, hr, hl⟩ := R
  obtain ⟨ks, pp, nk⟩ := keys_of g nd
  have S0 := strs_map pp
  have scl : scanBound ≤ sizeLine := by rw [sizeLine_eq]; decide
  refine Calls.call_function_entry kind_sorted plain_sorted entry_sorted (args_sorted1 _) ?_
  unfold Builtin.«sorted»
  refine wpAny_bind (m := checkCount "sorted" 1 1 _) (wpAny_pure ?_)
  refine wpAny_bind (collect_set (A := A.in1) hh ⟨o, ho, hex.1, hd⟩ hf hb hr hl fun s1 vs k1 hz g1 o1 pm => ?_)
  have hvl : vs.length = n := by rw [pm.length_eq, List.length_map, Array.length_toList]; exact hn
  have hvS : ∃ ss, StrsAre vs ss ∧ ss.Perm ks := by
    have hall : ∀ v ∈ vs, ∃ x t, v = Value.str x t := fun v hv => S0.all v (pm.mem_iff.mp hv)
    refine ⟨vs.map strOf, strsAre_map vs hall, ?_⟩
    have q := pm.map strOf
    rw [S0.strs] at q
    exact q
  obtain ⟨ss, hS, pss⟩ := hvS
  have hvz : vs.length ≤ sizeLine := by rw [hvl, ← hn]; exact fits_of_scanBound hb
  refine wpAny_bind (wpAny_newList ?_ hvz)
  have hoL : (s1.heap.push (seqObj "list" vs.toArray 0)).get? s1.heap.objs.size = some (seqObj "list" vs.toArray 0) := Heap.get?_push_size _ rfl
  refine wpAny_bind (wpAny_holding (wpAny_call_entry slot_list_sort ⟨_, hoL, rfl⟩ entry_list_sort (list_sort_treeKSt strKind_oneLt hoL hS.keysOf (fun v₁ v₂ rest e => keyKind_strs (by rw [← e]; exact hS)) hvz fun st' hp hs _ => ⟨_, rfl, ?_⟩) (args_list_sort _)))
  obtain ⟨ss', a1, a2, a3⟩ := sorted_out_str hS hp hs
  obtain ⟨c, hc⟩ := sortedHeap_at (vs := vs) (out := (arrOf st').map (·.2)) hoL
  have pn : ss'.Perm ks := a2.trans pss
  refine wpAny_pure ⟨_, rfl, hQ _ s1.heap.objs.size _ c ss' (fun b u e => ?_) g1 o1 hz hc a1 (pn.nodup_iff.mpr nk) (fun k => by rw [pn.mem_iff, paired_mem pp, hm k]) ?_⟩
  · have q := k1 b u e
    have hlt := Heap.lt_size q
    show (sortedHeap (s1.heap.push (seqObj "list" vs.toArray 0)) s1.heap.objs.size vs _).get? b = some u
    rw [sortedHeap_old (Nat.ne_of_lt hlt) (by rw [size_push']; exact Nat.lt_succ_of_lt hlt)]
    exact Heap.get?_push_of_some _ q
  · have := pp.length
    rw [pn.length_eq, this, Array.length_toList]; exact hn
/-- sorted(found), a set of texts -/
def rSortedT (P : Program) (w : World) : List V → Hp → VK → Prop := fun vs H Q => ∃ (a : Addr) (S : Str → Bool) (n : Nat), vs = [V.ref a] ∧ H a = some (SetT P w a S n) ∧ n < 64 ∧
  ∀ (ns : List Str) (p : Addr), ns.Nodup → (∀ k, k ∈ ns ↔ S k = true) → H p = none → Q (.ref p) (upd H p (.lst (ns.map V.str)))
theorem cr_sortedT (hc : X.calm = true) : CallR X (.builtin "sorted") (rSortedT X.prog X.w) := by
  intro pins s σ H vs us Q I r h
  obtain ⟨a, S, n, rfl, ha, h64, q⟩ := h
  have R := setT_get I ha
  rw [Vals.ref1 r]
  refine sorted_setT R (I.ok.hd hc) fun s' p out c ns k g o hp hg hi hs hm hl => ?_
  have hlen : (ns.map V.str).length ≤ sizeLine := by rw [List.length_map, hl, sizeLine_eq]; omega
  have hn : H p = none := I.hok.fresh hp
  have J : Inv X pins σ (upd H p (.lst (ns.map V.str))) { s with heap := s'.heap, gens := s'.gens, drawn := s'.drawn, toks := s'.toks } :=
    I.call (ch := []) (Un.laid k hp hn) (I.hok.laid k hp ⟨hlen, out.toList, c, vals_of_strs hi, hg⟩) (by rw [g]; exact I.bare) (fun _ z => nomatch z)
  have e : s' = { s with heap := s'.heap, gens := s'.gens, drawn := s'.drawn, toks := s'.toks } := by
    cases s'
    cases s
    cases o
    rfl
  rw [e]
  exact ⟨.ref p, _, J, rfl, q ns p hs hm hn⟩
end
end K83
set_option maxRecDepth 100000
set_option maxHeartbeats 4000000
namespace K83
open PySem PySem.Spec PyProof.Rows L2
def topS (i : Nat) : Stmt := PySem.Challenge.pw_potround_k83_whole_a_day_of_all_teams.main.body.getD i (.Pass ⟨0, 0, 0, 0⟩)
/-! ### data without lists -/
mutual
def noList : PyData → Bool
  | .list _ => false
  | .tuple ds => noListAll ds
  | .dict _ => false
  | _ => true
def noListAll : List PyData → Bool
  | [] => true
  | d :: ds => noList d && noListAll ds
end
mutual
theorem Dv.upd {H : Hp} {a : Addr} {o : HO} (ht : ∀ xs, H a ≠ some (.tup xs)) : ∀ {d : PyData} {v : V}, noList d = true → Dv H d v → Dv (upd H a o) d v
  | .none, _, _, h => h
  | .bool _, _, _, h => h
  | .int _, _, _, h => h
  | .str _, _, _, h => h
  | .list ds, v, n, h => by simp [noList] at n
  | .tuple ds, v, n, h => by
    obtain ⟨b, xs, e, hb, hs⟩ := h
    exact ⟨b, xs, e, by rw [upd_ne (fun (z : b = a) => ht xs (z ▸ hb))]; exact hb, DvAll.upd ht (by simpa [noList] using n) hs⟩
  | .dict _, _, _, h => h
theorem DvAll.upd {H : Hp} {a : Addr} {o : HO} (ht : ∀ xs, H a ≠ some (.tup xs)) : ∀ {ds : List PyData} {xs : List V}, noListAll ds = true → DvAll H ds xs → DvAll (upd H a o) ds xs
  | [], _, _, h => h
  | d :: ds, xs, n, h => by
    obtain ⟨x, r, e, h1, h2⟩ := h
    rw [noListAll, Bool.and_eq_true] at n
    exact ⟨x, r, e, Dv.upd ht n.1 h1, DvAll.upd ht n.2 h2⟩
end
mutual
/-- what is no list or tuple may change -/
theorem Dv.updO {H : Hp} {a : Addr} {o : HO} (ht : ∀ xs, H a ≠ some (.tup xs)) (hl : ∀ xs, H a ≠ some (.lst xs)) : ∀ {d : PyData} {v : V}, Dv H d v → Dv (upd H a o) d v
  | .none, _, h => h
  | .bool _, _, h => h
  | .int _, _, h => h
  | .str _, _, h => h
  | .list ds, v, h => by
    obtain ⟨b, xs, e, hb, hs⟩ := h
    exact ⟨b, xs, e, by rw [upd_ne (fun (z : b = a) => hl xs (z ▸ hb))]; exact hb, DvAll.updO ht hl hs⟩
  | .tuple ds, v, h => by
    obtain ⟨b, xs, e, hb, hs⟩ := h
    exact ⟨b, xs, e, by rw [upd_ne (fun (z : b = a) => ht xs (z ▸ hb))]; exact hb, DvAll.updO ht hl hs⟩
  | .dict _, _, h => h
theorem DvAll.updO {H : Hp} {a : Addr} {o : HO} (ht : ∀ xs, H a ≠ some (.tup xs)) (hl : ∀ xs, H a ≠ some (.lst xs)) : ∀ {ds : List PyData} {xs : List V}, DvAll H ds xs → DvAll (upd H a o) ds xs
  | [], _, h => h
  | d :: ds, xs, h => by
    obtain ⟨x, r, e, h1, h2⟩ := h
    exact ⟨x, r, e, Dv.updO ht hl h1, DvAll.updO ht hl h2⟩
end
theorem noLA {α : Type} {f : α → PyData} (h : ∀ t, noList (f t) = true) : ∀ ts : List α, noListAll (ts.map f) = true
  | [] => rfl
  | t :: ts => by
    show (noList (f t) && noListAll (ts.map f)) = true
    rw [h t, noLA h ts]
    rfl
theorem notup_l {H : Hp} {a : Addr} {ys : List V} (h : H a = some (.lst ys)) : ∀ xs, H a ≠ some (.tup xs) := fun xs z => by rw [h] at z; cases z
theorem notup_n {H : Hp} {a : Addr} (h : H a = none) : ∀ xs, H a ≠ some (.tup xs) := fun xs z => by rw [h] at z; cases z
theorem Same.mut {H H' : Hp} {p : Addr} {o : HO} (e : Same H H') (h : H p = none) : Same H (upd H' p o) := fun a u ha => by
  rw [upd_ne (ne_of_none ha h)]
  exact e a u ha
theorem Same.new {H : Hp} {p : Addr} {o : HO} (h : H p = none) : Same H (upd H p o) := Same.mut (Same.refl H) h
theorem Same.new' {H H' : Hp} {p : Addr} {o : HO} (e : Same H H') (h : H' p = none) : Same H (upd H' p o) := e.trans (Same.new h)
/-! ### the data -/
structure Trn where
  t : Int
  col : Str
  b : Int
  e : Int
structure Col where
  name : Str
  charge : Int
  melt : Int
  gathers : Int
structure Wsh where
  one : Str
  other : Str
  hrs : Option Int
structure Pal where
  cs : List Col
  ws : List Wsh
structure Tm where
  name : Str
  col : Str
  first : Int
  last : Int
structure Rw where
  hour : Int
  team : Str
  pot : Int
  num : Int
structure Ofr where
  pot : Int
  num : Int
  b : Int
  e : Int
  g : Int
structure Of3 where
  b : Int
  e : Int
  g : Int
def optI : Option Int → PyData
  | none => .none
  | some i => .int i
def optS : Option Str → PyData
  | none => .none
  | some i => .str i
def vI : Option Int → V
  | none => .non
  | some i => .int i
def vS : Option Str → V
  | none => .non
  | some i => .str i
def trnD (t : Trn) : PyData := .tuple [.int t.t, .str t.col, .int t.b, .int t.e]
def colD (c : Col) : PyData := .tuple [.str c.name, .int c.charge, .int c.melt, .int c.gathers]
def wshD (c : Wsh) : PyData := .tuple [.str c.one, .str c.other, optI c.hrs]
def palD (p : Pal) : PyData := .tuple [.tuple (p.cs.map colD), .tuple (p.ws.map wshD)]
def tmD (t : Tm) : PyData := .tuple [.str t.name, .str t.col, .int t.first, .int t.last]
def rwD (r : Rw) : PyData := .tuple [.int r.hour, .str r.team, .int r.pot, .int r.num]
def ofrD (o : Ofr) : PyData := .tuple [.int o.pot, .int o.num, .int o.b, .int o.e, .int o.g]
def of3D (o : Of3) : PyData := .tuple [.int o.b, .int o.e, .int o.g]
def trnsD (ts : List Trn) : PyData := .list (ts.map trnD)
def potsD (ps : List (List Trn)) : PyData := .list (ps.map trnsD)
def tmsD (ts : List Tm) : PyData := .list (ts.map tmD)
theorem noT (t : Trn) : noList (trnD t) = true := rfl
theorem noC (t : Col) : noList (colD t) = true := rfl
theorem noOI (o : Option Int) : noList (optI o) = true := by cases o <;> rfl
theorem noW (t : Wsh) : noList (wshD t) = true := by
  show (true && (true && (noList (optI t.hrs) && true))) = true
  rw [noOI]
  rfl
theorem noTm (t : Tm) : noList (tmD t) = true := rfl
theorem noRw (t : Rw) : noList (rwD t) = true := rfl
theorem noOfr (t : Ofr) : noList (ofrD t) = true := rfl
theorem noOf3 (t : Of3) : noList (of3D t) = true := rfl
theorem noPal (p : Pal) : noList (palD p) = true := by
  show (noListAll (p.cs.map colD) && (noListAll (p.ws.map wshD) && true)) = true
  rw [noLA noC, noLA noW]
  rfl
section
variable {H : Hp} {v : V}
theorem dv_i {i : Int} (h : Dv H (.int i) v) : v = .int i := h
theorem dv_oi {o : Option Int} (h : Dv H (optI o) v) : v = vI o := by cases o <;> exact h
theorem oi_dv (o : Option Int) : Dv H (optI o) (vI o) := by cases o <;> exact rfl
theorem os_dv (o : Option Str) : Dv H (optS o) (vS o) := by cases o <;> exact rfl
theorem trn_of {t : Trn} (h : Dv H (trnD t) v) : ∃ a, v = .ref a ∧ H a = some (.tup [.int t.t, .str t.col, .int t.b, .int t.e]) := by
  obtain ⟨a, xs, e, ha, x1, r1, rfl, h1, x2, r2, rfl, h2, x3, r3, rfl, h3, x4, r4, rfl, h4, h5⟩ := h
  cases h1; cases h2; cases h3; cases h4; cases h5
  exact ⟨a, e, ha⟩
theorem trn_mk {t : Trn} {a : Addr} (h : H a = some (.tup [.int t.t, .str t.col, .int t.b, .int t.e])) : Dv H (trnD t) (.ref a) :=
  ⟨a, _, rfl, h, _, _, rfl, rfl, _, _, rfl, rfl, _, _, rfl, rfl, _, _, rfl, rfl, rfl⟩
theorem col_of {t : Col} (h : Dv H (colD t) v) : ∃ a, v = .ref a ∧ H a = some (.tup [.str t.name, .int t.charge, .int t.melt, .int t.gathers]) := by
  obtain ⟨a, xs, e, ha, x1, r1, rfl, h1, x2, r2, rfl, h2, x3, r3, rfl, h3, x4, r4, rfl, h4, h5⟩ := h
  cases h1; cases h2; cases h3; cases h4; cases h5
  exact ⟨a, e, ha⟩
theorem col_mk {t : Col} {a : Addr} (h : H a = some (.tup [.str t.name, .int t.charge, .int t.melt, .int t.gathers])) : Dv H (colD t) (.ref a) :=
  ⟨a, _, rfl, h, _, _, rfl, rfl, _, _, rfl, rfl, _, _, rfl, rfl, _, _, rfl, rfl, rfl⟩
theorem wsh_of {t : Wsh} (h : Dv H (wshD t) v) : ∃ a, v = .ref a ∧ H a = some (.tup [.str t.one, .str t.other, vI t.hrs]) := by
  obtain ⟨a, xs, e, ha, x1, r1, rfl, h1, x2, r2, rfl, h2, x3, r3, rfl, h3, h5⟩ := h
  cases h1; cases h2; cases h5
  rw [dv_oi h3] at ha
  exact ⟨a, e, ha⟩
theorem wsh_mk {t : Wsh} {a : Addr} (h : H a = some (.tup [.str t.one, .str t.other, vI t.hrs])) : Dv H (wshD t) (.ref a) :=
  ⟨a, _, rfl, h, _, _, rfl, rfl, _, _, rfl, rfl, _, _, rfl, oi_dv _, rfl⟩
theorem tm_of {t : Tm} (h : Dv H (tmD t) v) : ∃ a, v = .ref a ∧ H a = some (.tup [.str t.name, .str t.col, .int t.first, .int t.last]) := by
  obtain ⟨a, xs, e, ha, x1, r1, rfl, h1, x2, r2, rfl, h2, x3, r3, rfl, h3, x4, r4, rfl, h4, h5⟩ := h
  cases h1; cases h2; cases h3; cases h4; cases h5
  exact ⟨a, e, ha⟩
theorem tm_mk {t : Tm} {a : Addr} (h : H a = some (.tup [.str t.name, .str t.col, .int t.first, .int t.last])) : Dv H (tmD t) (.ref a) :=
  ⟨a, _, rfl, h, _, _, rfl, rfl, _, _, rfl, rfl, _, _, rfl, rfl, _, _, rfl, rfl, rfl⟩
theorem rw_of {t : Rw} (h : Dv H (rwD t) v) : ∃ a, v = .ref a ∧ H a = some (.tup [.int t.hour, .str t.team, .int t.pot, .int t.num]) := by
  obtain ⟨a, xs, e, ha, x1, r1, rfl, h1, x2, r2, rfl, h2, x3, r3, rfl, h3, x4, r4, rfl, h4, h5⟩ := h
  cases h1; cases h2; cases h3; cases h4; cases h5
  exact ⟨a, e, ha⟩
theorem rw_mk {t : Rw} {a : Addr} (h : H a = some (.tup [.int t.hour, .str t.team, .int t.pot, .int t.num])) : Dv H (rwD t) (.ref a) :=
  ⟨a, _, rfl, h, _, _, rfl, rfl, _, _, rfl, rfl, _, _, rfl, rfl, _, _, rfl, rfl, rfl⟩
theorem ofr_of {t : Ofr} (h : Dv H (ofrD t) v) : ∃ a, v = .ref a ∧ H a = some (.tup [.int t.pot, .int t.num, .int t.b, .int t.e, .int t.g]) := by
  obtain ⟨a, xs, e, ha, x1, r1, rfl, h1, x2, r2, rfl, h2, x3, r3, rfl, h3, x4, r4, rfl, h4, x5, r5, rfl, h5, h6⟩ := h
  cases h1; cases h2; cases h3; cases h4; cases h5; cases h6
  exact ⟨a, e, ha⟩
theorem ofr_mk {t : Ofr} {a : Addr} (h : H a = some (.tup [.int t.pot, .int t.num, .int t.b, .int t.e, .int t.g])) : Dv H (ofrD t) (.ref a) :=
  ⟨a, _, rfl, h, _, _, rfl, rfl, _, _, rfl, rfl, _, _, rfl, rfl, _, _, rfl, rfl, _, _, rfl, rfl, rfl⟩
theorem of3_of {t : Of3} (h : Dv H (of3D t) v) : ∃ a, v = .ref a ∧ H a = some (.tup [.int t.b, .int t.e, .int t.g]) := by
  obtain ⟨a, xs, e, ha, x1, r1, rfl, h1, x2, r2, rfl, h2, x3, r3, rfl, h3, h6⟩ := h
  cases h1; cases h2; cases h3; cases h6
  exact ⟨a, e, ha⟩
theorem of3_mk {t : Of3} {a : Addr} (h : H a = some (.tup [.int t.b, .int t.e, .int t.g])) : Dv H (of3D t) (.ref a) :=
  ⟨a, _, rfl, h, _, _, rfl, rfl, _, _, rfl, rfl, _, _, rfl, rfl, rfl⟩
theorem pal_of {p : Pal} (h : Dv H (palD p) v) : ∃ a b c xs ys, v = .ref a ∧ H a = some (.tup [.ref b, .ref c]) ∧ H b = some (.tup xs) ∧ DvAll H (p.cs.map colD) xs ∧ H c = some (.tup ys) ∧ DvAll H (p.ws.map wshD) ys := by
  obtain ⟨a, xs, e, ha, x1, r1, rfl, ⟨b, xs, rfl, hb, hbs⟩, x2, r2, rfl, ⟨c, ys, rfl, hc, hcs⟩, h6⟩ := h
  cases h6
  exact ⟨a, b, c, xs, ys, e, ha, hb, hbs, hc, hcs⟩
theorem pal_mk {p : Pal} {a b c : Addr} {xs ys : List V} (h : H a = some (.tup [.ref b, .ref c])) (hb : H b = some (.tup xs)) (hbs : DvAll H (p.cs.map colD) xs) (hc : H c = some (.tup ys)) (hcs : DvAll H (p.ws.map wshD) ys) : Dv H (palD p) (.ref a) :=
  ⟨a, _, rfl, h, _, _, rfl, ⟨b, xs, rfl, hb, hbs⟩, _, _, rfl, ⟨c, ys, rfl, hc, hcs⟩, rfl⟩
theorem list_of {ds : List PyData} (h : Dv H (.list ds) v) : ∃ a xs, v = .ref a ∧ H a = some (.lst xs) ∧ DvAll H ds xs := h
theorem list_mk {ds : List PyData} {a : Addr} {xs : List V} (h : H a = some (.lst xs)) (hs : DvAll H ds xs) : Dv H (.list ds) (.ref a) := ⟨a, xs, rfl, h, hs⟩
end
/-! ### promises -/
/-- a datum comes back -/
def Rt (d : PyData) (H : Hp) (Q : VK) : Prop := ∀ r H', Same H H' → Dv H' d r → Q r H'
/-- a new list comes back -/
def RtL (ds : List PyData) (H : Hp) (Q : VK) : Prop := ∀ p xs H', H p = none → Same H H' → H' p = some (.lst xs) → DvAll H' ds xs → Q (.ref p) H'
/-- a def of the top -/
structure TD (K : PySem.W.Frag) (mg : Str → Option Value) (x : Str) (st : Stmt) (f : Addr) (fd : FuncData) (ps : List Str) : Prop where
  mg : mg x = some (.ref f)
  fn : Fun K x x st f fd
  binds : Binds K fd ps []
section
variable {X : Cx} {k : Nat} {f : Addr} {fd : FuncData} {ps : List Str} {sp : Sp} {t : TA} {x : Str} {st : Stmt} {p pos : Pos} {e : Expr} {es : List Expr}
theorem pcall (d : TD X.K X.mg x st f fd ps) (G : FnOk X.prog X.w X.K X.mg X.base CX0 k f fd ps sp) (hr : Room k X.A) (hg : Gl X x) (ha : PA X (e :: es) t) (hdb : (x == ("__debug__" : Str)) = false := by decide)
    (he : starEach (e :: es) X.env = (false, eval e X.env) :: starEach es X.env := by rfl) (hpl : (backTo pos (starEach es X.env)).any (·.1) = false := by rfl) : PE X (.Call (.Name x p) (e :: es) [] pos) (tCall sp [] E0 t) :=
  pe_call G hr hg d.mg d.fn.kp d.binds .nil pass0 ha hdb he hpl
end
theorem hu65 {A : Around} {k : Nat} (hr : Room k A) : A.units + 65 < cLine := by have := hr.un; omega
/-- what the sorting rules ask -/
theorem srt_str {X : Cx} {k : Nat} (hr : Room k X.A) : CallR X (.builtin "sorted") (rSortD PyData.str) :=
  cr_sortD PyData.str hr.units (fun _ _ => rfl) (.inr fun _ => ⟨(by intro z; cases z), (by intro _ z; cases z)⟩) (fun _ => by simp [PyData.depth])
theorem srt_row {X : Cx} {k : Nat} (hr : Room k X.A) : CallR X (.builtin "sorted") (rSortD rwD) :=
  cr_sortD rwD hr.units (fun _ _ => rfl) (.inl fun _ => ⟨_, _, rfl⟩) (fun _ => by simp [rwD, PyData.depth, PyData.depthAll])
end K83
set_option maxRecDepth 100000
set_option maxHeartbeats 4000000
namespace K83
open PySem PySem.Spec PyProof.Rows L2
theorem relS (x : Str) (t : Tok) : RelV (.str x) (.str x t) := ⟨_, rfl⟩
theorem relR (a : Addr) : RelV (.ref a) (.ref a) := rfl
/-! ### rules with the written part named -/
section
variable (K : PySem.W.Frag) {X : Cx}
theorem ixL (h : X.K = K := by rfl) : IxR X (rIxL K) := h ▸ ix_list
theorem ixT (h : X.K = K := by rfl) : IxR X (rIxT K) := h ▸ ix_tup
theorem slL (h : X.K = K := by rfl) : SlR X (rSlL K) := h ▸ sl_list
theorem slT (h : X.K = K := by rfl) : SlR X (rSlT K) := h ▸ sl_tup
theorem inS (h : X.K = K := by rfl) : OpR X (compareOp .In) (rIn K false) := h ▸ op_in_seq
theorem ninS (h : X.K = K := by rfl) : OpR X (compareOp .NotIn) (rIn K true) := h ▸ op_notIn_seq
theorem inDt (hu : X.A.units + 65 < cLine) (h : X.K = K := by rfl) : OpR X (compareOp .In) (rInD K) := h ▸ op_inD hu
theorem ninDt (hu : X.A.units + 65 < cLine) (h : X.K = K := by rfl) : OpR X (compareOp .NotIn) (rNotInD K) := h ▸ op_notInD hu
theorem eqDt (hu : X.A.units + 64 < cLine) (h : X.K = K := by rfl) : OpR X (compareOp .Eq) (rEqD K) := h ▸ op_eqD hu
theorem neDt (hu : X.A.units + 64 < cLine) (h : X.K = K := by rfl) : OpR X (compareOp .NotEq) (rNeD K) := h ▸ op_neD hu
theorem catT (h : X.K = K := by rfl) : OpR X (binaryOp .Add) (rCatT K) := h ▸ op_catT
def rLen (K : PySem.W.Frag) : List V → Hp → VK → Prop := fun xs H Q => ∃ p ys, xs = [.ref p] ∧ (SqL K H p ys ∨ SqT K H p ys) ∧ Q (.int ys.length) H
theorem lenS (h : X.K = K := by rfl) : CallR X (.builtin "len") (rLen K) := h ▸ call_len_seq
theorem sumI (hc : X.calm = true := by rfl) (h : X.K = K := by rfl) : CallR X (.builtin "sum") (rSum K) := h ▸ cr_sum hc
theorem allB (hc : X.calm = true := by rfl) (h : X.K = K := by rfl) : CallR X (.builtin "all") (rAll K) := h ▸ cr_all hc
theorem srtI (h : X.K = K := by rfl) : CallR X (.builtin "sorted") (rSortedI K) := h ▸ cr_sortedI
def rTupOf (K : PySem.W.Frag) : List V → Hp → VK → Prop := fun xs H Q => ∃ p ys, xs = [.ref p] ∧ ((SqL K H p ys ∧ ∀ l, H l = none → Q (.ref l) (upd H l (.tup ys))) ∨ (SqT K H p ys ∧ Q (.ref p) H))
theorem tupOf (h : X.K = K := by rfl) : CallR X (.type "tuple") (rTupOf K) := h ▸ call_tuple_of
def rListOf (K : PySem.W.Frag) : List V → Hp → VK → Prop := fun xs H Q => ∃ p ys, xs = [.ref p] ∧ (SqL K H p ys ∨ SqT K H p ys) ∧ ∀ l, H l = none → Q (.ref l) (upd H l (.lst ys))
theorem listOf (h : X.K = K := by rfl) : CallR X (.type "list") (rListOf K) := h ▸ call_list_of
variable {tg l e : Expr} {tl : TE} {ta : TA}
theorem piL (hl : PE X l tl) (h : X.K = K := by rfl) : PI X tg l (iList K tl) := h ▸ pi_list hl
theorem piT (hl : PE X l tl) (h : X.K = K := by rfl) : PI X tg l (iTup K tl) := h ▸ pi_tup hl
theorem piE {p pos tpos : Pos} {elts : List Expr} {kk : Nat} (hg : Gl X "enumerate") (hm : X.mg "enumerate" = none) (ha : PA X [e] ta) (hs : starEach [e] X.env = [(false, eval e X.env)] := by rfl) (h : X.K = K := by rfl) :
    PI X (.Tuple elts kk tpos) (.Call (.Name "enumerate" p) [e] [] pos) (iEnum K ta) := h ▸ pi_enum hg hm ha hs
theorem piZ {e2 : Expr} {p pos tpos kp cp : Pos} {elts : List Expr} {kk ck : Nat} (hg : Gl X "zip") (hm : X.mg "zip" = none) (ha : PA X [e, e2] ta) (h : X.K = K := by rfl)
    (hks : (backToKw pos (keywordEach [⟨some (Str.ofString "strict"), .Constant (.bool true) ck cp, kp⟩] X.env)).filterMap (·.1) = [Str.ofString "strict"] := by rfl)
    (he : backTo pos (starEach [e, e2] X.env) = (false, eval e X.env) :: backTo pos (starEach [e2] X.env) := by rfl) (hpl : (backTo pos (starEach [e, e2] X.env)).any (·.1) = false := by rfl) :
    PI X (.Tuple elts kk tpos) (.Call (.Name "zip" p) [e, e2] [⟨some (Str.ofString "strict"), .Constant (.bool true) ck cp, kp⟩] pos) (iZs K ta) := h ▸ pi_zs hg hm ha hks he hpl
theorem pgT (n : Nat) {es : List Expr} {k : Nat} {t : TGs} {pos : Pos} (hc : X.calm = true) (hp : PGs X es t) (h : X.K = K := by rfl)
    (hn : (assignEach es X.env).length = n := by rfl) (hst : (assignEach es X.env).findIdx? (·.1) = none := by rfl) : PG X (.Tuple es k pos) (gTup K n t) := h ▸ pg_tup hc hp hn hst
end
/-- a new list comes back -/
def RtA (ds : List PyData) (H : Hp) (Q : Addr → Hp → Prop) : Prop := ∀ p xs H', H p = none → Same H H' → H' p = some (.lst xs) → DvAll H' ds xs → Q p H'
/-- what a comprehension asks behind its source -/
def LcGoal (J : It) (g : TG) (tt : TT) (te : TE) (vs : List Nat) (σ : L2.St) (H1 : Hp) (Q : Addr → Hp → Prop) : Prop := ∀ D, H1 D = none → ∃ W : Nat → Nat → Hp → Prop, (∃ m, W 0 m (upd H1 D (.lst []))) ∧ ∀ i m H, W i m H →
  (J.stop i H ∧ Q D H) ∨ (J.go i H ∧ ∃ Nx : Hp → Prop, (∀ H', Nx H' → ∃ m', m' < m ∧ W (i + 1) m' H') ∧ ∀ x H', J.yld i H x H' → g x (wipe σ vs) H' fun σ2 H2 => wipe σ2 vs = wipe σ vs ∧ tt σ2 H2 fun b H3 =>
    if b = true then te σ2 H3 fun y H4 => ∃ acc, H4 D = some (.lst acc) ∧ acc.length < sizeLine ∧ Nx (upd H4 D (.lst (acc ++ [y]))) else Nx H3)
theorem fm_snoc {α β : Type} (sel : α → Option β) {ts : List α} {i : Nat} {t : α} (h : ts[i]? = some t) : (ts.take (i + 1)).filterMap sel = (ts.take i).filterMap sel ++ (match sel t with | some b => [b] | none => []) := by
  rw [List.take_add_one, h, List.filterMap_append]
  congr 1
  show (List.filterMap sel [t]) = _
  cases q : sel t <;> simp [q]
theorem paired_app {α β : Type} {R : α → β → Prop} {as as' : List α} {bs bs' : List β} (h : Paired R as bs) (h' : Paired R as' bs') : Paired R (as ++ as') (bs ++ bs') := by
  induction h with
  | nil => exact h'
  | cons h1 _ ih => exact .cons h1 ih
theorem DvAll.split {H : Hp} : ∀ {ds es : List PyData} {xs : List V}, DvAll H (ds ++ es) xs → ∃ ys zs, xs = ys ++ zs ∧ DvAll H ds ys ∧ DvAll H es zs
  | [], es, xs, h => ⟨[], xs, rfl, rfl, h⟩
  | d :: ds, es, xs, h => by
    obtain ⟨x, r, rfl, h1, h2⟩ := h
    obtain ⟨ys, zs, rfl, h3, h4⟩ := DvAll.split h2
    exact ⟨x :: ys, zs, rfl, ⟨x, ys, rfl, h1, h3⟩, h4⟩
theorem fm_filter {α : Type} {p : α → Prop} [DecidablePred p] (ts : List α) : ts.filterMap (fun t => if p t then some t else none) = ts.filter fun t => decide (p t) := by
  induction ts with
  | nil => rfl
  | cons t ts ih =>
    rw [List.filterMap_cons, List.filter_cons]
    by_cases h : p t <;> simp [h, ih]
theorem fm_map {α β : Type} (f : α → β) (ts : List α) : ts.filterMap (fun t => some (f t)) = ts.map f := by
  induction ts with
  | nil => rfl
  | cons t ts ih => rw [List.filterMap_cons, List.map_cons, ih]
section
variable {α β : Type} {J : It} {g : TG} {tt : TT} {te : TE} {vs : List Nat} {σ : L2.St} {H : Hp} {Q : Addr → Hp → Prop}
theorem lcG {e' : β → PyData} (ts : List α) (sel : α → Option β) (Pi : α → V → Hp → Prop) (hn : ∀ b, noList (e' b) = true) (hl : ts.length ≤ 100000)
    (go : ∀ i t H1, ts[i]? = some t → Same H H1 → J.go i H1) (yld : ∀ i t H1 x H2, ts[i]? = some t → Same H H1 → J.yld i H1 x H2 → Same H1 H2 ∧ Pi t x H2) (stop : ∀ H1, Same H H1 → J.stop ts.length H1)
    (turn : ∀ t x H1 (N : V → Hp → Prop) (M : Hp → Prop), t ∈ ts → Same H H1 → Pi t x H1 → (∀ b, sel t = some b → ∀ y H4, Same H1 H4 → Dv H4 (e' b) y → N y H4) → (sel t = none → ∀ H3, Same H1 H3 → M H3) →
      g x (wipe σ vs) H1 fun σ2 H2 => wipe σ2 vs = wipe σ vs ∧ tt σ2 H2 fun b H3 => if b = true then te σ2 H3 N else M H3)
    (done : RtA ((ts.filterMap sel).map e') H Q) : LcGoal J g tt te vs σ H Q := by
  intro D hD
  refine ⟨fun i m H1 => m = ts.length - i ∧ i ≤ ts.length ∧ Same H H1 ∧ ∃ acc, H1 D = some (.lst acc) ∧ DvAll H1 (((ts.take i).filterMap sel).map e') acc, ⟨ts.length, by simp, Nat.zero_le _, Same.new hD, [], upd_same, by simp [DvAll]⟩, ?_⟩
  rintro i m H1 ⟨rfl, hi, s1, acc, ha, hd⟩
  by_cases hlt : i < ts.length
  · have ht : ts[i]? = some ts[i] := List.getElem?_eq_getElem hlt
    refine .inr ⟨go i _ H1 ht s1, fun H' => (i + 1 ≤ ts.length ∧ Same H H' ∧ ∃ acc, H' D = some (.lst acc) ∧ DvAll H' (((ts.take (i + 1)).filterMap sel).map e') acc), fun H' p => ⟨ts.length - (i + 1), by omega, rfl, p⟩, fun x H2 y => ?_⟩
    obtain ⟨s2, pi⟩ := yld i _ H1 x H2 ht s1 y
    have e1 := fm_snoc sel ht
    have hlen : acc.length < sizeLine := by
      have q1 := hd.lenM
      have q2 := List.length_filterMap_le sel (ts.take i)
      rw [List.length_take] at q2
      rw [sizeLine_eq]; omega
    refine turn _ x H2 _ _ (List.getElem_mem hlt) (s1.trans s2) pi (fun b hb y H4 s4 hy => ?_) (fun hb H3 s3 => ?_)
    · have hD4 := s4 _ _ (s2 _ _ ha)
      refine ⟨acc, hD4, hlen, hlt, Same.mut (s1.trans (s2.trans s4)) hD, _, upd_same, ?_⟩
      rw [e1, hb, List.map_append]
      exact (DvAll.upd (notup_l hD4) (noLA hn _) (DvAll.same (s2.trans s4) hd)).append (.cons (Dv.upd (notup_l hD4) (hn b) hy) .nil)
    · refine ⟨hlt, s1.trans (s2.trans s3), acc, s3 _ _ (s2 _ _ ha), ?_⟩
      rw [e1, hb, List.append_nil]
      exact DvAll.same (s2.trans s3) hd
  · have e : i = ts.length := by omega
    subst e
    rw [List.take_length] at hd
    exact .inl ⟨stop H1 s1, done D acc H1 hD s1 ha hd⟩
/-- the elements are new lists -/
theorem lcGL {γ : Type} {e2 : γ → PyData} (ts : List α) (sel : α → List γ) (Pi : α → V → Hp → Prop) (hn : ∀ b, noList (e2 b) = true) (hl : ts.length ≤ 100000)
    (go : ∀ i t H1, ts[i]? = some t → Same H H1 → J.go i H1) (yld : ∀ i t H1 x H2, ts[i]? = some t → Same H H1 → J.yld i H1 x H2 → Same H1 H2 ∧ Pi t x H2) (stop : ∀ H1, Same H H1 → J.stop ts.length H1)
    (turn : ∀ t x H1 (N : V → Hp → Prop) (M : Hp → Prop), t ∈ ts → Same H H1 → Pi t x H1 → (∀ p ys H4, H1 p = none → Same H1 H4 → H4 p = some (.lst ys) → DvAll H4 ((sel t).map e2) ys → N (.ref p) H4) →
      g x (wipe σ vs) H1 fun σ2 H2 => wipe σ2 vs = wipe σ vs ∧ tt σ2 H2 fun b H3 => if b = true then te σ2 H3 N else M H3)
    (done : RtA (ts.map fun t => .list ((sel t).map e2)) H Q) : LcGoal J g tt te vs σ H Q := by
  intro D hD
  let Rows : Hp → List α → List V → Prop := fun H1 us acc => Paired (fun (t : α) (v : V) => ∃ p ys, v = .ref p ∧ p ≠ D ∧ H1 p = some (.lst ys) ∧ DvAll H1 ((sel t).map e2) ys) us acc
  have rsame : ∀ {H1 H2 : Hp} {us acc}, Same H1 H2 → Rows H1 us acc → Rows H2 us acc := fun {H1 H2 us acc} s r => by
    induction r with
    | nil => exact .nil
    | cons h _ ih =>
      obtain ⟨p, ys, e, n, h1, h2⟩ := h
      exact .cons ⟨p, ys, e, n, s _ _ h1, DvAll.same s h2⟩ ih
  have rupd : ∀ {H1 : Hp} {us acc zs o}, H1 D = some (.lst zs) → Rows H1 us acc → Rows (upd H1 D o) us acc := fun {H1 us acc zs o} hz r => by
    induction r with
    | nil => exact .nil
    | cons h _ ih =>
      obtain ⟨p, ys, e, n, h1, h2⟩ := h
      exact .cons ⟨p, ys, e, n, by rw [upd_ne n]; exact h1, DvAll.upd (notup_l hz) (noLA hn _) h2⟩ ih
  have rdv : ∀ {H1 : Hp} {us acc}, Rows H1 us acc → DvAll H1 (us.map fun t => .list ((sel t).map e2)) acc := fun {H1 us acc} r => by
    induction r with
    | nil => exact .nil
    | cons h _ ih =>
      obtain ⟨p, ys, e, n, h1, h2⟩ := h
      exact .cons ⟨p, ys, e, h1, h2⟩ ih
  have rlen : ∀ {H1 : Hp} {us acc}, Rows H1 us acc → us.length = acc.length := fun r => r.length
  refine ⟨fun i m H1 => m = ts.length - i ∧ i ≤ ts.length ∧ Same H H1 ∧ ∃ acc, H1 D = some (.lst acc) ∧ Rows H1 (ts.take i) acc, ⟨ts.length, by simp, Nat.zero_le _, Same.new hD, [], upd_same, by rw [List.take_zero]; exact .nil⟩, ?_⟩
  rintro i m H1 ⟨rfl, hi, s1, acc, ha, hd⟩
  by_cases hlt : i < ts.length
  · have ht : ts[i]? = some ts[i] := List.getElem?_eq_getElem hlt
    refine .inr ⟨go i _ H1 ht s1, fun H' => (i + 1 ≤ ts.length ∧ Same H H' ∧ ∃ acc, H' D = some (.lst acc) ∧ Rows H' (ts.take (i + 1)) acc), fun H' p => ⟨ts.length - (i + 1), by omega, rfl, p⟩, fun x H2 y => ?_⟩
    obtain ⟨s2, pi⟩ := yld i _ H1 x H2 ht s1 y
    have hlen : acc.length < sizeLine := by
      have q1 := rlen hd
      rw [List.length_take] at q1
      rw [sizeLine_eq]; omega
    refine turn _ x H2 _ _ (List.getElem_mem hlt) (s1.trans s2) pi (fun p ys H4 hp s4 hy hyd => ?_)
    have hD4 := s4 _ _ (s2 _ _ ha)
    refine ⟨acc, hD4, hlen, hlt, Same.mut (s1.trans (s2.trans s4)) hD, _, upd_same, ?_⟩
    have npD : p ≠ D := fun z => by rw [z, s2 _ _ ha] at hp; cases hp
    rw [List.take_add_one, ht]
    have r4 : Rows H4 (ts.take i) acc := rsame (s2.trans s4) hd
    have r5 : Rows (upd H4 D (.lst (acc ++ [.ref p]))) (ts.take i) acc := rupd hD4 r4
    have last : Rows (upd H4 D (.lst (acc ++ [.ref p]))) [ts[i]] [.ref p] := .cons ⟨p, ys, rfl, npD, by rw [upd_ne npD]; exact hy, DvAll.upd (notup_l hD4) (noLA hn _) hyd⟩ .nil
    exact paired_app r5 last
  · have e : i = ts.length := by omega
    subst e
    rw [List.take_length] at hd
    exact .inl ⟨stop H1 s1, done D acc H1 hD s1 ha (rdv hd)⟩
end
/-! ### sources -/
section
variable {α : Type} {K : PySem.W.Frag} {H : Hp} {a : Addr} {xs : List V} {e : α → PyData} {ts : List α}
theorem src_l (ha : H a = some (.lst xs)) (hd : DvAll H (ts.map e) xs) : (∀ i t H1, ts[i]? = some t → Same H H1 → (Itl K a).go i H1) ∧ (∀ i t H1 x H2, ts[i]? = some t → Same H H1 → (Itl K a).yld i H1 x H2 → Same H1 H2 ∧ Dv H2 (e t) x) ∧ ∀ H1, Same H H1 → (Itl K a).stop ts.length H1 := by
  refine ⟨fun i t H1 h s => ?_, fun i t H1 x H2 h s y => ?_, fun H1 s => ⟨xs, SqL.of (s _ _ ha), by rw [hd.lenM]; exact Nat.le_refl _⟩⟩
  · obtain ⟨x, hx, _⟩ := hd.of h
    exact ⟨xs, x, SqL.of (s _ _ ha), hx⟩
  · obtain ⟨rfl, q⟩ := y
    obtain ⟨x', hx, dx⟩ := hd.of h
    have e1 := q xs (SqL.of (s _ _ ha))
    rw [hx] at e1
    cases e1
    exact ⟨Same.refl _, dx.same s⟩
theorem src_t (ha : H a = some (.tup xs)) (hd : DvAll H (ts.map e) xs) : (∀ i t H1, ts[i]? = some t → Same H H1 → (Itt K a).go i H1) ∧ (∀ i t H1 x H2, ts[i]? = some t → Same H H1 → (Itt K a).yld i H1 x H2 → Same H1 H2 ∧ Dv H2 (e t) x) ∧ ∀ H1, Same H H1 → (Itt K a).stop ts.length H1 := by
  refine ⟨fun i t H1 h s => ?_, fun i t H1 x H2 h s y => ?_, fun H1 s => ⟨xs, SqT.of (s _ _ ha), by rw [hd.lenM]; exact Nat.le_refl _⟩⟩
  · obtain ⟨x, hx, _⟩ := hd.of h
    exact ⟨xs, x, SqT.of (s _ _ ha), hx⟩
  · obtain ⟨rfl, q⟩ := y
    obtain ⟨x', hx, dx⟩ := hd.of h
    have e1 := q xs (SqT.of (s _ _ ha))
    rw [hx] at e1
    cases e1
    exact ⟨Same.refl _, dx.same s⟩
theorem src_r (n : Nat) : (∀ (i t : Nat) H1, (List.range n)[i]? = some t → Same H H1 → (Itr 0 n).go i H1) ∧ (∀ (i t : Nat) H1 x H2, (List.range n)[i]? = some t → Same H H1 → (Itr 0 n).yld i H1 x H2 → Same H1 H2 ∧ x = .int (t : Int)) ∧ ∀ H1, Same H H1 → (Itr 0 n).stop (List.range n).length H1 := by
  refine ⟨fun i t H1 h s => ?_, fun i t H1 x H2 h s y => ?_, fun H1 s => by rw [List.length_range]; exact Nat.le_refl _⟩
  · have := (List.getElem?_eq_some_iff.mp h).1
    rw [List.length_range] at this
    exact this
  · obtain ⟨rfl, q⟩ := y
    have h1 := (List.getElem?_eq_some_iff.mp h).1
    rw [List.length_range] at h1
    rw [List.getElem?_range h1] at h
    cases h
    refine ⟨Same.refl _, ?_⟩
    rw [q, Int.zero_add]
/-- enumerate(xs): a new pair each -/
def PairAt (e : α → PyData) (t : α × Nat) (x : V) (H : Hp) : Prop := ∃ T y, x = .ref T ∧ H T = some (.tup [.int (t.2 : Int), y]) ∧ Dv H (e t.1) y
theorem src_e (ha : H a = some (.lst xs)) (hd : DvAll H (ts.map e) xs) : (∀ i t H1, ts.zipIdx[i]? = some t → Same H H1 → (Ite K a).go i H1) ∧ (∀ i t H1 x H2, ts.zipIdx[i]? = some t → Same H H1 → (Ite K a).yld i H1 x H2 → Same H1 H2 ∧ PairAt e t x H2) ∧ ∀ H1, Same H H1 → (Ite K a).stop ts.zipIdx.length H1 := by
  refine ⟨fun i t H1 h s => ?_, fun i t H1 x H2 h s y => ?_, fun H1 s => ⟨xs, SqL.of (s _ _ ha), by rw [hd.lenM, List.length_zipIdx]; exact Nat.le_refl _⟩⟩
  · rw [List.getElem?_zipIdx] at h
    cases q : ts[i]? with
    | none => rw [q] at h; cases h
    | some t' =>
      obtain ⟨x, hx, _⟩ := hd.of q
      exact ⟨xs, x, SqL.of (s _ _ ha), hx⟩
  · rw [List.getElem?_zipIdx] at h
    cases q : ts[i]? with
    | none => rw [q] at h; cases h
    | some t' =>
      rw [q] at h
      cases h
      obtain ⟨T, z, rfl, hT, rfl, hz⟩ := y
      obtain ⟨x1, hx, dx⟩ := hd.of q
      have e1 := hz xs (SqL.of (s _ _ ha))
      rw [hx] at e1
      cases e1
      refine ⟨Same.new hT, T, z, rfl, ?_, dx.same (s.trans (Same.new hT))⟩
      rw [upd_same]
      show some (HO.tup [.int ((i : Nat) : Int), z]) = some (HO.tup [.int ((0 + i : Nat) : Int), z])
      rw [Nat.zero_add]
/-- the same, the item told in the heap ahead -/
def PairB (H : Hp) (e : α → PyData) (t : α × Nat) (x : V) (H2 : Hp) : Prop := ∃ T y, x = .ref T ∧ H2 T = some (.tup [.int (t.2 : Int), y]) ∧ Dv H (e t.1) y
theorem src_b (ha : H a = some (.lst xs)) (hd : DvAll H (ts.map e) xs) : (∀ i t H1, ts.zipIdx[i]? = some t → Same H H1 → (Ite K a).go i H1) ∧ (∀ i t H1 x H2, ts.zipIdx[i]? = some t → Same H H1 → (Ite K a).yld i H1 x H2 → Same H1 H2 ∧ PairB H e t x H2) ∧ ∀ H1, Same H H1 → (Ite K a).stop ts.zipIdx.length H1 := by
  obtain ⟨g1, g2, g3⟩ := src_e (K := K) ha hd
  refine ⟨g1, fun i t H1 x H2 h s y => ⟨(g2 i t H1 x H2 h s y).1, ?_⟩, g3⟩
  rw [List.getElem?_zipIdx] at h
  cases q : ts[i]? with
  | none => rw [q] at h; cases h
  | some t' =>
    rw [q] at h
    cases h
    obtain ⟨T, z, rfl, hT, rfl, hz⟩ := y
    obtain ⟨x1, hx, dx⟩ := hd.of q
    have e1 := hz xs (SqL.of (s _ _ ha))
    rw [hx] at e1
    cases e1
    refine ⟨T, z, rfl, ?_, dx⟩
    rw [upd_same]
    show some (HO.tup [.int ((i : Nat) : Int), z]) = some (HO.tup [.int ((0 + i : Nat) : Int), z])
    rw [Nat.zero_add]
end
/-! ### loops over any source -/
theorem forG {J : It} {g : TG} {tb : TS} {D : Ends} {σ : L2.St} {H : Hp} (n : Nat) (Pv : Nat → L2.St → Hp → Prop) (h0 : Pv 0 σ H) (go : ∀ i σ H, i < n → Pv i σ H → J.go i H)
    (hs : ∀ i x σ H H', i < n → Pv i σ H → J.yld i H x H' → g x σ H' fun σ2 H2 => tb { D with nx := Pv (i + 1), ct := Pv (i + 1), bk := D.nx } σ2 H2) (hd : ∀ σ H, Pv n σ H → J.stop n H ∧ D.nx σ H) :
    ∃ W : Nat → Nat → L2.St → Hp → Prop, (∃ m, W 0 m σ H) ∧ ∀ i m σ H, W i m σ H →
      (J.stop i H ∧ D.nx σ H) ∨ (J.go i H ∧ ∃ N : L2.St → Hp → Prop, (∀ σ' H', N σ' H' → ∃ m', m' < m ∧ W (i + 1) m' σ' H') ∧ ∀ x H', J.yld i H x H' → g x σ H' fun σ2 H2 => tb { D with nx := N, ct := N, bk := D.nx } σ2 H2) := by
  refine ⟨fun i m σ H => m = n - i ∧ i ≤ n ∧ Pv i σ H, ⟨n, by simp, Nat.zero_le _, h0⟩, ?_⟩
  rintro i m σ H ⟨rfl, hi, p⟩
  by_cases hlt : i < n
  · exact .inr ⟨go i σ H hlt p, Pv (i + 1), fun σ' H' p' => ⟨n - (i + 1), by omega, rfl, hlt, p'⟩, fun x H' y => hs i x σ H H' hlt p y⟩
  · have e : i = n := by omega
    subst e
    exact .inl (hd σ H p)
theorem cutV_from (xs : List V) (n : Nat) : cutV xs (some (n : Int)) none = xs.drop n := by
  unfold cutV
  rw [HT.sIx_nat, HT.sIx_none]
  by_cases h : n ≤ xs.length
  · rw [Nat.min_eq_left h, List.take_of_length_le]
    rw [List.length_drop]; exact Nat.le_refl _
  · rw [Nat.min_eq_right (by omega), List.drop_length, List.take_nil, List.drop_eq_nil_of_le (by omega)]
theorem cutV_to (xs : List V) (n : Nat) : cutV xs none (some (n : Int)) = xs.take n := by
  unfold cutV
  rw [HT.sIx_nat, HT.sIx_none, Nat.sub_zero, List.drop_zero]
  by_cases h : n ≤ xs.length
  · rw [Nat.min_eq_left h]
  · rw [Nat.min_eq_right (by omega), List.take_length, List.take_of_length_le (by omega)]
theorem cutV_mid (xs : List V) (n m : Nat) (h : n ≤ m) : cutV xs (some (n : Int)) (some (m : Int)) = (xs.drop n).take (m - n) := by
  unfold cutV
  rw [HT.sIx_nat, HT.sIx_nat]
  by_cases h1 : m ≤ xs.length
  · rw [Nat.min_eq_left h1, Nat.min_eq_left (by omega)]
  · rw [Nat.min_eq_right (a := m) (by omega)]
    by_cases h2 : n ≤ xs.length
    · rw [Nat.min_eq_left h2, List.take_of_length_le, List.take_of_length_le]
      · rw [List.length_drop]; omega
      · rw [List.length_drop]; omega
    · rw [Nat.min_eq_right (by omega), List.drop_length, List.take_nil, List.drop_eq_nil_of_le (by omega), List.take_nil]
theorem FunD.ok0 {P : Program} {w : World} {K : PySem.W.Frag} {mg : Str → Option Value} {base : Heap} {x qual : Str} {params : Arguments} {body : List Stmt} {scope : Scope} {dvs : List V} {kws : List (Str × V)} {f : Addr} {fd : FuncData} {N ps : List Str} {k : Nat} {sp : Sp} (F : FunD K x qual params body scope dvs kws f fd) (S : FnScope N ps scope) (len : ∀ vs H Q E, sp vs H Q E → vs.length = ps.length)
    (hbody : ∀ (cdv : Value) (A : Around) (outer : List Env) (s : Shared) (H : Hp) (vs : List V) (Q : VK) (E : XK), Room k (A.deeper (envOfC qual scope s.heap.objs.size f cdv)) → sp vs H Q E →
      ∃ t, PSs (cxOf CX0 P w K mg base N qual scope f cdv A outer s H E).nox body t ∧ t { nx := fun _ H' => Q .non H', rt := Q } (start N vs) H) : FnOk P w K mg base CX0 (k + 1) f fd ps sp :=
  F.ok S len fun cdv A outer s H vs Q E hr h => let ⟨t, h1, h2⟩ := hbody cdv A outer s H vs Q E hr h; ⟨t, h1.nox, h2⟩
end K83
set_option maxRecDepth 100000
set_option maxHeartbeats 4000000
namespace K83
open PySem PySem.Spec PyProof.Rows L2

/-- what the top has written -/
structure Tx (K : PySem.W.Frag) (mg : Str → Option Value) (A : Nat → Addr) (D : Nat → FuncData) (C : Addr) (tk : Tok) : Prop where
  len : mg "len" = none
  range : mg "range" = none
  enumerate : mg "enumerate" = none
  zip : mg "zip" = none
  sorted : mg "sorted" = none
  set : mg "set" = none
  sum : mg "sum" = none
  all : mg "all" = none
  abs : mg "abs" = none
  int : mg "int" = none
  list : mg "list" = none
  tuple : mg "tuple" = none
  dict : mg "dict" = none
  min : mg "min" = none
  max : mg "max" = none
  OUT : mg "OUT" = some (.str "out" tk)
  d_served : TD K mg "served" (topS 2) (A 2) (D 2) ["offers", "wants"]
  d_colour_row : TD K mg "colour_row" (topS 6) (A 6) (D 6) ["palette", "colour"]
  d_wash_for : TD K mg "wash_for" (topS 7) (A 7) (D 7) ["palette", "ahead", "behind"]
  d_offers_of : TD K mg "offers_of" (topS 10) (A 10) (D 10) ["palette", "pots", "colour"]
  d_wanting_at : TD K mg "wanting_at" (topS 11) (A 11) (D 11) ["teams", "colour", "hour"]
  d_served_by : TD K mg "served_by" (topS 13) (A 13) (D 13) ["offers", "wants"]
  d_hour_and_colour : TD K mg "hour_and_colour" (topS 14) (A 14) (D 14) ["lack"]
  d_worked_by : TD K mg "worked_by" (topS 15) (A 15) (D 15) ["palette", "pots", "teams"]
  d_step_fault : TD K mg "step_fault" (topS 18) (A 18) (D 18) ["palette", "ahead", "turn"]
  d_turn_fault : TD K mg "turn_fault" (topS 19) (A 19) (D 19) ["palette", "turns", "number"]
  d_fault_of : TD K mg "fault_of" (topS 20) (A 20) (D 20) ["palette", "turns"]
  d_word_ends : TD K mg "word_ends" (topS 21) (A 21) (D 21) ["palette", "turn", "wash"]
  d_word_by : TD K mg "word_by" (topS 22) (A 22) (D 22) ["palette", "turn", "wash", "hour"]
  d_wash_behind : TD K mg "wash_behind" (topS 23) (A 23) (D 23) ["palette", "turns", "number"]
  d_last_filled : TD K mg "last_filled" (topS 24) (A 24) (D 24) ["turns", "hour"]
  d_state_at : TD K mg "state_at" (topS 25) (A 25) (D 25) ["palette", "turns", "hour"]
  d_moved_turn : TD K mg "moved_turn" (topS 27) (A 27) (D 27) ["palette", "turn", "free"]
  d_later_turns : TD K mg "later_turns" (topS 28) (A 28) (D 28) ["palette", "rest", "free"]
  d_first_behind : TD K mg "first_behind" (topS 29) (A 29) (D 29) ["turns", "hour"]
  d__law_box : TD K mg "_law_box" (topS 32) (A 32) (D 32) ["_law_cells_here", "_law_k"]
  d__law_take : TD K mg "_law_take" (topS 33) (A 33) (D 33) ["_law_box_here", "_law_many"]
  d__law_cells : TD K mg "_law_cells" (topS 34) (A 34) (D 34) ["_law_script", "_law_most"]
  d__law_names : TD K mg "_law_names" (topS 35) (A 35) (D 35) ["_law_box_here", "_law_many"]
  d__law_palette : TD K mg "_law_palette" (topS 36) (A 36) (D 36) ["_law_box_here", "_law_most"]
  d__law_wash : TD K mg "_law_wash" (topS 37) (A 37) (D 37) ["_law_palette_here", "_law_ahead", "_law_behind"]
  d__law_pot : TD K mg "_law_pot" (topS 38) (A 38) (D 38) ["_law_box_here", "_law_palette_here", "_law_counts"]
  d__law_pots : TD K mg "_law_pots" (topS 39) (A 39) (D 39) ["_law_box_here", "_law_palette_here", "_law_most"]
  d__law_team : TD K mg "_law_team" (topS 40) (A 40) (D 40) ["_law_box_here", "_law_palette_here", "_law_pots_here", "_law_name"]
  d__law_own_teams : TD K mg "_law_own_teams" (topS 41) (A 41) (D 41) ["_law_box_here", "_law_palette_here", "_law_pots_here", "_law_names_here"]
  d__law_worked_now : TD K mg "_law_worked_now" (topS 42) (A 42) (D 42) ["_law_palette_here", "_law_pots_here", "_law_hour"]
  d__law_walked : TD K mg "_law_walked" (topS 43) (A 43) (D 43) ["_law_palette_here", "_law_pots_here", "_law_teams", "_law_rows"]
  d__law_lack_right : TD K mg "_law_lack_right" (topS 44) (A 44) (D 44) ["_law_palette_here", "_law_pots_here", "_law_teams", "_law_lack"]
  d__law_day_right : TD K mg "_law_day_right" (topS 45) (A 45) (D 45) ["_law_palette_here", "_law_pots_here", "_law_teams"]
  d__law_right : TD K mg "_law_right" (topS 46) (A 46) (D 46) ["_law_box_here"]
  d_law : TD K mg "law" (topS 47) (A 47) (D 47) ["_law_script"]
  mg_ready_at : mg "ready_at" = some (.ref (A 8))
  fn_ready_at : FunD K "ready_at" "ready_at" (defArgs (topS 8)) (defBody (topS 8)) (defScope (topS 8)) [.int 0] [] (A 8) (D 8)
  mg_broken : mg "broken" = some (.ref (A 30))
  fn_broken : FunD K "broken" "broken" (defArgs (topS 30)) (defBody (topS 30)) (defScope (topS 30)) [.int 24] [] (A 30) (D 30)
  mg_wants_of : mg "wants_of" = some (.ref (A 12))
  fn_wants_of : FunD K "wants_of" "wants_of" (defArgs (topS 12)) (defBody (topS 12)) (defScope (topS 12)) [.int 60] [] (A 12) (D 12)
  b_ready_at : Binds K (D 8) ["palette", "colour", "at"] []
  b_broken : Binds K (D 30) ["palette", "turns", "hour", "warm"] []
  b_wants_of : ∃ ds, Vals [.int 60] ds ∧ Binds K (D 12) ["teams", "colour", "hours"] ds
  mgC : mg "Serving" = some (.ref C)
  cl : Cls K C
  mkS : Mk K C (A 100)
  n_offers : NoAttr K C "offers"
  n_left : NoAttr K C "left"
  n_hourly : NoAttr K C "hourly"
  f_init : Fun K "__init__" "Serving.__init__" (inClass (topS 1) 0) (A 100) (D 100)
  b_init : Binds K (D 100) ["self", "offers"] []
  f_gathers_left : Fun K "gathers_left" "Serving.gathers_left" (inClass (topS 1) 1) (A 101) (D 101)
  b_gathers_left : Binds K (D 101) ["self", "number"] []
  m_gathers_left : Meth K C "gathers_left" (A 101)
  f_untaken_at : Fun K "untaken_at" "Serving.untaken_at" (inClass (topS 1) 2) (A 102) (D 102)
  b_untaken_at : Binds K (D 102) ["self", "hour"] []
  m_untaken_at : Meth K C "untaken_at" (A 102)
  f_hours_of : Fun K "hours_of" "Serving.hours_of" (inClass (topS 1) 3) (A 103) (D 103)
  b_hours_of : Binds K (D 103) ["self", "number"] []
  m_hours_of : Meth K C "hours_of" (A 103)
  f_way_from : Fun K "way_from" "Serving.way_from" (inClass (topS 1) 4) (A 104) (D 104)
  b_way_from : Binds K (D 104) ["self", "hour"] []
  m_way_from : Meth K C "way_from" (A 104)
  f_take : Fun K "take" "Serving.take" (inClass (topS 1) 5) (A 105) (D 105)
  b_take : Binds K (D 105) ["self", "ways", "number"] []
  m_take : Meth K C "take" (A 105)
  f_hours_met : Fun K "hours_met" "Serving.hours_met" (inClass (topS 1) 6) (A 106) (D 106)
  b_hours_met : Binds K (D 106) ["self", "ways", "hour"] []
  m_hours_met : Meth K C "hours_met" (A 106)
  f_lack_at : Fun K "lack_at" "Serving.lack_at" (inClass (topS 1) 7) (A 107) (D 107)
  b_lack_at : Binds K (D 107) ["self", "hour", "many"] []
  m_lack_at : Meth K C "lack_at" (A 107)
  bm_gathers_left : BMeth K C "gathers_left" (A 101)
end K83
set_option maxRecDepth 100000
set_option maxHeartbeats 4000000
namespace K83
open PySem PySem.Spec PyProof.Rows L2
local macro_rules | `(tactic| walk_at "nz") => `(tactic| dsimp -proj only [L2.start, wipe, List.map_cons, List.map_nil, List.set, List.length, List.replicate, List.cons_append, List.nil_append, Nat.reduceSub, Nat.reduceAdd])
local macro_rules | `(tactic| walk_at "gg") => `(tactic| repeat (first | refine ⟨rfl, ?_⟩ | refine ⟨_, rfl, ?_⟩ | refine ⟨_, _, rfl, ?_⟩ | refine ⟨_, _, rfl, rfl, ?_⟩))
local macro_rules | `(tactic| walk_at "go") => `(tactic| ((try walk_at "nz"); walk_at "gg"; (try walk_at "nz")))
def Pal.find (p : Pal) (x : Str) : Option Col := p.cs.find? fun c => decide (c.name = x)
def isW (a : Option Str) (b : Str) (w : Wsh) : Bool := decide (a = some w.one) && decide (w.other = b)
def washF (ws : List Wsh) (a : Option Str) (b : Str) : Option Int := match ws.find? (isW a b) with
  | some w => w.hrs
  | none => some 0
theorem dstr {a b : Str} (h : decide (V.str a = V.str b) = true) : a = b := by simpa using h
theorem dstrN {a b : Str} (h : ¬ decide (V.str a = V.str b) = true) : a ≠ b := by simpa using h
theorem dvs {a : Option Str} {b : Str} : decide (V.str b = vS a) = decide (a = some b) := by
  cases a with
  | none => simp [vS]
  | some x => simp [vS, eq_comm]
theorem vS_ne {a : Option Str} : decide (vS a = V.non) = decide (a = none) := by cases a <;> simp [vS]
def spColRow : Sp := fun vs H Q _ => ∃ v p x c, vs = [v, .str x] ∧ Dv H (palD p) v ∧ p.find x = some c ∧ Rt (colD c) H Q
def spWash : Sp := fun vs H Q _ => ∃ v p a b c, vs = [v, vS a, .str b] ∧ Dv H (palD p) v ∧ (∀ x, a = some x → ∃ c, p.find x = some c) ∧ p.find b = some c ∧ Rt (optI (washF p.ws a b)) H Q
def spReady : Sp := fun vs H Q _ => ∃ v p x c t, vs = [v, .str x, .int t] ∧ Dv H (palD p) v ∧ p.find x = some c ∧ Rt (.int (t + c.charge + c.melt)) H Q
theorem scal_vS (x : Str) (a : Option Str) : scal (.str x) (vS a) = true := by cases a <;> rfl
theorem join_ {H : Hp} {G : Hp → Prop} {X : Prop} (use : (∀ H1, Same H H1 → G H1) → X) (prf : ∀ H1, Same H H1 → G H1) : X := use prf
theorem find_hit {α : Type} {p : α → Bool} {l : List α} {i : Nat} {x : α} (hno : ∀ j y, j < i → l[j]? = some y → p y = false) (hx : l[i]? = some x) (hp : p x = true) : l.find? p = some x := by
  induction l generalizing i with
  | nil => simp at hx
  | cons a l ih =>
    cases i with
    | zero => cases hx; rw [List.find?_cons, hp]
    | succ i =>
      rw [List.find?_cons, hno 0 a (Nat.succ_pos _) rfl]
      exact ih (fun j y hj hy => hno (j + 1) y (Nat.succ_lt_succ hj) (by simpa using hy)) (by simpa using hx)
theorem find_miss {α : Type} {p : α → Bool} {l : List α} (hno : ∀ j y, j < l.length → l[j]? = some y → p y = false) : l.find? p = none := by
  rw [List.find?_eq_none]
  intro x hx
  obtain ⟨i, hi, rfl⟩ := List.getElem_of_mem hx
  rw [hno i _ hi (List.getElem?_eq_getElem hi)]
  exact Bool.false_ne_true
section
variable {P : Program} {w : World} {K : PySem.W.Frag} {mg : Str → Option Value} {base : Heap} {A : Nat → Addr} {D : Nat → FuncData} {C : Addr} {tk : Tok}
theorem sc_colour_row : FnScope ["palette", "colour", "row"] ["palette", "colour"] (defScope (topS 6)) := ⟨rfl, rfl, rfl, by decide +kernel, rfl, by decide +kernel, by decide +kernel⟩
theorem ok_colour_row (T : Tx K mg A D C tk) : FnOk P w K mg base CX0 1 (A 6) (D 6) ["palette", "colour"] spColRow := by
  refine T.d_colour_row.fn.ok sc_colour_row (fun vs H Q E h => ?_) (fun cdv A0 outer s H vs Q E hr h => ?_)
  · obtain ⟨v, p, x, c, rfl, _⟩ := h
    rfl
  · obtain ⟨v, p, x, c, rfl, hp, hf, k⟩ := h
    obtain ⟨a, b, d, xs, ys, rfl, ha, hb, hbs, hd, hds⟩ := pal_of hp
    refine ⟨_, (pss_cons (ps_for PassesOwn.never rfl (piT K (pe_ix (ixT K) (pv 0) pe_int (fun _ _ => rfl))) (pg_name (i := 2) sc_colour_row.nd rfl (Or.inl rfl)) (pss_one (ps_if (pt_cmpR op_eq (pe_ix (ixT K) (pv 2) pe_int (fun _ _ => rfl)) (pv 1) (nomark _)) (pss_one (ps_ret (pv 2))) pss_nil)))
 (pss_one ps_never)), ?_⟩
    walk_at "go"
    refine ⟨_, _, _, _, rfl, rfl, SqT.of ha, rfl, _, rfl, ⟨_, SqT.of hb⟩, for_tup (K := K) (a := b) (xs := xs) (fun i σ H1 => H1 = H ∧ (∃ z, σ = [some (.ref a), some (.str x), z]) ∧ ∀ j c', j < i → p.cs[j]? = some c' → decide (c'.name = x) = false) ⟨rfl, ⟨_, rfl⟩, fun j c' hj => absurd hj (Nat.not_lt_zero _)⟩ (fun i σ H1 _ z => by rw [z.1]; exact SqT.of hb) ?_ ?_⟩
    · rintro i y σ H1 hy ⟨rfl, ⟨z, rfl⟩, hno⟩
      obtain ⟨c', hc', dc⟩ := hbs.at hy
      obtain ⟨e, rfl, he⟩ := col_of dc
      walk_at "go"
      refine ⟨_, _, _, _, rfl, rfl, SqT.of he, rfl, ?_⟩
      walk_at "go"
      refine ite2 (fun q => ?_) (fun q => ?_)
      · walk_at "go"
        have e1 := find_hit (p := fun c => decide (c.name = x)) hno hc' (decide_eq_true (dstr q))
        have e2 : c' = c := Option.some.inj (e1.symm.trans hf)
        exact k _ _ (Same.refl _) (e2 ▸ dc)
      · refine ⟨rfl, ⟨_, rfl⟩, fun j c2 hj hc2 => ?_⟩
        rcases Nat.lt_succ_iff_lt_or_eq.mp hj with g | g
        · exact hno j c2 g hc2
        · rw [g, hc'] at hc2
          cases hc2
          exact decide_eq_false (dstrN q)
    · rintro σ H1 ⟨rfl, ⟨z, rfl⟩, hno⟩
      have e1 : p.find x = none := find_miss fun j y hj hy => hno j y (by rw [hbs.lenM]; exact hj) hy
      rw [hf] at e1
      cases e1
theorem sc_wash_for : FnScope ["palette", "ahead", "behind", "one", "other", "hours"] ["palette", "ahead", "behind"] (defScope (topS 7)) := ⟨rfl, rfl, rfl, by decide +kernel, rfl, by decide +kernel, by decide +kernel⟩
theorem ok_wash_for (T : Tx K mg A D C tk) : FnOk P w K mg base CX0 2 (A 7) (D 7) ["palette", "ahead", "behind"] spWash := by
  have G_colour_row : FnOk P w K mg base CX0 1 (A 6) (D 6) _ _ := ok_colour_row T
  refine T.d_wash_for.fn.ok sc_wash_for (fun vs H Q E h => ?_) (fun cdv A0 outer s H vs Q E hr h => ?_)
  · obtain ⟨v, p, a, b, c, rfl, _⟩ := h
    rfl
  · obtain ⟨v, p, x, y, c, rfl, hp, hx, hy, k⟩ := h
    refine ⟨_, (pss_cons (ps_if (pt_cmpR op_notN (pv 1) pe_non (nomark _)) (pss_one (ps_expr (pcall T.d_colour_row G_colour_row (hr.mono (by decide)) rfl (pa_cons (pv 0) (pa_cons (pv 1) pa_nil))))) pss_nil)
 (pss_cons (ps_expr (pcall T.d_colour_row G_colour_row (hr.mono (by decide)) rfl (pa_cons (pv 0) (pa_cons (pv 2) pa_nil))))
 (pss_cons (ps_for PassesOwn.never rfl (piT K (pe_ix (ixT K) (pv 0) pe_int (fun _ _ => rfl))) (pgT K 3 rfl (pgs_cons (pg_name (i := 3) sc_wash_for.nd rfl (Or.inl rfl)) (pgs_cons (pg_name (i := 4) sc_wash_for.nd rfl (Or.inl rfl)) (pgs_cons (pg_name (i := 5) sc_wash_for.nd rfl (Or.inl rfl)) pgs_nil)))) (pss_one (ps_if (PW.pt (pw_and (pt_cmpR op_eq (pv 3) (pv 1) (nomark _)) (pw_and1 (pt_cmpR op_eq (pv 4) (pv 2) (nomark _))))) (pss_one (ps_ret (pv 5))) pss_nil)))
 (pss_one (ps_ret pe_int))))), ?_⟩
    walk_at "go"
    refine' join_ (H := H) (fun fin => ?_) ?_
    rotate_left
    · refine ite2 (fun q => ?_) (fun q => ?_)
      rotate_left
      · exact fin _ (Same.refl _)
      · rw [vS_ne] at q
        obtain ⟨x0, e0⟩ : ∃ x0, x = some x0 := by
          cases e : x with
          | none => simp [e] at q
          | some x0 => exact ⟨x0, rfl⟩
        obtain ⟨c0, hc0⟩ := hx x0 e0
        walk_at "go"
        exact ⟨v, p, x0, c0, by rw [e0]; rfl, hp, hc0, fun r H1 s1 _ => fin H1 s1⟩
    · intro H1 s1
      walk_at "go"
      refine ⟨v, p, y, c, rfl, hp.same s1, hy, fun r H2 s2 _ => ?_⟩
      have hp2 := hp.same (s1.trans s2)
      obtain ⟨a, b, d, xs, ys, rfl, ha, hb, hbs, hd, hds⟩ := pal_of hp2
      walk_at "go"
      refine ⟨_, _, _, _, rfl, rfl, SqT.of ha, rfl, _, rfl, ⟨_, SqT.of hd⟩, for_tup (K := K) (a := d) (xs := ys) (fun i σ H1 => H1 = H2 ∧ (∃ z1 z2 z3, σ = [some (.ref a), some (vS x), some (.str y), z1, z2, z3]) ∧ ∀ j c', j < i → p.ws[j]? = some c' → isW x y c' = false) ⟨rfl, ⟨_, _, _, rfl⟩, fun j c' hj => absurd hj (Nat.not_lt_zero _)⟩ (fun i σ H1 _ z => by rw [z.1]; exact SqT.of hd) ?_ ?_⟩
      · rintro i z σ H1 hz ⟨rfl, ⟨z1, z2, z3, rfl⟩, hno⟩
        obtain ⟨c', hc', dc⟩ := hds.at hz
        obtain ⟨e, rfl, he⟩ := wsh_of dc
        refine ⟨e, _, rfl, SqT.of he, rfl, ?_⟩
        walk_at "go"
        refine ⟨scal_vS _ _, ?_⟩
        walk_at "go"
        rw [show decide (V.str c'.one = vS x) = decide (x = some c'.one) from dvs]
        cases q1 : decide (x = some c'.one) with
        | false =>
          refine iteF (iteF ⟨rfl, ⟨_, _, _, rfl⟩, fun j c2 hj hc2 => ?_⟩)
          rcases Nat.lt_succ_iff_lt_or_eq.mp hj with g | g
          · exact hno j c2 g hc2
          · rw [g, hc'] at hc2
            cases hc2
            show (decide (x = some c'.one) && _) = false
            rw [q1]; rfl
        | true =>
          refine iteT ?_
          walk_at "go"
          refine ite2 (fun q => ?_) (fun q => ?_)
          · walk_at "go"
            have e1 : p.ws.find? (isW x y) = some c' := find_hit hno hc' (by
              show (decide (x = some c'.one) && decide (c'.other = y)) = true
              rw [q1, decide_eq_true (dstr q)]; rfl)
            refine k _ _ (s1.trans s2) ?_
            rw [washF, e1]
            exact oi_dv _
          · refine ⟨rfl, ⟨_, _, _, rfl⟩, fun j c2 hj hc2 => ?_⟩
            rcases Nat.lt_succ_iff_lt_or_eq.mp hj with g | g
            · exact hno j c2 g hc2
            · rw [g, hc'] at hc2
              cases hc2
              show (decide (x = some c'.one) && decide (c'.other = y)) = false
              rw [decide_eq_false (dstrN q), Bool.and_false]
      · rintro σ H1 ⟨rfl, ⟨z1, z2, z3, rfl⟩, hno⟩
        have e1 : p.ws.find? (isW x y) = none := find_miss fun j y hj hy => hno j y (by rw [hds.lenM]; exact hj) hy
        refine k _ _ (s1.trans s2) ?_
        rw [washF, e1]
        exact rfl
end
end K83
set_option maxRecDepth 100000
set_option maxHeartbeats 4000000
namespace K83
open PySem PySem.Spec PyProof.Rows L2
local macro_rules | `(tactic| walk_at "nz") => `(tactic| dsimp -proj only [L2.start, wipe, List.map_cons, List.map_nil, List.set, List.length, List.replicate, List.cons_append, List.nil_append, Nat.reduceSub, Nat.reduceAdd])
local macro_rules | `(tactic| walk_at "gg") => `(tactic| repeat (first | refine ⟨rfl, ?_⟩ | refine ⟨_, rfl, ?_⟩ | refine ⟨_, _, rfl, ?_⟩ | refine ⟨_, _, rfl, rfl, ?_⟩))
local macro_rules | `(tactic| walk_at "go") => `(tactic| ((try walk_at "nz"); walk_at "gg"; (try walk_at "nz")))
def mx (i j : Int) : Int := if j > i then j else i
def movedF (c : Col) (t : Trn) (free : Int) : Trn :=
  ⟨mx t.t free, t.col, mx t.b (mx t.t free + c.charge + c.melt), mx t.b (mx t.t free + c.charge + c.melt) + t.e - t.b⟩
def dcol : Col := ⟨"", 0, 0, 0⟩
def nextFree (p : Pal) (prev : Option Trn) (free : Int) (t : Trn) : Int := match prev with
  | none => free
  | some m => m.e + (washF p.ws (some m.col) t.col).getD 0
def laterF (p : Pal) : Option Trn → Int → List Trn → List Trn
  | _, _, [] => []
  | prev, free, t :: r => movedF ((p.find t.col).getD dcol) t (nextFree p prev free t) :: laterF p (some (movedF ((p.find t.col).getD dcol) t (nextFree p prev free t))) free r
theorem laterF_some (p : Pal) (m : Trn) (f g : Int) : ∀ ts, laterF p (some m) f ts = laterF p (some m) g ts := fun ts => by
  induction ts generalizing m with
  | nil => rfl
  | cons t ts ih =>
    rw [laterF, laterF]
    show _ :: laterF p (some (movedF _ t (nextFree p (some m) g t))) f ts = _
    rw [ih]
    rfl
theorem nil_or_snoc {α : Type} (l : List α) : l = [] ∨ ∃ l' x, l = l' ++ [x] := by
  rcases List.eq_nil_or_concat l with e | ⟨l', x, e⟩
  · exact .inl e
  · exact .inr ⟨l', x, by rw [e, List.concat_eq_append]⟩
/-- the colours are known, and no wash within is barred -/
def Linked (p : Pal) (ts : List Trn) : Prop := (∀ t ∈ ts, ∃ c, p.find t.col = some c) ∧ ∀ i a b, ts[i]? = some a → ts[i + 1]? = some b → ∃ n, washF p.ws (some a.col) b.col = some n
def spMoved : Sp := fun vs H Q _ => ∃ v u p t c free, vs = [v, u, .int free] ∧ Dv H (palD p) v ∧ Dv H (trnD t) u ∧ p.find t.col = some c ∧ Rt (trnD (movedF c t free)) H Q
def spLater : Sp := fun vs H Q _ => ∃ v u p ts free, vs = [v, u, .int free] ∧ Dv H (palD p) v ∧ Dv H (trnsD ts) u ∧ Linked p ts ∧ ts.length ≤ 100000 ∧ RtL ((laterF p none free ts).map trnD) H Q
def spFirstB : Sp := fun vs H Q _ => ∃ u ts hour, vs = [u, .int hour] ∧ Dv H (trnsD ts) u ∧ ts.length ≤ 100000 ∧ Rt (.int ((ts.filter fun t => decide (t.t ≤ hour)).length : Nat)) H Q
section
variable {P : Program} {w : World} {K : PySem.W.Frag} {mg : Str → Option Value} {base : Heap} {A : Nat → Addr} {D : Nat → FuncData} {C : Addr} {tk : Tok}
theorem sc_ready_at : FnScope ["palette", "colour", "at", "name", "charge", "melt", "gathers"] ["palette", "colour", "at"] (defScope (topS 8)) := ⟨rfl, rfl, rfl, by decide +kernel, rfl, by decide +kernel, by decide +kernel⟩
theorem ok_ready_at (T : Tx K mg A D C tk) : FnOk P w K mg base CX0 2 (A 8) (D 8) ["palette", "colour", "at"] spReady := by
  have G_colour_row : FnOk P w K mg base CX0 1 (A 6) (D 6) _ _ := ok_colour_row T
  refine T.fn_ready_at.ok sc_ready_at (fun vs H Q E h => ?_) (fun cdv A0 outer s H vs Q E hr h => ?_)
  · obtain ⟨v, p, x, c, t, rfl, _⟩ := h
    rfl
  · obtain ⟨v, p, x, c, t, rfl, hp, hf, k⟩ := h
    refine ⟨_, (pss_cons (ps_asg (pcall T.d_colour_row G_colour_row (hr.mono (by decide)) rfl (pa_cons (pv 0) (pa_cons (pv 1) pa_nil))) (pgT K 4 rfl (pgs_cons (pg_name (i := 3) sc_ready_at.nd rfl (Or.inl rfl)) (pgs_cons (pg_name (i := 4) sc_ready_at.nd rfl (Or.inl rfl)) (pgs_cons (pg_name (i := 5) sc_ready_at.nd rfl (Or.inl rfl)) (pgs_cons (pg_name (i := 6) sc_ready_at.nd rfl (Or.inl rfl)) pgs_nil))))))
 (pss_one (ps_ret (pe_op op_add (pe_op op_add (pv 2) (pv 4)) (pv 5))))), ?_⟩
    walk_at "go"
    refine ⟨v, p, x, c, rfl, hp, hf, fun r H1 s1 dr => ?_⟩
    obtain ⟨a, rfl, ha⟩ := col_of dr
    refine ⟨a, _, rfl, SqT.of ha, rfl, ?_⟩
    walk_at "go"
    exact k _ _ s1 rfl
theorem sc_moved_turn : FnScope ["palette", "turn", "free", "at", "colour", "begin", "end", "fill", "work"] ["palette", "turn", "free"] (defScope (topS 27)) := ⟨rfl, rfl, rfl, by decide +kernel, rfl, by decide +kernel, by decide +kernel⟩
theorem ok_moved_turn (T : Tx K mg A D C tk) : FnOk P w K mg base CX0 3 (A 27) (D 27) ["palette", "turn", "free"] spMoved := by
  have G_ready_at : FnOk P w K mg base CX0 2 (A 8) (D 8) _ _ := ok_ready_at T
  refine T.d_moved_turn.fn.ok sc_moved_turn (fun vs H Q E h => ?_) (fun cdv A0 outer s H vs Q E hr h => ?_)
  · obtain ⟨v, u, p, t, c, free, rfl, _⟩ := h
    rfl
  · obtain ⟨v, u, p, t, c, free, rfl, hp, ht, hf, k⟩ := h
    refine ⟨_, (pss_cons (ps_asg (pv 1) (pgT K 4 rfl (pgs_cons (pg_name (i := 3) sc_moved_turn.nd rfl (Or.inl rfl)) (pgs_cons (pg_name (i := 4) sc_moved_turn.nd rfl (Or.inl rfl)) (pgs_cons (pg_name (i := 5) sc_moved_turn.nd rfl (Or.inl rfl)) (pgs_cons (pg_name (i := 6) sc_moved_turn.nd rfl (Or.inl rfl)) pgs_nil))))))
 (pss_cons (ps_set (i := 7) sc_moved_turn.nd rfl (Or.inl rfl) (pe_callB (call_max2 rfl) (by rfl) T.max (by decide +kernel) (pa_cons (pv 3) (pa_cons (pv 2) pa_nil))))
 (pss_cons (ps_set (i := 8) sc_moved_turn.nd rfl (Or.inl rfl) (pe_callB (call_max2 rfl) (by rfl) T.max (by decide +kernel) (pa_cons (pv 5) (pa_cons (pe_call G_ready_at (hr.mono (by decide)) rfl T.mg_ready_at T.fn_ready_at.kp T.b_ready_at .nil pass0 (pa_cons (pv 0) (pa_cons (pv 4) (pa_cons (pv 7) pa_nil)))) pa_nil))))
 (pss_one (ps_ret (pe_tup (pa_cons (pv 7) (pa_cons (pv 4) (pa_cons (pv 8) (pa_cons (pe_op op_sub (pe_op op_add (pv 8) (pv 6)) (pv 5)) pa_nil)))))))))), ?_⟩
    obtain ⟨a, rfl, ha⟩ := trn_of ht
    refine ⟨_, rfl, a, _, rfl, SqT.of ha, rfl, ?_⟩
    walk_at "go"
    refine ⟨v, p, t.col, c, _, rfl, hp, hf, fun r H1 s1 dr => ?_⟩
    cases dr
    walk_at "go"
    refine ⟨by show 4 ≤ sizeLine; decide, fun q hq => ?_⟩
    exact k _ _ (Same.new' s1 hq) (trn_mk upd_same)
theorem sc_first_behind : FnScope ["turns", "hour", "turn"] ["turns", "hour"] (defScope (topS 29)) := ⟨rfl, rfl, rfl, by decide +kernel, rfl, by decide +kernel, by decide +kernel⟩
theorem ok_first_behind (T : Tx K mg A D C tk) : FnOk P w K mg base CX0 1 (A 29) (D 29) ["turns", "hour"] spFirstB := by
  refine T.d_first_behind.fn.ok sc_first_behind (fun vs H Q E h => ?_) (fun cdv A0 outer s H vs Q E hr h => ?_)
  · obtain ⟨u, ts, hour, rfl, _⟩ := h
    rfl
  · obtain ⟨u, ts, hour, rfl, ht, hl, k⟩ := h
    refine ⟨_, (pss_one (ps_ret (pe_callB (lenS K) (by rfl) T.len (by decide +kernel) (pa_cons (pe_lc (own := [("turn", 2)]) rfl sc_first_behind.nd (piL K (pv 0)) (blkOk_by (N := ["turns", "hour", "turn"]) (sc := defScope (topS 29)) (by decide +kernel)) (fun _ _ _ _ _ => (pg_name (i := 2) sc_first_behind.nd rfl (Or.inl rfl))) (fun _ _ _ _ _ => (pts_one (pt_cmpR op_le (pe_ix (ixT K) (pv 2) pe_int (fun _ _ => rfl)) (pv 1) (nomark _)))) (fun _ _ _ _ _ => (pv 2))) pa_nil)))), ?_⟩
    obtain ⟨a, xs, rfl, ha, hd⟩ := list_of ht
    walk_at "go"
    obtain ⟨s1, s2, s3⟩ := src_l (K := K) (e := trnD) ha hd
    refine ⟨⟨_, SqL.of ha⟩, lcG (e' := trnD) ts (fun t => if t.t ≤ hour then some t else none) (fun t x H => Dv H (trnD t) x) noT hl s1 s2 s3 ?_ ?_⟩
    · intro t x H1 N M _ sm dx hy hn
      obtain ⟨e, rfl, he⟩ := trn_of dx
      walk_at "go"
      refine ⟨_, _, _, _, rfl, rfl, SqT.of he, rfl, ?_⟩
      walk_at "go"
      refine ite2 (fun q => ?_) (fun q => ?_)
      · walk_at "go"
        exact hy t (if_pos (of_decide_eq_true q)) _ _ (Same.refl _) dx
      · exact hn (if_neg (fun z => q (decide_eq_true z))) _ (Same.refl _)
    · intro p ys H1 hp sm hys dys
      walk_at "go"
      refine ⟨_, _, rfl, .inl (SqL.of hys), ?_⟩
      refine k _ _ sm ?_
      rw [dys.lenM, fm_filter]
      exact rfl
theorem sc_later_turns : FnScope ["palette", "rest", "free", "found", "turn"] ["palette", "rest", "free"] (defScope (topS 28)) := ⟨rfl, rfl, rfl, by decide +kernel, rfl, by decide +kernel, by decide +kernel⟩
theorem ok_later_turns (T : Tx K mg A D C tk) : FnOk P w K mg base CX0 4 (A 28) (D 28) ["palette", "rest", "free"] spLater := by
  have G_moved_turn : FnOk P w K mg base CX0 3 (A 27) (D 27) _ _ := ok_moved_turn T
  have G_wash_for : FnOk P w K mg base CX0 2 (A 7) (D 7) _ _ := ok_wash_for T
  refine T.d_later_turns.fn.ok sc_later_turns (fun vs H Q E h => ?_) (fun cdv A0 outer s H vs Q E hr h => ?_)
  · obtain ⟨v, u, p, ts, free, rfl, _⟩ := h
    rfl
  · obtain ⟨v, u, p, ts, free, rfl, hp, ht, ⟨hc, hw⟩, hsz, k⟩ := h
    obtain ⟨a, xs, rfl, ha, hd⟩ := list_of ht
    refine ⟨_, (pss_cons (ps_set (i := 3) sc_later_turns.nd rfl (Or.inl rfl) (pe_lst pa_nil))
 (pss_cons (ps_for PassesOwn.never rfl (piL K (pv 1)) (pg_name (i := 4) sc_later_turns.nd rfl (Or.inl rfl)) (pss_cons (ps_if (pt_cmpR op_gt (pe_callB (lenS K) (by rfl) T.len (by decide +kernel) (pa_cons (pv 3) pa_nil)) pe_int (nomark _)) (pss_one (ps_set (i := 2) sc_later_turns.nd rfl (Or.inl rfl) (pe_op op_add (pe_ix (ixT K) (pe_ix (ixL K) (pv 3) (pe_un un_neg pe_int) (fun _ _ => rfl)) pe_int (fun _ _ => rfl)) (pcall T.d_wash_for G_wash_for (hr.mono (by decide)) rfl (pa_cons (pv 0) (pa_cons (pe_ix (ixT K) (pe_ix (ixL K) (pv 3) (pe_un un_neg pe_int) (fun _ _ => rfl)) pe_int (fun _ _ => rfl)) (pa_cons (pe_ix (ixT K) (pv 4) pe_int (fun _ _ => rfl)) pa_nil))))))) pss_nil)
 (pss_one (ps_expr (pe_bm PySem.F.plainAttrs_list PySem.F.slot_list_append PySem.F.type_list_append mt_append (pv 3) (pa_cons (pcall T.d_moved_turn G_moved_turn (hr.mono (by decide)) rfl (pa_cons (pv 0) (pa_cons (pv 4) (pa_cons (pv 2) pa_nil)))) pa_nil))))))
 (pss_one (ps_ret (pv 3))))), ?_⟩
    refine ⟨Nat.zero_le _, fun l hl => ?_⟩
    let Pv : Nat → L2.St → Hp → Prop := fun i σ H1 => ∃ (fr : Int) (z : Option V) (ys : List V) (ms : List Trn), σ = [some v, some (.ref a), some (.int fr), some (.ref l), z] ∧ Same H H1 ∧
      H1 l = some (.lst ys) ∧ DvAll H1 (ms.map trnD) ys ∧ ms.length = i ∧ (∀ m, ms.getLast? = some m → ∃ t0 j, i = j + 1 ∧ ts[j]? = some t0 ∧ m.col = t0.col) ∧ laterF p none free ts = ms ++ laterF p ms.getLast? fr (ts.drop i)
    refine ⟨_, rfl, a, rfl, ⟨_, SqL.of (Same.new hl _ _ ha)⟩, for_list (K := K) (a := a) (xs := xs) Pv ?_ ?_ ?_ ?_⟩
    · exact ⟨free, none, [], [], rfl, Same.new hl, upd_same, .nil, rfl, (fun m z => nomatch z), rfl⟩
    · rintro i σ H1 _ ⟨_, _, _, _, _, s1, _⟩
      exact SqL.of (s1 _ _ ha)
    · rintro i y σ H1 hy ⟨fr, z, ys, ms, rfl, s1, hys, dys, hms, hlast, heq⟩
      obtain ⟨t, ht, dt⟩ := hd.at hy
      obtain ⟨c, hcf⟩ := hc t (List.mem_of_getElem? ht)
      have rest : ∀ (f : Int) (H2 : Hp) (Dx : Ends), f = nextFree p ms.getLast? fr t → Same H1 H2 → Dx.nx = Pv (i + 1) →
          tDrop (tBM K "list" rAppend (tVar 3) (tCons (tCall spMoved [] E0 (tCons (tVar 0) (tCons (tVar 4) (tCons (tVar 2) tNil)))) tNil)) Dx [some v, some (.ref a), some (.int f), some (.ref l), some y] H2 := fun f H2 Dx hf s2 hD => by
        walk_at "go"
        refine ⟨.inl ⟨rfl, _, SqL.of (s2 _ _ hys)⟩, ?_⟩
        walk_at "go"
        refine ⟨v, y, p, t, c, f, rfl, hp.same (s1.trans s2), dt.same (s1.trans s2), hcf, fun r H3 s3 dr => ?_⟩
        have hl3 := s3 _ _ (s2 _ _ hys)
        refine ⟨l, ys, r, rfl, rfl, hl3, ?_, ?_⟩
        · have := dys.lenM
          have hi : i < ts.length := (List.getElem?_eq_some_iff.mp ht).1
          rw [sizeLine_eq]; omega
        · rw [hD]
          refine ⟨f, _, ys ++ [r], ms ++ [movedF c t f], rfl, Same.mut (s1.trans (s2.trans s3)) hl, upd_same, ?_, by rw [List.length_append, hms]; rfl, fun m hm => ?_, ?_⟩
          · rw [List.map_append]
            exact (DvAll.upd (notup_l hl3) (noLA noT _) (dys.same (s2.trans s3))).append (.cons (Dv.upd (notup_l hl3) (noT _) dr) .nil)
          · rw [List.getLast?_concat] at hm
            cases hm
            exact ⟨t, i, rfl, ht, rfl⟩
          · have hi : i < ts.length := (List.getElem?_eq_some_iff.mp ht).1
            have e1 : ts.drop i = t :: ts.drop (i + 1) := by
              rw [List.drop_eq_getElem_cons hi]
              rw [List.getElem?_eq_getElem hi] at ht
              cases ht
              rfl
            rw [heq, e1, List.append_assoc, List.getLast?_concat]
            rw [laterF, ← hf, hcf]
            show ms ++ (movedF c t f :: laterF p (some (movedF c t f)) fr (ts.drop (i + 1))) = ms ++ ([movedF c t f] ++ laterF p (some (movedF c t f)) f (ts.drop (i + 1)))
            rw [laterF_some p _ fr f]
            rfl
      walk_at "go"
      refine ⟨_, _, rfl, .inl (SqL.of hys), ?_⟩
      walk_at "go"
      refine ite2 (fun q => ?_) (fun q => ?_)
      · rcases nil_or_snoc ms with e | ⟨ms', m, e⟩
        · rw [e] at dys
          cases dys
          exact absurd (of_decide_eq_true q) (by decide)
        · have hl0 : ms.getLast? = some m := by rw [e, List.getLast?_concat]
          obtain ⟨t0, j, hj, ht0, hmc⟩ := hlast m hl0
          obtain ⟨n, hn⟩ := hw j t0 t ht0 (by rw [← hj]; exact ht)
          have hlst : ∃ ys' y', ys = ys' ++ [y'] ∧ Dv H1 (trnD m) y' := by
            rw [e, List.map_append] at dys
            obtain ⟨A1, A2, e1, e2, e3⟩ := DvAll.split dys
            obtain ⟨x, r, rfl, h1, h2⟩ := e3
            cases h2
            exact ⟨A1, x, e1, h1⟩
          obtain ⟨ys', y', rfl, dm⟩ := hlst
          obtain ⟨am, rfl, ham⟩ := trn_of dm
          walk_at "go"
          refine ⟨_, _, _, _, rfl, rfl, SqL.of hys, atI_last _ _, ?_⟩
          walk_at "go"
          refine ⟨_, _, _, _, rfl, rfl, SqT.of ham, rfl, ?_⟩
          walk_at "go"
          refine ⟨_, _, _, _, rfl, rfl, SqL.of hys, atI_last _ _, ?_⟩
          walk_at "go"
          refine ⟨_, _, _, _, rfl, rfl, SqT.of ham, rfl, ?_⟩
          obtain ⟨at_, rfl, hat⟩ := trn_of dt
          walk_at "go"
          refine ⟨_, _, _, _, rfl, rfl, SqT.of (s1 _ _ hat), rfl, ?_⟩
          walk_at "go"
          obtain ⟨c0, hc0⟩ := hc t0 (List.mem_of_getElem? ht0)
          refine ⟨v, p, some m.col, t.col, c, rfl, hp.same s1, (fun x hx => by cases hx; exact ⟨c0, by rw [hmc]; exact hc0⟩), hcf, fun r H3 s3 dr => ?_⟩
          rw [hmc, hn] at dr
          cases dr
          refine ⟨_, _, rfl, rfl, ?_⟩
          refine rest _ H3 _ ?_ s3 ?_
          rotate_left
          · rfl
          rw [hl0]
          show m.e + n = m.e + (washF p.ws (some m.col) t.col).getD 0
          rw [hmc, hn]
          rfl
      · rcases nil_or_snoc ms with e | ⟨ms', m, e⟩
        · refine rest _ _ _ (by rw [e]; rfl) (Same.refl _) ?_
          rfl
        · refine absurd (decide_eq_true ?_) q
          have := dys.lenM
          rw [e, List.length_append] at this
          show (0 : Int) < _
          have h1 : ([m] : List Trn).length = 1 := rfl
          omega
    · rintro σ H1 ⟨fr, z, ys, ms, rfl, s1, hys, dys, hms, hlast, heq⟩
      walk_at "go"
      have e1 : ts.drop xs.length = [] := List.drop_eq_nil_of_le (by rw [hd.lenM]; exact Nat.le_refl _)
      have e2 : laterF p none free ts = ms := by
        rw [heq, e1]
        show ms ++ [] = ms
        rw [List.append_nil]
      exact k l ys H1 hl s1 hys (by rw [e2]; exact dys)
end
end K83
set_option maxRecDepth 100000
set_option maxHeartbeats 4000000
namespace K83
open PySem PySem.Spec PyProof.Rows L2
local macro_rules | `(tactic| walk_at "nz") => `(tactic| dsimp -proj only [L2.start, wipe, List.map_cons, List.map_nil, List.set, List.length, List.replicate, List.cons_append, List.nil_append, Nat.reduceSub, Nat.reduceAdd])
local macro_rules | `(tactic| walk_at "gg") => `(tactic| repeat (first | refine ⟨rfl, ?_⟩ | refine ⟨_, rfl, ?_⟩ | refine ⟨_, _, rfl, ?_⟩ | refine ⟨_, _, rfl, rfl, ?_⟩))
local macro_rules | `(tactic| walk_at "go") => `(tactic| ((try walk_at "nz"); walk_at "gg"; (try walk_at "nz")))
def LastF (ts : List Trn) (hour : Int) : Option Nat → Prop
  | none => ∀ t ∈ ts, hour < t.t
  | some m => ∃ t, ts[m]? = some t ∧ t.t ≤ hour ∧ ∀ j t', m < j → ts[j]? = some t' → hour < t'.t
def wordsF (c : Col) (t : Trn) (wash : Int) : List (Str × Int) := [("filled", t.t + c.charge), ("melting", t.t + c.charge + c.melt), ("ready", t.b), ("worked", t.e), ("washed", t.e + wash)]
def wrdD (q : Str × Int) : PyData := .tuple [.str q.1, .int q.2]
theorem noWrd (q : Str × Int) : noList (wrdD q) = true := rfl
theorem wrd_mk {H : Hp} {q : Str × Int} {a : Addr} (h : H a = some (.tup [.str q.1, .int q.2])) : Dv H (wrdD q) (.ref a) := ⟨a, _, rfl, h, _, _, rfl, rfl, _, _, rfl, rfl, rfl⟩
theorem wrd_of {H : Hp} {q : Str × Int} {v : V} (h : Dv H (wrdD q) v) : ∃ a, v = .ref a ∧ H a = some (.tup [.str q.1, .int q.2]) := by
  obtain ⟨a, xs, e, ha, x1, r1, rfl, h1, x2, r2, rfl, h2, h6⟩ := h
  cases h1; cases h2; cases h6
  exact ⟨a, e, ha⟩
def wordF (c : Col) (t : Trn) (wash hour : Int) : Str := match (wordsF c t wash).find? (fun q => decide (hour < q.2)) with
  | some q => q.1
  | none => "out"
/-- what state_at tells -/
def StateF (p : Pal) (ts : List Trn) (hour : Int) (w : Str) (o : Option Nat) : Prop := LastF ts hour o ∧ match o with
  | none => w = "out"
  | some m => ∃ t c wash, ts[m]? = some t ∧ p.find t.col = some c ∧ w = wordF c t wash hour
def vN : Option Nat → V
  | none => .non
  | some n => .int n
def spWashB : Sp := fun vs H Q _ => ∃ v u p ts n, vs = [v, u, .int ((n : Nat) : Int)] ∧ Dv H (palD p) v ∧ Dv H (trnsD ts) u ∧ n < ts.length ∧ Linked p ts ∧ ∀ (i : Int) H', Same H H' → Q (.int i) H'
def spLastF : Sp := fun vs H Q _ => ∃ u ts hour, vs = [u, .int hour] ∧ Dv H (trnsD ts) u ∧ ts.length ≤ 100000 ∧ ∀ o H', Same H H' → LastF ts hour o → Q (vN o) H'
def spWordE : Sp := fun vs H Q _ => ∃ v u p t c wash, vs = [v, u, .int wash] ∧ Dv H (palD p) v ∧ Dv H (trnD t) u ∧ p.find t.col = some c ∧ RtL ((wordsF c t wash).map wrdD) H Q
def spWordB : Sp := fun vs H Q _ => ∃ v u p t c wash hour, vs = [v, u, .int wash, .int hour] ∧ Dv H (palD p) v ∧ Dv H (trnD t) u ∧ p.find t.col = some c ∧ Rt (.str (wordF c t wash hour)) H Q
def spState : Sp := fun vs H Q _ => ∃ v u p ts hour, vs = [v, u, .int hour] ∧ Dv H (palD p) v ∧ Dv H (trnsD ts) u ∧ ts.length ≤ 100000 ∧ Linked p ts ∧
  ∀ w o a H', Same H H' → StateF p ts hour w o → H' a = some (.tup [.str w, vN o]) → Q (.ref a) H'
section
variable {P : Program} {w : World} {K : PySem.W.Frag} {mg : Str → Option Value} {base : Heap} {A : Nat → Addr} {D : Nat → FuncData} {C : Addr} {tk : Tok}
theorem sc_wash_behind : FnScope ["palette", "turns", "number"] ["palette", "turns", "number"] (defScope (topS 23)) := ⟨rfl, rfl, rfl, by decide +kernel, rfl, by decide +kernel, by decide +kernel⟩
theorem ok_wash_behind (T : Tx K mg A D C tk) : FnOk P w K mg base CX0 3 (A 23) (D 23) ["palette", "turns", "number"] spWashB := by
  have G_wash_for : FnOk P w K mg base CX0 2 (A 7) (D 7) _ _ := ok_wash_for T
  refine T.d_wash_behind.fn.ok sc_wash_behind (fun vs H Q E h => ?_) (fun cdv A0 outer s H vs Q E hr h => ?_)
  · obtain ⟨v, u, p, ts, n, rfl, _⟩ := h
    rfl
  · obtain ⟨v, u, p, ts, n, rfl, hp, ht, hn, ⟨hc, hw⟩, k⟩ := h
    obtain ⟨a, xs, rfl, ha, hd⟩ := list_of ht
    refine ⟨_, (pss_cons (ps_if (pt_cmpR op_eq (pe_op op_add (pv 2) pe_int) (pe_callB (lenS K) (by rfl) T.len (by decide +kernel) (pa_cons (pv 1) pa_nil)) (nomark _)) (pss_one (ps_ret pe_int)) pss_nil)
 (pss_one (ps_ret (pcall T.d_wash_for G_wash_for (hr.mono (by decide)) rfl (pa_cons (pv 0) (pa_cons (pe_ix (ixT K) (pe_ix (ixL K) (pv 1) (pv 2) (fun _ _ => rfl)) pe_int (fun _ _ => rfl)) (pa_cons (pe_ix (ixT K) (pe_ix (ixL K) (pv 1) (pe_op op_add (pv 2) pe_int) (fun _ _ => rfl)) pe_int (fun _ _ => rfl)) pa_nil))))))), ?_⟩
    walk_at "go"
    refine ⟨_, _, rfl, .inl (SqL.of ha), ?_⟩
    walk_at "go"
    refine ite2 (fun q => ?_) (fun q => ?_)
    · exact k 0 _ (Same.refl _)
    · have e0 : ¬ ((n : Int) + 1 = ((xs.length : Nat) : Int)) := by simpa using q
      have hl := hd.lenM
      obtain ⟨x1, hx1, d1⟩ := hd.of (List.getElem?_eq_getElem hn)
      have hn2 : n + 1 < ts.length := by omega
      obtain ⟨x2, hx2, d2⟩ := hd.of (List.getElem?_eq_getElem hn2)
      obtain ⟨a1, rfl, h1⟩ := trn_of d1
      obtain ⟨a2, rfl, h2⟩ := trn_of d2
      obtain ⟨c1, hc1⟩ := hc _ (List.getElem_mem hn)
      obtain ⟨c2, hc2⟩ := hc _ (List.getElem_mem hn2)
      obtain ⟨m, hm⟩ := hw n _ _ (List.getElem?_eq_getElem hn) (List.getElem?_eq_getElem hn2)
      walk_at "go"
      refine ⟨_, _, _, _, rfl, rfl, SqL.of ha, atI_nat hx1, ?_⟩
      refine ⟨_, _, _, _, rfl, rfl, SqT.of h1, rfl, ?_⟩
      walk_at "go"
      refine ⟨_, _, _, _, rfl, rfl, SqL.of ha, atI_nat (j := n + 1) hx2, ?_⟩
      refine ⟨_, _, _, _, rfl, rfl, SqT.of h2, rfl, ?_⟩
      walk_at "go"
      refine ⟨v, p, some _, _, c2, rfl, hp, (fun x hx => by cases hx; exact ⟨c1, hc1⟩), hc2, fun r H3 s3 dr => ?_⟩
      rw [hm] at dr
      cases dr
      exact k m _ s3
theorem sc_last_filled : FnScope ["turns", "hour", "number", "turn"] ["turns", "hour"] (defScope (topS 24)) := ⟨rfl, rfl, rfl, by decide +kernel, rfl, by decide +kernel, by decide +kernel⟩
theorem ok_last_filled (T : Tx K mg A D C tk) : FnOk P w K mg base CX0 1 (A 24) (D 24) ["turns", "hour"] spLastF := by
  refine T.d_last_filled.fn.ok sc_last_filled (fun vs H Q E h => ?_) (fun cdv A0 outer s H vs Q E hr h => ?_)
  · obtain ⟨u, ts, hour, rfl, _⟩ := h
    rfl
  · obtain ⟨u, ts, hour, rfl, ht, hl, k⟩ := h
    obtain ⟨a, xs, rfl, ha, hd⟩ := list_of ht
    refine ⟨_, (pss_one (ps_ret (pe_callBK (cr_max0 rfl) (by rfl) T.max (by decide +kernel) (pa_cons (pe_lc (own := [("number", 2), ("turn", 3)]) rfl sc_last_filled.nd (piE K (by rfl) T.enumerate (pa_cons (pv 0) pa_nil)) (blkOk_by (N := ["turns", "hour", "number", "turn"]) (sc := defScope (topS 24)) (by decide +kernel)) (fun _ _ _ _ _ => (pgT K 2 rfl (pgs_cons (pg_name (i := 2) sc_last_filled.nd rfl (Or.inl rfl)) (pgs_cons (pg_name (i := 3) sc_last_filled.nd rfl (Or.inl rfl)) pgs_nil)))) (fun _ _ _ _ _ => (pts_one (pt_cmpR op_le (pe_ix (ixT K) (pv 3) pe_int (fun _ _ => rfl)) (pv 1) (nomark _)))) (fun _ _ _ _ _ => (pv 2))) pa_nil) (pk_cons pe_non pk_nil)))), ?_⟩
    walk_at "go"
    obtain ⟨s1, s2, s3⟩ := src_e (K := K) (e := trnD) ha hd
    refine ⟨_, _, rfl, SqL.of ha, lcG (e' := PyData.int) ts.zipIdx (fun q => if q.1.t ≤ hour then some ((q.2 : Nat) : Int) else none) (PairAt trnD) (fun _ => rfl) (by rw [List.length_zipIdx]; exact hl) s1 s2 s3 ?_ ?_⟩
    · rintro ⟨t, i⟩ x H1 N M _ sm ⟨T0, y, rfl, hT, dy⟩ hy hn
      obtain ⟨e, rfl, he⟩ := trn_of dy
      refine ⟨_, _, rfl, SqT.of hT, rfl, ?_⟩
      walk_at "go"
      refine ⟨_, _, _, _, rfl, rfl, SqT.of he, rfl, ?_⟩
      walk_at "go"
      refine ite2 (fun q => ?_) (fun q => ?_)
      · walk_at "go"
        exact hy i (if_pos (of_decide_eq_true q)) _ _ (Same.refl _) rfl
      · exact hn (if_neg (fun z => q (decide_eq_true z))) _ (Same.refl _)
    · intro p ys H1 hp sm hys dys
      have ey := DvAll.ints' dys
      subst ey
      have mem : ∀ i : Nat, (∃ t, ts[i]? = some t ∧ t.t ≤ hour) → (i : Int) ∈ ts.zipIdx.filterMap fun q => if q.1.t ≤ hour then some ((q.2 : Nat) : Int) else none := fun i ⟨t, h1, h2⟩ =>
        List.mem_filterMap.mpr ⟨(t, i), List.mem_zipIdx_iff_getElem?.mpr h1, if_pos h2⟩
      have mem' : ∀ m : Int, m ∈ (ts.zipIdx.filterMap fun q => if q.1.t ≤ hour then some ((q.2 : Nat) : Int) else none) → ∃ i t, m = ((i : Nat) : Int) ∧ ts[i]? = some t ∧ t.t ≤ hour := fun m hm => by
        obtain ⟨⟨t, i⟩, h1, h2⟩ := List.mem_filterMap.mp hm
        by_cases h3 : t.t ≤ hour
        · rw [if_pos h3] at h2
          cases h2
          exact ⟨i, t, rfl, List.mem_zipIdx_iff_getElem?.mp h1, h3⟩
        · rw [if_neg h3] at h2
          cases h2
      refine ⟨_, _, rfl, rfl, SqL.of hys, fun en H2 s2' => ?_, fun m hm hmax H2 s2' => ?_⟩
      · refine k none _ (sm.trans s2') fun t ht => ?_
        obtain ⟨i, hi, rfl⟩ := List.getElem_of_mem ht
        refine Int.lt_of_not_ge fun z => ?_
        have := mem i ⟨_, List.getElem?_eq_getElem hi, z⟩
        rw [en] at this
        cases this
      · obtain ⟨i, t, rfl, hi, hle⟩ := mem' m hm
        refine k (some i) _ (sm.trans s2') ⟨t, hi, hle, fun j t' hj ht' => ?_⟩
        refine Int.lt_of_not_ge fun z => ?_
        have := hmax _ (mem j ⟨t', ht', z⟩)
        omega
theorem sc_word_ends : FnScope ["palette", "turn", "wash", "at", "colour", "begin", "end", "charged", "melted"] ["palette", "turn", "wash"] (defScope (topS 21)) := ⟨rfl, rfl, rfl, by decide +kernel, rfl, by decide +kernel, by decide +kernel⟩
theorem ok_word_ends (T : Tx K mg A D C tk) : FnOk P w K mg base CX0 3 (A 21) (D 21) ["palette", "turn", "wash"] spWordE := by
  have G_colour_row : FnOk P w K mg base CX0 1 (A 6) (D 6) _ _ := ok_colour_row T
  have G_ready_at : FnOk P w K mg base CX0 2 (A 8) (D 8) _ _ := ok_ready_at T
  refine T.d_word_ends.fn.ok sc_word_ends (fun vs H Q E h => ?_) (fun cdv A0 outer s H vs Q E hr h => ?_)
  · obtain ⟨v, u, p, t, c, wash, rfl, _⟩ := h
    rfl
  · obtain ⟨v, u, p, t, c, wash, rfl, hp, ht, hf, k⟩ := h
    obtain ⟨a, rfl, ha⟩ := trn_of ht
    refine ⟨_, (pss_cons (ps_asg (pv 1) (pgT K 4 rfl (pgs_cons (pg_name (i := 3) sc_word_ends.nd rfl (Or.inl rfl)) (pgs_cons (pg_name (i := 4) sc_word_ends.nd rfl (Or.inl rfl)) (pgs_cons (pg_name (i := 5) sc_word_ends.nd rfl (Or.inl rfl)) (pgs_cons (pg_name (i := 6) sc_word_ends.nd rfl (Or.inl rfl)) pgs_nil))))))
 (pss_cons (ps_set (i := 7) sc_word_ends.nd rfl (Or.inl rfl) (pe_op op_add (pv 3) (pe_ix (ixT K) (pcall T.d_colour_row G_colour_row (hr.mono (by decide)) rfl (pa_cons (pv 0) (pa_cons (pv 4) pa_nil))) pe_int (fun _ _ => rfl))))
 (pss_cons (ps_set (i := 8) sc_word_ends.nd rfl (Or.inl rfl) (pe_call G_ready_at (hr.mono (by decide)) rfl T.mg_ready_at T.fn_ready_at.kp T.b_ready_at .nil pass0 (pa_cons (pv 0) (pa_cons (pv 4) (pa_cons (pv 3) pa_nil)))))
 (pss_one (ps_ret (pe_lst (pa_cons (pe_tup (pa_cons pe_str (pa_cons (pv 7) pa_nil))) (pa_cons (pe_tup (pa_cons pe_str (pa_cons (pv 8) pa_nil))) (pa_cons (pe_tup (pa_cons pe_str (pa_cons (pv 5) pa_nil))) (pa_cons (pe_tup (pa_cons pe_str (pa_cons (pv 6) pa_nil))) (pa_cons (pe_tup (pa_cons pe_str (pa_cons (pe_op op_add (pv 6) (pv 2)) pa_nil))) pa_nil))))))))))), ?_⟩
    refine ⟨_, rfl, a, _, rfl, SqT.of ha, rfl, ?_⟩
    walk_at "go"
    refine ⟨v, p, t.col, c, rfl, hp, hf, fun r H1 s1 dr => ?_⟩
    obtain ⟨e, rfl, he⟩ := col_of dr
    refine ⟨_, _, _, _, rfl, rfl, SqT.of he, rfl, ?_⟩
    walk_at "go"
    refine ⟨v, p, t.col, c, _, rfl, hp.same s1, hf, fun r H2 s2 dr => ?_⟩
    cases dr
    walk_at "go"
    refine ⟨by show 2 ≤ sizeLine; decide, fun q1 h1 => ?_⟩
    walk_at "go"
    refine ⟨by show 2 ≤ sizeLine; decide, fun q2 h2 => ?_⟩
    walk_at "go"
    refine ⟨by show 2 ≤ sizeLine; decide, fun q3 h3 => ?_⟩
    walk_at "go"
    refine ⟨by show 2 ≤ sizeLine; decide, fun q4 h4 => ?_⟩
    walk_at "go"
    refine ⟨by show 2 ≤ sizeLine; decide, fun q5 h5 => ?_⟩
    refine ⟨by show 5 ≤ sizeLine; decide, fun l hl => ?_⟩
    have n5 := (Same.new (o := .lst [V.ref q1, V.ref q2, V.ref q3, V.ref q4, V.ref q5]) hl)
    have n4 := (Same.new (o := .tup [.str "washed", .int (t.e + wash)]) h5).trans n5
    have n3 := (Same.new (o := .tup [.str "worked", .int t.e]) h4).trans n4
    have n2 := (Same.new (o := .tup [.str "ready", .int t.b]) h3).trans n3
    have n1 := (Same.new (o := .tup [.str "melting", .int (t.t + c.charge + c.melt)]) h2).trans n2
    have n0 := (Same.new (o := .tup [.str "filled", .int (t.t + c.charge)]) h1).trans n1
    exact k l _ _ (s1.free (s2.free ((Same.new h1).free ((Same.new h2).free ((Same.new h3).free ((Same.new h4).free ((Same.new h5).free hl))))))) (s1.trans (s2.trans n0)) upd_same
      (.cons (wrd_mk (n1 _ _ upd_same)) (.cons (wrd_mk (n2 _ _ upd_same)) (.cons (wrd_mk (n3 _ _ upd_same)) (.cons (wrd_mk (n4 _ _ upd_same)) (.cons (wrd_mk (n5 _ _ upd_same)) .nil)))))
theorem sc_word_by : FnScope ["palette", "turn", "wash", "hour", "word", "until"] ["palette", "turn", "wash", "hour"] (defScope (topS 22)) := ⟨rfl, rfl, rfl, by decide +kernel, rfl, by decide +kernel, by decide +kernel⟩
theorem ok_word_by (T : Tx K mg A D C tk) : FnOk P w K mg base CX0 4 (A 22) (D 22) ["palette", "turn", "wash", "hour"] spWordB := by
  have G_word_ends : FnOk P w K mg base CX0 3 (A 21) (D 21) _ _ := ok_word_ends T
  refine T.d_word_by.fn.ok sc_word_by (fun vs H Q E h => ?_) (fun cdv A0 outer s H vs Q E hr h => ?_)
  · obtain ⟨v, u, p, t, c, wash, hour, rfl, _⟩ := h
    rfl
  · obtain ⟨v, u, p, t, c, wash, hour, rfl, hp, ht, hf, k⟩ := h
    refine ⟨_, (pss_cons (ps_for PassesOwn.never rfl (piL K (pcall T.d_word_ends G_word_ends (hr.mono (by decide)) rfl (pa_cons (pv 0) (pa_cons (pv 1) (pa_cons (pv 2) pa_nil))))) (pgT K 2 rfl (pgs_cons (pg_name (i := 4) sc_word_by.nd rfl (Or.inl rfl)) (pgs_cons (pg_name (i := 5) sc_word_by.nd rfl (Or.inl rfl)) pgs_nil))) (pss_one (ps_if (pt_cmpR op_lt (pv 3) (pv 5) (nomark _)) (pss_one (ps_ret (pv 4))) pss_nil)))
 (pss_one (ps_ret (pe_glob rfl T.OUT (relS _ _))))), ?_⟩
    walk_at "go"
    refine ⟨v, u, p, t, c, wash, rfl, hp, ht, hf, fun l xs H1 hl s1 hxs dxs => ?_⟩
    refine ⟨l, rfl, ⟨_, SqL.of hxs⟩, for_list (K := K) (a := l) (xs := xs) (fun i σ H2 => H2 = H1 ∧ (∃ z1 z2, σ = [some v, some u, some (.int wash), some (.int hour), z1, z2]) ∧ ∀ j q, j < i → (wordsF c t wash)[j]? = some q → decide (hour < q.2) = false) ⟨rfl, ⟨_, _, rfl⟩, fun j c' hj => absurd hj (Nat.not_lt_zero _)⟩ (fun i σ H2 _ z => by rw [z.1]; exact SqL.of hxs) ?_ ?_⟩
    · rintro i y σ H2 hy ⟨rfl, ⟨z1, z2, rfl⟩, hno⟩
      obtain ⟨q, hq, dq⟩ := dxs.at hy
      obtain ⟨e, rfl, he⟩ := wrd_of dq
      refine ⟨_, _, rfl, SqT.of he, rfl, ?_⟩
      walk_at "go"
      refine ite2 (fun z => ?_) (fun z => ?_)
      · walk_at "go"
        have e1 := find_hit (p := fun q : Str × Int => decide (hour < q.2)) hno hq z
        refine k _ _ s1 ?_
        rw [wordF, e1]
        exact rfl
      · refine ⟨rfl, ⟨_, _, rfl⟩, fun j c2 hj hc2 => ?_⟩
        rcases Nat.lt_succ_iff_lt_or_eq.mp hj with g | g
        · exact hno j c2 g hc2
        · rw [g, hq] at hc2
          cases hc2
          simpa using z
    · rintro σ H2 ⟨rfl, ⟨z1, z2, rfl⟩, hno⟩
      have e1 : (wordsF c t wash).find? (fun q => decide (hour < q.2)) = none := find_miss fun j y hj hy => hno j y (by rw [dxs.lenM]; exact hj) hy
      refine k _ _ s1 ?_
      rw [wordF, e1]
      exact rfl
theorem sc_state_at : FnScope ["palette", "turns", "hour", "number"] ["palette", "turns", "hour"] (defScope (topS 25)) := ⟨rfl, rfl, rfl, by decide +kernel, rfl, by decide +kernel, by decide +kernel⟩
theorem ok_state_at (T : Tx K mg A D C tk) : FnOk P w K mg base CX0 5 (A 25) (D 25) ["palette", "turns", "hour"] spState := by
  have G_last_filled : FnOk P w K mg base CX0 1 (A 24) (D 24) _ _ := ok_last_filled T
  have G_wash_behind : FnOk P w K mg base CX0 3 (A 23) (D 23) _ _ := ok_wash_behind T
  have G_word_by : FnOk P w K mg base CX0 4 (A 22) (D 22) _ _ := ok_word_by T
  refine T.d_state_at.fn.ok sc_state_at (fun vs H Q E h => ?_) (fun cdv A0 outer s H vs Q E hr h => ?_)
  · obtain ⟨v, u, p, ts, hour, rfl, _⟩ := h
    rfl
  · obtain ⟨v, u, p, ts, hour, rfl, hp, ht, hsz, hlk, k⟩ := h
    refine ⟨_, (pss_cons (ps_set (i := 3) sc_state_at.nd rfl (Or.inl rfl) (pcall T.d_last_filled G_last_filled (hr.mono (by decide)) rfl (pa_cons (pv 1) (pa_cons (pv 2) pa_nil))))
 (pss_cons (ps_if (pt_cmpR op_isN (pv 3) pe_non (nomark _)) (pss_one (ps_ret (pe_tup (pa_cons (pe_glob rfl T.OUT (relS _ _)) (pa_cons pe_non pa_nil))))) pss_nil)
 (pss_one (ps_ret (pe_tup (pa_cons (pcall T.d_word_by G_word_by (hr.mono (by decide)) rfl (pa_cons (pv 0) (pa_cons (pe_ix (ixL K) (pv 1) (pv 3) (fun _ _ => rfl)) (pa_cons (pcall T.d_wash_behind G_wash_behind (hr.mono (by decide)) rfl (pa_cons (pv 0) (pa_cons (pv 1) (pa_cons (pv 3) pa_nil)))) (pa_cons (pv 2) pa_nil))))) (pa_cons (pv 3) pa_nil))))))), ?_⟩
    walk_at "go"
    refine ⟨u, ts, hour, rfl, ht, hsz, fun o H1 s1 ho => ?_⟩
    walk_at "go"
    cases o with
    | none =>
      refine iteT ?_
      walk_at "go"
      refine ⟨by show 2 ≤ sizeLine; decide, fun q hq => ?_⟩
      exact k _ none _ _ (Same.new' s1 hq) ⟨ho, rfl⟩ upd_same
    | some m =>
      refine iteF ?_
      obtain ⟨a, xs, rfl, ha, hd⟩ := list_of ht
      obtain ⟨t, hm, hle, hlater⟩ := id ho
      obtain ⟨x, hx, dx⟩ := hd.of hm
      obtain ⟨c, hc⟩ := hlk.1 t (List.mem_of_getElem? hm)
      walk_at "go"
      refine ⟨_, _, _, _, rfl, rfl, SqL.of (s1 _ _ ha), atI_nat hx, ?_⟩
      walk_at "go"
      refine ⟨v, _, p, ts, m, rfl, hp.same s1, ht.same s1, (List.getElem?_eq_some_iff.mp hm).1, hlk, fun n H2 s2 => ?_⟩
      walk_at "go"
      refine ⟨v, x, p, t, c, n, hour, rfl, hp.same (s1.trans s2), dx.same (s1.trans s2), hc, fun r H3 s3 dr => ?_⟩
      cases dr
      walk_at "go"
      refine ⟨by show 2 ≤ sizeLine; decide, fun q hq => ?_⟩
      exact k _ (some m) _ _ (Same.new' (s1.trans (s2.trans s3)) hq) ⟨ho, t, c, n, hm, hc, rfl⟩ upd_same
end
end K83
set_option maxRecDepth 100000
set_option maxHeartbeats 4000000
namespace K83
open PySem PySem.Spec PyProof.Rows L2
local macro_rules | `(tactic| walk_at "nz") => `(tactic| dsimp -proj only [L2.start, wipe, List.map_cons, List.map_nil, List.set, List.length, List.replicate, List.cons_append, List.nil_append, Nat.reduceSub, Nat.reduceAdd])
local macro_rules | `(tactic| walk_at "gg") => `(tactic| repeat (first | refine ⟨rfl, ?_⟩ | refine ⟨_, rfl, ?_⟩ | refine ⟨_, _, rfl, ?_⟩ | refine ⟨_, _, rfl, rfl, ?_⟩))
local macro_rules | `(tactic| walk_at "go") => `(tactic| ((try walk_at "nz"); walk_at "gg"; (try walk_at "nz")))
def sOk (x : Str) : Prop := PyData.strOk x = true
/-- a palette as it is drawn -/
structure POk (p : Pal) : Prop where
  ne : p.cs ≠ []
  len : p.cs.length ≤ 1000
  wlen : p.ws.length ≤ 1000
  nd : (p.cs.map (·.name)).Nodup
  col : ∀ c ∈ p.cs, sOk c.name ∧ 0 ≤ c.charge ∧ 0 ≤ c.melt ∧ 1 ≤ c.gathers ∧ c.gathers ≤ 1000
  wash : ∀ w ∈ p.ws, sOk w.one ∧ sOk w.other ∧ ∀ n, w.hrs = some n → 0 ≤ n
theorem find_name {p : Pal} {x : Str} {c : Col} (h : p.find x = some c) : c ∈ p.cs ∧ c.name = x :=
  ⟨List.mem_of_find?_eq_some h, by
    have q := List.find?_some (p := fun c : Col => decide (c.name = x)) (l := p.cs) (show p.cs.find? (fun c : Col => decide (c.name = x)) = some c from h)
    exact of_decide_eq_true q⟩
theorem POk.ok {p : Pal} (o : POk p) {x : Str} {c : Col} (h : p.find x = some c) : sOk x := by
  obtain ⟨h1, h2⟩ := find_name h
  exact h2 ▸ (o.col c h1).1
/-- a pot's turns without fault -/
structure PotOk (p : Pal) (ts : List Trn) : Prop where
  len : ts.length ≤ 1000
  col : ∀ t ∈ ts, ∃ c, p.find t.col = some c ∧ 0 ≤ c.charge ∧ 0 ≤ c.melt ∧ t.t + c.charge + c.melt ≤ t.b
  rng : ∀ t ∈ ts, 0 ≤ t.b ∧ t.b < t.e ∧ t.e ≤ 60
  step : ∀ i a b, ts[i]? = some a → ts[i + 1]? = some b → ∃ n, washF p.ws (some a.col) b.col = some n ∧ 0 ≤ n ∧ a.e + n ≤ b.t
theorem PotOk.linked {p : Pal} {ts : List Trn} (o : PotOk p ts) : Linked p ts :=
  ⟨fun t ht => let ⟨c, h, _⟩ := o.col t ht; ⟨c, h⟩, fun i a b h1 h2 => let ⟨n, h, _⟩ := o.step i a b h1 h2; ⟨n, h⟩⟩
def active (tm : Tm) (colour : Str) (hour : Int) : Prop := tm.col = colour ∧ tm.first ≤ hour ∧ hour < tm.last
instance (tm : Tm) (colour : Str) (hour : Int) : Decidable (active tm colour hour) := by unfold active; exact inferInstance
def namesAt (tms : List Tm) (colour : Str) (hour : Int) : List Str := tms.filterMap fun tm => if active tm colour hour then some tm.name else none
def wantF (tms : List Tm) (colour : Str) (hour : Int) : List Str := (namesAt tms colour hour).mergeSort (PySem.W.dataLe false PyData.str)
def wantsF (tms : List Tm) (colour : Str) (n : Nat) : List Int := (List.range n).map fun (h : Nat) => (((namesAt tms colour (h : Int)).length : Nat) : Int)
def spStepF : Sp := fun vs H Q _ => ∃ v x y p a b n, vs = [v, x, y] ∧ Dv H (palD p) v ∧ Dv H (trnD a) x ∧ Dv H (trnD b) y ∧ (∃ c, p.find a.col = some c) ∧ (∃ c, p.find b.col = some c) ∧ washF p.ws (some a.col) b.col = some n ∧ 0 ≤ n ∧ a.e + n ≤ b.t ∧ Rt .none H Q
def spTurnF : Sp := fun vs H Q _ => ∃ v u p ts n, vs = [v, u, .int ((n : Nat) : Int)] ∧ Dv H (palD p) v ∧ Dv H (trnsD ts) u ∧ PotOk p ts ∧ n < ts.length ∧ Rt .none H Q
def spFault : Sp := fun vs H Q _ => ∃ v u p ts, vs = [v, u] ∧ Dv H (palD p) v ∧ Dv H (trnsD ts) u ∧ PotOk p ts ∧ Rt .none H Q
def spWanting : Sp := fun vs H Q _ => ∃ u tms colour hour, vs = [u, .str colour, .int hour] ∧ Dv H (tmsD tms) u ∧ tms.length ≤ 1000 ∧ RtL ((wantF tms colour hour).map .str) H Q
def spWants : Sp := fun vs H Q _ => ∃ u tms colour n, vs = [u, .str colour, .int ((n : Nat) : Int)] ∧ Dv H (tmsD tms) u ∧ tms.length ≤ 1000 ∧ n ≤ 1000 ∧ RtL ((wantsF tms colour n).map .int) H Q
def lackD (q : Int × Str × List Int) : PyData := .tuple [.int q.1, .str q.2.1, .list (q.2.2.map .int)]
def spHourCol : Sp := fun vs H Q _ => ∃ a h c l, vs = [.ref a] ∧ H a = some (.tup [.int h, .str c, l]) ∧ Rt (.tuple [.int h, .str c]) H Q
def spLWash : Sp := fun vs H Q _ => ∃ v p a b, vs = [v, vS a, .str b] ∧ Dv H (palD p) v ∧ POk p ∧ (∀ x, a = some x → sOk x) ∧ sOk b ∧ Rt (optI (washF p.ws a b)) H Q
theorem sh_pair {a b : Str} (h1 : sOk a) (h2 : sOk b) : SeqAt.shaped (.tuple [.str a, .str b]) = true := by
  simp [SeqAt.shaped, PyData.canLay0, PyData.canLayAll0, PyData.depth, PyData.depthAll, show PyData.strOk a = true from h1, show PyData.strOk b = true from h2]
theorem sh_pairO {x : Option Str} {b : Str} (h1 : ∀ a, x = some a → sOk a) (h2 : sOk b) : SeqAt.shaped (.tuple [optS x, .str b]) = true := by
  cases x with
  | none => simp [optS, SeqAt.shaped, PyData.canLay0, PyData.canLayAll0, PyData.depth, PyData.depthAll, show PyData.strOk b = true from h2]
  | some a => exact sh_pair (h1 a rfl) h2
theorem sh_ois (l : List (Option Int)) : SeqAt.shaped (.list (l.map optI)) = true := by
  have h1 : PyData.canLayAll0 (l.map optI) = true ∧ PyData.depthAll (l.map optI) = 0 := by
    induction l with
    | nil => exact ⟨rfl, rfl⟩
    | cons o l ih => cases o <;> simp [optI, PyData.canLayAll0, PyData.canLay0, PyData.depthAll, PyData.depth, ih.1, ih.2]
  simp [SeqAt.shaped, PyData.canLay0, PyData.depth, h1.1, h1.2]
theorem eqv_nil (l : List PyData) : PyData.eqv (.list l) (.list []) = l.isEmpty := by cases l <;> simp [PyData.eqv, PyData.eqvAll]
theorem wash_fm (ws : List Wsh) (a : Option Str) (b : Str) : washF ws a b = ((ws.filterMap fun w => if isW a b w = true then some w.hrs else none).head?).getD (some 0) := by
  unfold washF
  induction ws with
  | nil => rfl
  | cons w ws ih =>
    rw [List.find?_cons, List.filterMap_cons]
    cases h : isW a b w with
    | true => simp
    | false => simpa using ih
theorem eqv_pair (a b y : Str) (x : Option Str) : PyData.eqv (.tuple [.str a, .str b]) (.tuple [optS x, .str y]) = (decide (x = some a) && decide (b = y)) := by
  cases x with
  | none => simp [PyData.eqv, PyData.eqvAll, optS]
  | some x => simp [PyData.eqv, PyData.eqvAll, optS, Bool.beq_eq_decide_eq, eq_comm]
section
variable {P : Program} {w : World} {K : PySem.W.Frag} {mg : Str → Option Value} {base : Heap} {A : Nat → Addr} {D : Nat → FuncData} {C : Addr} {tk : Tok}
theorem sc_step_fault : FnScope ["palette", "ahead", "turn", "over", "wash"] ["palette", "ahead", "turn"] (defScope (topS 18)) := ⟨rfl, rfl, rfl, by decide +kernel, rfl, by decide +kernel, by decide +kernel⟩
theorem ok_step_fault (T : Tx K mg A D C tk) : FnOk P w K mg base CX0 3 (A 18) (D 18) ["palette", "ahead", "turn"] spStepF := by
  have G_wash_for : FnOk P w K mg base CX0 2 (A 7) (D 7) _ _ := ok_wash_for T
  refine T.d_step_fault.fn.ok sc_step_fault (fun vs H Q E h => ?_) (fun cdv A0 outer s H vs Q E hr h => ?_)
  · obtain ⟨v, x, y, p, a, b, n, rfl, _⟩ := h
    rfl
  · obtain ⟨v, x, y, p, a, b, n, rfl, hp, ha, hb, ⟨ca, hca⟩, ⟨cb, hcb⟩, hn, h0, hle, k⟩ := h
    obtain ⟨a1, rfl, h1⟩ := trn_of ha
    obtain ⟨a2, rfl, h2⟩ := trn_of hb
    refine ⟨_, (pss_cons (ps_set (i := 3) sc_step_fault.nd rfl (Or.inl rfl) (pe_op op_sub (pe_ix (ixT K) (pv 1) pe_int (fun _ _ => rfl)) (pe_ix (ixT K) (pv 2) pe_int (fun _ _ => rfl))))
 (pss_cons (ps_if (pt_cmpR op_gt (pv 3) pe_int (nomark _)) (pss_one (ps_ret (pe_tup (pa_cons pe_str (pa_cons (pv 3) pa_nil))))) pss_nil)
 (pss_cons (ps_set (i := 4) sc_step_fault.nd rfl (Or.inl rfl) (pcall T.d_wash_for G_wash_for (hr.mono (by decide)) rfl (pa_cons (pv 0) (pa_cons (pe_ix (ixT K) (pv 1) pe_int (fun _ _ => rfl)) (pa_cons (pe_ix (ixT K) (pv 2) pe_int (fun _ _ => rfl)) pa_nil)))))
 (pss_cons (ps_if (pt_cmpR op_isN (pv 4) pe_non (nomark _)) (pss_one (ps_ret (pe_tup (pa_cons pe_str (pa_cons pe_non pa_nil))))) pss_nil)
 (pss_one (ps_ret (pe_ifExp (pt_cmpR op_gt (pe_op op_add (pv 4) (pv 3)) pe_int (nomark _)) (pe_tup (pa_cons pe_str (pa_cons (pe_op op_add (pv 4) (pv 3)) pa_nil))) pe_non))))))), ?_⟩
    refine ⟨_, rfl, _, _, _, _, rfl, rfl, SqT.of h1, rfl, _, rfl, _, _, _, _, rfl, rfl, SqT.of h2, rfl, ?_⟩
    walk_at "go"
    refine ite2 (fun q => ?_) (fun q => ?_)
    · have := of_decide_eq_true q
      omega
    · walk_at "go"
      refine ⟨_, _, _, _, rfl, rfl, SqT.of h1, rfl, ?_⟩
      walk_at "go"
      refine ⟨_, _, _, _, rfl, rfl, SqT.of h2, rfl, ?_⟩
      walk_at "go"
      refine ⟨v, p, some a.col, b.col, cb, rfl, hp, (fun x hx => by cases hx; exact ⟨ca, hca⟩), hcb, fun r H3 s3 dr => ?_⟩
      rw [hn] at dr
      cases dr
      walk_at "go"
      refine ite2 (fun q => ?_) (fun q => ?_)
      · have := of_decide_eq_true q
        omega
      · exact k _ _ s3 rfl
theorem sc_turn_fault : FnScope ["palette", "turns", "number", "at", "colour", "begin", "end", "found", "early"] ["palette", "turns", "number"] (defScope (topS 19)) := ⟨rfl, rfl, rfl, by decide +kernel, rfl, by decide +kernel, by decide +kernel⟩
theorem ok_turn_fault (T : Tx K mg A D C tk) : FnOk P w K mg base CX0 4 (A 19) (D 19) ["palette", "turns", "number"] spTurnF := by
  have G_step_fault : FnOk P w K mg base CX0 3 (A 18) (D 18) _ _ := ok_step_fault T
  have G_ready_at : FnOk P w K mg base CX0 2 (A 8) (D 8) _ _ := ok_ready_at T
  refine T.d_turn_fault.fn.ok sc_turn_fault (fun vs H Q E h => ?_) (fun cdv A0 outer s H vs Q E hr h => ?_)
  · obtain ⟨v, u, p, ts, n, rfl, _⟩ := h
    rfl
  · obtain ⟨v, u, p, ts, n, rfl, hp, ht, hok, hn, k⟩ := h
    obtain ⟨a, xs, rfl, ha, hd⟩ := list_of ht
    obtain ⟨x, hx, dx⟩ := hd.of (List.getElem?_eq_getElem hn)
    obtain ⟨a1, rfl, h1⟩ := trn_of dx
    obtain ⟨c, hc, hch, hm, hle⟩ := hok.col _ (List.getElem_mem hn)
    refine ⟨_, (pss_cons (ps_asg (pe_ix (ixL K) (pv 1) (pv 2) (fun _ _ => rfl)) (pgT K 4 rfl (pgs_cons (pg_name (i := 3) sc_turn_fault.nd rfl (Or.inl rfl)) (pgs_cons (pg_name (i := 4) sc_turn_fault.nd rfl (Or.inl rfl)) (pgs_cons (pg_name (i := 5) sc_turn_fault.nd rfl (Or.inl rfl)) (pgs_cons (pg_name (i := 6) sc_turn_fault.nd rfl (Or.inl rfl)) pgs_nil))))))
 (pss_cons (ps_set (i := 7) sc_turn_fault.nd rfl (Or.inl rfl) (pe_ifExp (pt_cmpR op_gt (pv 2) pe_int (nomark _)) (pcall T.d_step_fault G_step_fault (hr.mono (by decide)) rfl (pa_cons (pv 0) (pa_cons (pe_ix (ixL K) (pv 1) (pe_op op_sub (pv 2) pe_int) (fun _ _ => rfl)) (pa_cons (pe_ix (ixL K) (pv 1) (pv 2) (fun _ _ => rfl)) pa_nil)))) pe_non))
 (pss_cons (ps_if (pt_cmpR op_notN (pv 7) pe_non (nomark _)) (pss_one (ps_ret (pv 7))) pss_nil)
 (pss_cons (ps_set (i := 8) sc_turn_fault.nd rfl (Or.inl rfl) (pe_op op_sub (pe_call G_ready_at (hr.mono (by decide)) rfl T.mg_ready_at T.fn_ready_at.kp T.b_ready_at .nil pass0 (pa_cons (pv 0) (pa_cons (pv 4) (pa_cons (pv 3) pa_nil)))) (pv 5)))
 (pss_one (ps_ret (pe_ifExp (pt_cmpR op_gt (pv 8) pe_int (nomark _)) (pe_tup (pa_cons pe_str (pa_cons (pv 8) pa_nil))) pe_non))))))), ?_⟩
    refine ⟨_, rfl, _, rfl, _, _, _, _, rfl, rfl, SqL.of ha, atI_nat hx, _, _, rfl, SqT.of h1, rfl, ?_⟩
    walk_at "go"
    refine' join_ (H := H) (fun fin => ?_) ?_
    rotate_left
    · refine ite2 (fun q => ?_) (fun q => ?_)
      rotate_left
      · exact fin _ (Same.refl _)
      · have h0 : 0 < (n : Int) := of_decide_eq_true q
        have hn0 : n - 1 < ts.length := by omega
        obtain ⟨x0, hx0, dx0⟩ := hd.of (List.getElem?_eq_getElem hn0)
        obtain ⟨c0, hc0, _⟩ := hok.col _ (List.getElem_mem hn0)
        obtain ⟨m, hm1, hm2, hm3⟩ := hok.step (n - 1) _ ts[n] (List.getElem?_eq_getElem hn0) (by rw [Nat.sub_add_cancel (by omega)]; exact List.getElem?_eq_getElem hn)
        walk_at "go"
        refine ⟨_, _, _, _, rfl, rfl, SqL.of ha, (by rw [show ((n : Int) - 1) = ((n - 1 : Nat) : Int) by omega]; exact atI_nat hx0), ?_⟩
        walk_at "go"
        refine ⟨_, _, _, _, rfl, rfl, SqL.of ha, atI_nat hx, ?_⟩
        walk_at "go"
        refine ⟨v, _, _, p, _, _, m, rfl, hp, dx0, dx, ⟨c0, hc0⟩, ⟨c, hc⟩, hm1, hm2, hm3, fun r H3 s3 dr => ?_⟩
        cases dr
        exact fin H3 s3
    · intro H1 s1
      walk_at "go"
      refine ⟨v, p, _, c, _, rfl, hp.same s1, hc, fun r H2 s2 dr => ?_⟩
      cases dr
      walk_at "go"
      refine ite2 (fun q => ?_) (fun q => ?_)
      · have := of_decide_eq_true q
        omega
      · exact k _ _ (s1.trans s2) rfl
theorem sc_fault_of : FnScope ["palette", "turns", "number", "found"] ["palette", "turns"] (defScope (topS 20)) := ⟨rfl, rfl, rfl, by decide +kernel, rfl, by decide +kernel, by decide +kernel⟩
theorem ok_fault_of (T : Tx K mg A D C tk) : FnOk P w K mg base CX0 5 (A 20) (D 20) ["palette", "turns"] spFault := by
  have G_turn_fault : FnOk P w K mg base CX0 4 (A 19) (D 19) _ _ := ok_turn_fault T
  refine T.d_fault_of.fn.ok sc_fault_of (fun vs H Q E h => ?_) (fun cdv A0 outer s H vs Q E hr h => ?_)
  · obtain ⟨v, u, p, ts, rfl, _⟩ := h
    rfl
  · obtain ⟨v, u, p, ts, rfl, hp, ht, hok, k⟩ := h
    obtain ⟨a, xs, rfl, ha, hd⟩ := list_of ht
    have hlen := hok.len
    have hl := hd.lenM
    refine ⟨_, (pss_cons (ps_for PassesOwn.never rfl (pi_range1 (by rfl) T.range (pa_cons (pe_callB (lenS K) (by rfl) T.len (by decide +kernel) (pa_cons (pv 1) pa_nil)) pa_nil)) (pg_name (i := 2) sc_fault_of.nd rfl (Or.inl rfl)) (pss_cons (ps_set (i := 3) sc_fault_of.nd rfl (Or.inl rfl) (pcall T.d_turn_fault G_turn_fault (hr.mono (by decide)) rfl (pa_cons (pv 0) (pa_cons (pv 1) (pa_cons (pv 2) pa_nil)))))
 (pss_one (ps_if (pt_cmpR op_notN (pv 3) pe_non (nomark _)) (pss_one (ps_ret (pe_op (catT K) (pe_tup (pa_cons (pv 2) pa_nil)) (pv 3)))) pss_nil))))
 (pss_one (ps_ret pe_non))), ?_⟩
    walk_at "go"
    refine ⟨_, _, rfl, .inl (SqL.of ha), ?_⟩
    refine ⟨_, rfl, by omega, by omega, for_range (lo := 0) (n := xs.length) (fun i σ H1 => Same H H1 ∧ ∃ z1 z2, σ = [some v, some (.ref a), z1, z2]) ⟨Same.refl _, _, _, rfl⟩ ?_ ?_⟩
    · rintro i σ H1 hi ⟨s1, z1, z2, rfl⟩
      rw [Int.zero_add]
      walk_at "go"
      refine ⟨v, _, p, ts, i, rfl, hp.same s1, ht.same s1, hok, by omega, fun r H2 s2 dr => ?_⟩
      cases dr
      walk_at "go"
      exact ⟨s1.trans s2, _, _, rfl⟩
    · rintro σ H1 ⟨s1, z1, z2, rfl⟩
      exact k _ _ s1 rfl
theorem sc_wanting_at : FnScope ["teams", "colour", "hour", "team", "own", "first", "last"] ["teams", "colour", "hour"] (defScope (topS 11)) := ⟨rfl, rfl, rfl, by decide +kernel, rfl, by decide +kernel, by decide +kernel⟩
theorem ok_wanting_at (T : Tx K mg A D C tk) : FnOk P w K mg base CX0 1 (A 11) (D 11) ["teams", "colour", "hour"] spWanting := by
  refine T.d_wanting_at.fn.ok sc_wanting_at (fun vs H Q E h => ?_) (fun cdv A0 outer s H vs Q E hr h => ?_)
  · obtain ⟨u, tms, colour, hour, rfl, _⟩ := h
    rfl
  · obtain ⟨u, tms, colour, hour, rfl, ht, hl, k⟩ := h
    obtain ⟨a, xs, rfl, ha, hd⟩ := list_of ht
    obtain ⟨s1, s2, s3⟩ := src_l (K := K) (e := tmD) ha hd
    refine ⟨_, (pss_one (ps_ret (pe_callB (srt_str hr) (by rfl) T.sorted (by decide +kernel) (pa_cons (pe_lc (own := [("team", 3), ("own", 4), ("first", 5), ("last", 6)]) rfl sc_wanting_at.nd (piL K (pv 0)) (blkOk_by (N := ["teams", "colour", "hour", "team", "own", "first", "last"]) (sc := defScope (topS 11)) (by decide +kernel)) (fun _ _ _ _ _ => (pgT K 4 rfl (pgs_cons (pg_name (i := 3) sc_wanting_at.nd rfl (Or.inl rfl)) (pgs_cons (pg_name (i := 4) sc_wanting_at.nd rfl (Or.inl rfl)) (pgs_cons (pg_name (i := 5) sc_wanting_at.nd rfl (Or.inl rfl)) (pgs_cons (pg_name (i := 6) sc_wanting_at.nd rfl (Or.inl rfl)) pgs_nil)))))) (fun _ _ _ _ _ => (pts_one (PW.pt (pw_and (pt_cmpR op_eq (pv 4) (pv 1) (nomark _)) (pw_and1 (pt_chain op_le op_lt (pv 5) (pv 2) (pv 6))))))) (fun _ _ _ _ _ => (pv 3))) pa_nil)))), ?_⟩
    refine ⟨_, rfl, _, rfl, ⟨_, SqL.of ha⟩, lcG (e' := PyData.str) tms (fun tm => if active tm colour hour then some tm.name else none) (fun t x H => Dv H (tmD t) x) (fun _ => rfl) (by omega) s1 s2 s3 ?_ ?_⟩
    · intro t x H1 N M _ sm dx hy hn
      obtain ⟨e, rfl, he⟩ := tm_of dx
      refine ⟨_, _, rfl, SqT.of he, rfl, ?_⟩
      walk_at "go"
      refine ite2 (fun q => ?_) (fun q => iteF (hn (if_neg fun z => q (decide_eq_true (by rw [z.1]))) _ (Same.refl _)))
      walk_at "go"
      refine ite2 (fun q1 => ?_) (fun q1 => ?_)
      · walk_at "go"
        refine ite2 (fun q2 => ?_) (fun q2 => ?_)
        · walk_at "go"
          exact hy _ (if_pos ⟨dstr q, of_decide_eq_true q1, of_decide_eq_true q2⟩) _ _ (Same.refl _) rfl
        · exact hn (if_neg fun z => q2 (decide_eq_true z.2.2)) _ (Same.refl _)
      · refine ⟨_, rfl, iteF ?_⟩
        exact hn (if_neg fun z => q1 (decide_eq_true z.2.1)) _ (Same.refl _)
    · intro p ys H1 hp sm hys dys
      have dys' : DvAll H1 ((namesAt tms colour hour).map PyData.str) ys := dys
      clear dys
      have goal : rSortD PyData.str [V.ref p] H1 Q := ⟨p, namesAt tms colour hour, ys, rfl, hys, dys', fun zs p2 dz hp2 => k p2 zs _ (sm.free hp2) (Same.new' sm hp2) upd_same (DvAll.same (Same.new hp2) dz)⟩
      exact goal
theorem sc_wants_of : FnScope ["teams", "colour", "hours", "hour"] ["teams", "colour", "hours"] (defScope (topS 12)) := ⟨rfl, rfl, rfl, by decide +kernel, rfl, by decide +kernel, by decide +kernel⟩
theorem ok_wants_of (T : Tx K mg A D C tk) : FnOk P w K mg base CX0 2 (A 12) (D 12) ["teams", "colour", "hours"] spWants := by
  have G_wanting_at : FnOk P w K mg base CX0 1 (A 11) (D 11) _ _ := ok_wanting_at T
  refine T.fn_wants_of.ok sc_wants_of (fun vs H Q E h => ?_) (fun cdv A0 outer s H vs Q E hr h => ?_)
  · obtain ⟨u, tms, colour, n, rfl, _⟩ := h
    rfl
  · obtain ⟨u, tms, colour, n, rfl, ht, hl, hn, k⟩ := h
    obtain ⟨s1, s2, s3⟩ := src_r (H := H) n
    refine ⟨_, (pss_one (ps_ret (pe_lc (own := [("hour", 3)]) rfl sc_wants_of.nd (pi_range1 (by rfl) T.range (pa_cons (pv 2) pa_nil)) (blkOk_by (N := ["teams", "colour", "hours", "hour"]) (sc := defScope (topS 12)) (by decide +kernel)) (fun _ _ _ _ _ => (pg_name (i := 3) sc_wants_of.nd rfl (Or.inl rfl))) (fun _ _ _ _ _ => pts_nil) (fun _ _ _ _ _ => (pe_callB (lenS K) (by rfl) T.len (by decide +kernel) (pa_cons (pcall T.d_wanting_at G_wanting_at (hr.mono (by decide)) rfl (pa_cons (pv 0) (pa_cons (pv 1) (pa_cons (pv 3) pa_nil)))) pa_nil)))))), ?_⟩
    walk_at "go"
    refine ⟨by omega, by omega, ?_⟩
    rw [Int.toNat_natCast]
    refine lcG (e' := PyData.int) (List.range n) (fun h => some (((namesAt tms colour ((h : Nat) : Int)).length : Nat) : Int)) (fun (t : Nat) x H => x = .int (t : Int)) (fun _ => rfl) (by rw [List.length_range]; omega) s1 s2 s3 ?_ ?_
    · rintro t x H1 N M _ sm rfl hy _
      walk_at "go"
      refine ⟨_, tms, colour, _, rfl, ht.same sm, hl, fun p ys H2 hp sm2 hys dys => ?_⟩
      walk_at "go"
      refine ⟨_, _, rfl, .inl (SqL.of hys), ?_⟩
      refine hy _ rfl _ _ sm2 ?_
      rw [dys.lenM, wantF, List.length_mergeSort]
      exact rfl
    · rw [fm_map]
      exact k
theorem sc_hour_and_colour : FnScope ["lack"] ["lack"] (defScope (topS 14)) := ⟨rfl, rfl, rfl, by decide +kernel, rfl, by decide +kernel, by decide +kernel⟩
theorem ok_hour_and_colour (T : Tx K mg A D C tk) : FnOk P w K mg base CX0 1 (A 14) (D 14) ["lack"] spHourCol := by
  refine T.d_hour_and_colour.fn.ok sc_hour_and_colour (fun vs H Q E h => ?_) (fun cdv A0 outer s H vs Q E hr h => ?_)
  · obtain ⟨a, h, c, l, rfl, _⟩ := h
    rfl
  · obtain ⟨a, h, c, l, rfl, ha, k⟩ := h
    refine ⟨_, (pss_one (ps_ret (pe_slice (slT K) (pv 0) po_none (po_some pe_int)))), ?_⟩
    walk_at "go"
    refine ⟨_, _, rfl, SqT.of ha, (fun z => absurd z.2 (by show ¬ (2 = 3); decide)), fun p hp => ?_⟩
    exact k _ _ (Same.new hp) ⟨p, _, rfl, upd_same, _, _, rfl, rfl, _, _, rfl, rfl, rfl⟩
theorem sc__law_wash : FnScope ["_law_palette_here", "_law_ahead", "_law_behind", "_law_hours", "_law_row"] ["_law_palette_here", "_law_ahead", "_law_behind"] (defScope (topS 37)) := ⟨rfl, rfl, rfl, by decide +kernel, rfl, by decide +kernel, by decide +kernel⟩
theorem ok_law_wash (T : Tx K mg A D C tk) : FnOk P w K mg base CX0 1 (A 37) (D 37) ["_law_palette_here", "_law_ahead", "_law_behind"] spLWash := by
  refine T.d__law_wash.fn.ok sc__law_wash (fun vs H Q E h => ?_) (fun cdv A0 outer s H vs Q E hr h => ?_)
  · obtain ⟨v, p, a, b, rfl, _⟩ := h
    rfl
  · obtain ⟨v, p, x, y, rfl, hp, hpo, hxo, hyo, k⟩ := h
    have hl := hpo.wlen
    obtain ⟨a, b, d, xs, ys, rfl, ha, hb, hbs, hd, hds⟩ := pal_of hp
    refine ⟨_, (pss_cons (ps_setLc (i := 3) (own := [("_law_row", 4)]) rfl sc__law_wash.nd rfl rfl (sw_true rfl rfl rfl (by decide +kernel)) (piT K (pe_ix (ixT K) (pv 0) pe_int (fun _ _ => rfl))) (blkOk_by (N := ["_law_palette_here", "_law_ahead", "_law_behind", "_law_hours", "_law_row"]) (sc := defScope (topS 37)) (by decide +kernel)) (fun _ _ _ _ _ => (pg_name (i := 4) sc__law_wash.nd rfl (Or.inl rfl))) (fun _ _ _ _ _ => (pts_one (pt_cmpR (eqDt K hr.units) (pe_slice (slT K) (pv 4) po_none (po_some pe_int)) (pe_tup (pa_cons (pv 1) (pa_cons (pv 2) pa_nil))) (nomark _)))) (fun _ _ _ _ _ => (pe_ix (ixT K) (pv 4) pe_int (fun _ _ => rfl))))
 (pss_one (ps_ret (pe_ifExp (pt_cmpR (neDt K hr.units) (pv 3) (pe_lst pa_nil) (nomark _)) (pe_ix (ixL K) (pv 3) pe_int (fun _ _ => rfl)) pe_int)))), ?_⟩
    walk_at "go"
    refine ⟨_, _, _, _, rfl, rfl, SqT.of ha, rfl, _, rfl, ⟨_, SqT.of hd⟩, ?_⟩
    obtain ⟨s1, s2, s3⟩ := src_t (K := K) (e := wshD) hd hds
    refine lcG (e' := optI) p.ws (fun w => if isW x y w = true then some w.hrs else none) (fun t x H => Dv H (wshD t) x) noOI (by omega) s1 s2 s3 ?_ ?_
    · intro t z H1 N M ht sm dx hy hn
      obtain ⟨o1, o2, _⟩ := hpo.wash t ht
      obtain ⟨e, rfl, he⟩ := wsh_of dx
      walk_at "go"
      refine ⟨_, _, rfl, SqT.of he, (fun z => absurd z.2 (by show ¬ (2 = 3); decide)), fun q hq => ?_⟩
      walk_at "go"
      refine ⟨by show 2 ≤ sizeLine; decide, fun r hr' => ?_⟩
      have e1 : cutV [V.str t.one, V.str t.other, vI t.hrs] none (some 2) = [V.str t.one, V.str t.other] := rfl
      rw [e1] at hr' ⊢
      have d1 : Dv (upd (upd H1 q (.tup [V.str t.one, V.str t.other])) r (.tup [vS x, V.str y])) (.tuple [.str t.one, .str t.other]) (.ref q) := ⟨q, _, rfl, (Same.new hr') _ _ upd_same, _, _, rfl, rfl, _, _, rfl, rfl, rfl⟩
      have d2 : Dv (upd (upd H1 q (.tup [V.str t.one, V.str t.other])) r (.tup [vS x, V.str y])) (.tuple [optS x, .str y]) (.ref r) := ⟨r, _, rfl, upd_same, _, _, rfl, os_dv x, _, _, rfl, rfl, rfl⟩
      refine ⟨_, _, d1.dp, d2.dp, sh_pair o1 o2, sh_pairO hxo hyo, ?_⟩
      rw [eqv_pair]
      have sm' : Same H1 (upd (upd H1 q (.tup [V.str t.one, V.str t.other])) r (.tup [vS x, V.str y])) := Same.new' (Same.new hq) hr'
      refine ⟨_, rfl, ?_⟩
      refine ite2 (fun z => ?_) (fun z => hn (if_neg z) _ sm')
      walk_at "go"
      refine ⟨_, _, _, _, rfl, rfl, SqT.of (sm' _ _ he), rfl, ?_⟩
      exact hy _ (if_pos z) _ _ sm' (oi_dv _)
    · intro q ys H1 hq sm hys dys
      refine ⟨_, rfl, Nat.zero_le _, fun r hr' => ?_⟩
      have sm' : Same H1 (upd H1 r (.lst [])) := Same.new hr'
      have e0 := wash_fm p.ws x y
      generalize (p.ws.filterMap fun w => if isW x y w = true then some w.hrs else none) = hs at dys e0
      refine ⟨_, _, .lst (SqL.of (sm' _ _ hys)) (DvAll.dp (DvAll.same sm' dys)), .lst (SqL.of upd_same) .nil, sh_ois hs, rfl, ?_⟩
      rw [eqv_nil]
      refine ⟨_, rfl, ?_⟩
      cases hs with
      | nil =>
        refine iteF ?_
        refine k _ _ (sm.trans sm') ?_
        rw [e0]
        exact rfl
      | cons o hs =>
        refine iteT ?_
        obtain ⟨z, r', rfl, h1, h2⟩ := dys
        walk_at "go"
        refine ⟨_, _, _, _, rfl, rfl, SqL.of (sm' _ _ hys), atI_nat (j := 0) rfl, ?_⟩
        refine k _ _ (sm.trans sm') ?_
        rw [e0]
        exact Dv.same sm' h1
end
end K83
set_option maxRecDepth 100000
set_option maxHeartbeats 4000000
namespace K83
open PySem PySem.Spec PyProof.Rows L2
local macro_rules | `(tactic| walk_at "nz") => `(tactic| dsimp -proj only [L2.start, wipe, List.map_cons, List.map_nil, List.set, List.length, List.replicate, List.cons_append, List.nil_append, Nat.reduceSub, Nat.reduceAdd])
local macro_rules | `(tactic| walk_at "gg") => `(tactic| repeat (first | refine ⟨rfl, ?_⟩ | refine ⟨_, rfl, ?_⟩ | refine ⟨_, _, rfl, ?_⟩ | refine ⟨_, _, rfl, rfl, ?_⟩))
local macro_rules | `(tactic| walk_at "go") => `(tactic| ((try walk_at "nz"); walk_at "gg"; (try walk_at "nz")))
structure Nw where
  pot : Int
  num : Int
  col : Str
def nwD (q : Nw) : PyData := .tuple [.int q.pot, .int q.num, .str q.col]
theorem noNw (q : Nw) : noList (nwD q) = true := rfl
theorem nw_mk {H : Hp} {q : Nw} {a : Addr} (h : H a = some (.tup [.int q.pot, .int q.num, .str q.col])) : Dv H (nwD q) (.ref a) := ⟨a, _, rfl, h, _, _, rfl, rfl, _, _, rfl, rfl, _, _, rfl, rfl, rfl⟩
theorem nw_of {H : Hp} {q : Nw} {v : V} (h : Dv H (nwD q) v) : ∃ a, v = .ref a ∧ H a = some (.tup [.int q.pot, .int q.num, .str q.col]) := by
  obtain ⟨a, xs, e, ha, x1, r1, rfl, h1, x2, r2, rfl, h2, x3, r3, rfl, h3, h6⟩ := h
  cases h1; cases h2; cases h3; cases h6
  exact ⟨a, e, ha⟩
def worksAt (h : Int) (q : Trn × Nat) : Bool := decide (q.1.b ≤ h) && decide (h < q.1.e)
def workAt (ts : List Trn) (h : Int) : Option (Trn × Nat) := ts.zipIdx.find? (worksAt h)
def nowOf (h : Int) (q : List Trn × Nat) : Option Nw := (workAt q.1 h).map fun z => ⟨q.2, z.2, z.1.col⟩
def nowF (pots : List (List Trn)) (h : Int) : List Nw := pots.zipIdx.filterMap (nowOf h)
theorem PotOk.tb {p : Pal} {ts : List Trn} (o : PotOk p ts) {t : Trn} (h : t ∈ ts) : t.t ≤ t.b := by
  obtain ⟨c, _, h1, h2, h3⟩ := o.col t h
  omega
theorem PotOk.before {p : Pal} {ts : List Trn} (o : PotOk p ts) : ∀ (k i : Nat) (a b : Trn), ts[i]? = some a → ts[i + 1 + k]? = some b → a.e ≤ b.t
  | 0, i, a, b, h1, h2 => by
    obtain ⟨n, _, h3, h4⟩ := o.step i a b h1 h2
    omega
  | k + 1, i, a, b, h1, h2 => by
    have hl : i + 1 + k < ts.length := by have := (List.getElem?_eq_some_iff.mp h2).1; omega
    have h3 := PotOk.before o k i a _ h1 (List.getElem?_eq_getElem hl)
    obtain ⟨n, _, h4, h5⟩ := o.step (i + 1 + k) _ b (List.getElem?_eq_getElem hl) (by rw [← h2]; congr 1)
    have h6 := o.tb (List.getElem_mem hl)
    have h7 := (o.rng _ (List.getElem_mem hl)).2.1
    omega
theorem PotOk.lt {p : Pal} {ts : List Trn} (o : PotOk p ts) {i j : Nat} {a b : Trn} (h1 : ts[i]? = some a) (h2 : ts[j]? = some b) (h : i < j) : a.e ≤ b.t :=
  o.before (j - (i + 1)) i a b h1 (by rw [← h2]; congr 1; omega)
theorem worked_word (c : Col) (t : Trn) (wash h : Int) (hle : t.t + c.charge + c.melt ≤ t.b) (h0 : 0 ≤ c.melt) : wordF c t wash h = "worked" ↔ t.b ≤ h ∧ h < t.e := by
  have n1 : ¬ (("filled" : Str) = "worked") := by decide +kernel
  have n2 : ¬ (("melting" : Str) = "worked") := by decide +kernel
  have n3 : ¬ (("ready" : Str) = "worked") := by decide +kernel
  have n4 : ¬ (("washed" : Str) = "worked") := by decide +kernel
  have n5 : ¬ (("out" : Str) = "worked") := by decide +kernel
  unfold wordF wordsF
  simp only [List.find?_cons]
  by_cases h1 : h < t.t + c.charge
  · simp only [decide_eq_true h1]
    exact ⟨fun z => absurd z n1, fun z => by omega⟩
  · simp only [decide_eq_false h1]
    by_cases h2 : h < t.t + c.charge + c.melt
    · simp only [decide_eq_true h2]
      exact ⟨fun z => absurd z n2, fun z => by omega⟩
    · simp only [decide_eq_false h2]
      by_cases h3 : h < t.b
      · simp only [decide_eq_true h3]
        exact ⟨fun z => absurd z n3, fun z => by omega⟩
      · simp only [decide_eq_false h3]
        by_cases h4 : h < t.e
        · simp only [decide_eq_true h4]
          exact ⟨fun _ => ⟨by omega, h4⟩, fun _ => trivial⟩
        · simp only [decide_eq_false h4]
          by_cases h5 : h < t.e + wash
          · simp only [decide_eq_true h5]
            exact ⟨fun z => absurd z n4, fun z => by omega⟩
          · simp only [decide_eq_false h5, List.find?_nil]
            exact ⟨fun z => absurd z n5, fun z => by omega⟩
theorem state_work {p : Pal} {ts : List Trn} (o : PotOk p ts) {h : Int} {w : Str} {k : Option Nat} (s : StateF p ts h w k) : (w = "worked" → ∃ t m, k = some m ∧ ts[m]? = some t ∧ workAt ts h = some (t, m)) ∧ (w ≠ "worked" → workAt ts h = none) := by
  obtain ⟨hl, hs⟩ := s
  have none_of : (∀ (j : Nat) (t : Trn), ts[j]? = some t → ¬ (t.b ≤ h ∧ h < t.e)) → workAt ts h = none := fun hno => find_miss fun j q hj hq => by
    obtain ⟨t, i⟩ := q
    rw [List.getElem?_zipIdx] at hq
    cases e : ts[j]? with
    | none => rw [e] at hq; cases hq
    | some t' =>
      rw [e] at hq
      cases hq
      have := hno j t e
      show (decide (t.b ≤ h) && decide (h < t.e)) = false
      by_cases h1 : t.b ≤ h
      · rw [decide_eq_false (show ¬ h < t.e from fun h2 => this ⟨h1, h2⟩), Bool.and_false]
      · rw [decide_eq_false h1]; rfl
  cases k with
  | none =>
    have hs' : w = "out" := hs
    refine ⟨fun z => ?_, fun _ => none_of fun j t ht z => ?_⟩
    · rw [hs'] at z
      exact absurd z (by decide +kernel)
    · have h1 := hl t (List.mem_of_getElem? ht)
      have h2 := o.tb (List.mem_of_getElem? ht)
      omega
  | some m =>
    obtain ⟨t, hm, hle, hlater⟩ := hl
    obtain ⟨t', c, wash, hm', hc, rfl⟩ := hs
    rw [hm] at hm'
    cases hm'
    obtain ⟨c', hc', g1, g2, g3⟩ := o.col t (List.mem_of_getElem? hm)
    rw [hc] at hc'
    cases hc'
    have iff := worked_word c t wash h g3 g2
    refine ⟨fun z => ⟨t, m, rfl, hm, ?_⟩, fun z => none_of fun j t' ht' y => ?_⟩
    · have g := iff.mp z
      refine find_hit (i := m) (fun j q hj hq => ?_) (by rw [List.getElem?_zipIdx, hm]; simp) (by show (decide (t.b ≤ h) && decide (h < t.e)) = true; rw [decide_eq_true g.1, decide_eq_true g.2]; rfl)
      obtain ⟨t', i⟩ := q
      rw [List.getElem?_zipIdx] at hq
      cases e : ts[j]? with
      | none => rw [e] at hq; cases hq
      | some t2 =>
        rw [e] at hq
        cases hq
        have := o.lt e hm hj
        show (decide (t'.b ≤ h) && decide (h < t'.e)) = false
        rw [decide_eq_false (show ¬ (h < t'.e) by omega), Bool.and_false]
    · rcases Nat.lt_trichotomy j m with q | q | q
      · have := o.lt ht' hm q
        omega
      · subst q
        rw [hm] at ht'
        cases ht'
        exact z (iff.mpr y)
      · have h1 := hlater j t' q ht'
        have h2 := o.tb (List.mem_of_getElem? ht')
        omega
def spNow : Sp := fun vs H Q _ => ∃ v u p pots hour, vs = [v, u, .int hour] ∧ Dv H (palD p) v ∧ Dv H (potsD pots) u ∧ pots.length ≤ 1000 ∧ (∀ ts ∈ pots, PotOk p ts) ∧ RtL ((nowF pots hour).map nwD) H Q
section
variable {P : Program} {w : World} {K : PySem.W.Frag} {mg : Str → Option Value} {base : Heap} {A : Nat → Addr} {D : Nat → FuncData} {C : Addr} {tk : Tok}
theorem sc__law_worked_now : FnScope ["_law_palette_here", "_law_pots_here", "_law_hour", "_law_found", "_law_pot_here", "_law_turns", "_law_word", "_law_number"] ["_law_palette_here", "_law_pots_here", "_law_hour"] (defScope (topS 42)) := ⟨rfl, rfl, rfl, by decide +kernel, rfl, by decide +kernel, by decide +kernel⟩
theorem ok_now (T : Tx K mg A D C tk) : FnOk P w K mg base CX0 6 (A 42) (D 42) ["_law_palette_here", "_law_pots_here", "_law_hour"] spNow := by
  have G_state_at : FnOk P w K mg base CX0 5 (A 25) (D 25) _ _ := ok_state_at T
  refine T.d__law_worked_now.fn.ok sc__law_worked_now (fun vs H Q E h => ?_) (fun cdv A0 outer s H vs Q E hr h => ?_)
  · obtain ⟨v, u, p, pots, hour, rfl, _⟩ := h
    rfl
  · obtain ⟨v, u, p, pots, hour, rfl, hp, ht, hlen, hok, k⟩ := h
    obtain ⟨a, xs, rfl, ha, hd⟩ := list_of ht
    refine ⟨_, (pss_cons (ps_set (i := 3) sc__law_worked_now.nd rfl (Or.inl rfl) (pe_lst pa_nil))
 (pss_cons (ps_for PassesOwn.never rfl (piE K (by rfl) T.enumerate (pa_cons (pv 1) pa_nil)) (pgT K 2 rfl (pgs_cons (pg_name (i := 4) sc__law_worked_now.nd rfl (Or.inl rfl)) (pgs_cons (pg_name (i := 5) sc__law_worked_now.nd rfl (Or.inl rfl)) pgs_nil))) (pss_cons (ps_asg (pcall T.d_state_at G_state_at (hr.mono (by decide)) rfl (pa_cons (pv 0) (pa_cons (pv 5) (pa_cons (pv 2) pa_nil)))) (pgT K 2 rfl (pgs_cons (pg_name (i := 6) sc__law_worked_now.nd rfl (Or.inl rfl)) (pgs_cons (pg_name (i := 7) sc__law_worked_now.nd rfl (Or.inl rfl)) pgs_nil))))
 (pss_one (ps_if (pt_cmpR op_eq (pv 6) pe_str (nomark _)) (pss_one (ps_expr (pe_bm PySem.F.plainAttrs_list PySem.F.slot_list_append PySem.F.type_list_append mt_append (pv 3) (pa_cons (pe_tup (pa_cons (pv 4) (pa_cons (pv 7) (pa_cons (pe_ix (ixT K) (pe_ix (ixL K) (pv 5) (pv 7) (fun _ _ => rfl)) pe_int (fun _ _ => rfl)) pa_nil)))) pa_nil)))) pss_nil))))
 (pss_one (ps_ret (pv 3))))), ?_⟩
    refine ⟨Nat.zero_le _, fun l hl => ?_⟩
    have s0 : Same H (upd H l (.lst [])) := Same.new hl
    obtain ⟨g1, g2, g3⟩ := src_e (K := K) (e := trnsD) ha hd
    let Pv : Nat → L2.St → Hp → Prop := fun i σ H1 => ∃ (z1 z2 z3 z4 : Option V) (ys : List V), σ = [some v, some (.ref a), some (.int hour), some (.ref l), z1, z2, z3, z4] ∧ Same H H1 ∧
      H1 l = some (.lst ys) ∧ DvAll H1 (((pots.zipIdx.take i).filterMap (nowOf hour)).map nwD) ys
    refine ⟨_, rfl, a, xs, rfl, SqL.of (s0 _ _ ha), forG pots.zipIdx.length Pv ?_ ?_ ?_ ?_⟩
    · exact ⟨_, _, _, _, [], rfl, s0, upd_same, by simp [DvAll]⟩
    · rintro i σ H1 hi ⟨_, _, _, _, _, _, s1, _⟩
      exact g1 i _ H1 (List.getElem?_eq_getElem hi) s1
    · rintro i x σ H1 H2 hi ⟨z1, z2, z3, z4, ys, rfl, s1, hys, dys⟩ y
      have ht0 := List.getElem?_eq_getElem hi
      obtain ⟨s2, T0, z, rfl, hT, dz⟩ := g2 i _ H1 x H2 ht0 s1 y
      generalize pots.zipIdx[i] = q at ht0 hT dz
      obtain ⟨ts, i'⟩ := q
      have hmem : ts ∈ pots ∧ i' = i := by
        rw [List.getElem?_zipIdx] at ht0
        cases e : pots[i]? with
        | none => rw [e] at ht0; cases ht0
        | some t => rw [e] at ht0; cases ht0; exact ⟨List.mem_of_getElem? e, Nat.zero_add _⟩
      obtain ⟨hmem, rfl⟩ := hmem
      have o := hok ts hmem
      have hl2 := s2 _ _ hys
      have e1 := fm_snoc (nowOf hour) ht0
      refine ⟨_, _, rfl, SqT.of hT, rfl, ?_⟩
      walk_at "go"
      refine ⟨v, z, p, ts, hour, rfl, hp.same (s1.trans s2), dz, Nat.le_trans o.len (by decide), o.linked, fun wd ko e H3 s3 hst he => ?_⟩
      obtain ⟨w1, w2⟩ := state_work o hst
      refine ⟨_, _, rfl, SqT.of he, rfl, ?_⟩
      walk_at "go"
      have hl3 := s3 _ _ hl2
      refine ite2 (fun q => ?_) (fun q => ?_)
      · obtain ⟨t, m, rfl, hm, hw⟩ := w1 (dstr q)
        obtain ⟨b, ts', rfl, hb, hbd⟩ := list_of dz
        obtain ⟨x1, hx1, dx1⟩ := hbd.of hm
        obtain ⟨b1, rfl, hb1⟩ := trn_of dx1
        walk_at "go"
        refine ⟨.inl ⟨rfl, _, SqL.of hl3⟩, ?_⟩
        walk_at "go"
        refine ⟨_, _, _, _, rfl, rfl, SqL.of (s3 _ _ hb), atI_nat hx1, ?_⟩
        refine ⟨_, _, _, _, rfl, rfl, SqT.of (s3 _ _ hb1), rfl, ?_⟩
        refine ⟨by show 3 ≤ sizeLine; decide, fun r hr' => ?_⟩
        have hl4 := (Same.new (o := .tup [.int ((i' : Nat) : Int), .int ((m : Nat) : Int), .str t.col]) hr') _ _ hl3
        refine ⟨l, ys, .ref r, rfl, rfl, hl4, ?_, ?_⟩
        · have q1 := dys.lenM
          have q2 := List.length_filterMap_le (nowOf hour) (pots.zipIdx.take i')
          rw [List.length_take, List.length_zipIdx] at q2
          rw [sizeLine_eq]; omega
        · refine ⟨_, _, _, _, ys ++ [.ref r], rfl, Same.mut (Same.new' (s1.trans (s2.trans s3)) hr') hl, upd_same, ?_⟩
          rw [e1, show nowOf hour (ts, i') = some ⟨((i' : Nat) : Int), ((m : Nat) : Int), t.col⟩ by unfold nowOf; rw [hw]; rfl, List.map_append]
          exact (DvAll.upd (notup_l hl4) (noLA noNw _) (DvAll.same (s2.trans (Same.new' s3 hr')) dys)).append (.cons (Dv.upd (notup_l hl4) (noNw _) (nw_mk upd_same)) .nil)
      · have hw := w2 (dstrN q)
        refine ⟨_, _, _, _, ys, rfl, s1.trans (s2.trans s3), hl3, ?_⟩
        rw [e1, show nowOf hour (ts, i') = none by unfold nowOf; rw [hw]; rfl, List.append_nil]
        exact DvAll.same (s2.trans s3) dys
    · rintro σ H1 ⟨z1, z2, z3, z4, ys, rfl, s1, hys, dys⟩
      refine ⟨g3 H1 s1, ?_⟩
      rw [List.take_length] at dys
      walk_at "go"
      exact k l ys H1 hl s1 hys dys
end
end K83
set_option maxRecDepth 100000
set_option maxHeartbeats 4000000
namespace K83
open PySem PySem.Spec PyProof.Rows L2
local macro_rules | `(tactic| walk_at "nz") => `(tactic| dsimp -proj only [L2.start, wipe, List.map_cons, List.map_nil, List.set, List.length, List.replicate, List.cons_append, List.nil_append, Nat.reduceSub, Nat.reduceAdd])
local macro_rules | `(tactic| walk_at "gg") => `(tactic| repeat (first | refine ⟨rfl, ?_⟩ | refine ⟨_, rfl, ?_⟩ | refine ⟨_, _, rfl, ?_⟩ | refine ⟨_, _, rfl, rfl, ?_⟩))
local macro_rules | `(tactic| walk_at "go") => `(tactic| ((try walk_at "nz"); walk_at "gg"; (try walk_at "nz")))
def ofrOf (g : Int) (col : Str) (i : Nat) (r : Trn × Nat) : Option Ofr := if r.1.col = col then some ⟨i, r.2, r.1.b, r.1.e, g⟩ else none
def ofrsOf (g : Int) (col : Str) (q : List Trn × Nat) : List Ofr := q.1.zipIdx.filterMap (ofrOf g col q.2)
def offersF (g : Int) (col : Str) (pots : List (List Trn)) : List Ofr := pots.zipIdx.flatMap (ofrsOf g col)
theorem fl_snoc {α β : Type} (f : α → List β) {ts : List α} {i : Nat} {t : α} (h : ts[i]? = some t) : (ts.take (i + 1)).flatMap f = (ts.take i).flatMap f ++ f t := by
  rw [List.take_add_one, h, List.flatMap_append]
  simp
theorem zip_mem {α : Type} {l : List α} {i j : Nat} {t : α} (h : l.zipIdx[i]? = some (t, j)) : l[i]? = some t ∧ j = i := by
  rw [List.getElem?_zipIdx] at h
  cases e : l[i]? with
  | none => rw [e] at h; cases h
  | some t' => rw [e] at h; cases h; exact ⟨rfl, Nat.zero_add _⟩
def spOffers : Sp := fun vs H Q _ => ∃ v u p pots col c, vs = [v, u, .str col] ∧ Dv H (palD p) v ∧ Dv H (potsD pots) u ∧ pots.length ≤ 1000 ∧ (∀ ts ∈ pots, ts.length ≤ 1000) ∧ p.find col = some c ∧ RtL ((offersF c.gathers col pots).map ofrD) H Q
def endedF (ts : List Trn) (hour : Int) : List Trn := ts.filter fun t => decide (t.e ≤ hour)
def behindF (p : Pal) (ts : List Trn) (hour warm : Int) : List Trn := laterF p none (hour + warm) (ts.drop (ts.filter fun t => decide (t.t ≤ hour)).length)
def spBroken : Sp := fun vs H Q _ => ∃ v u p ts hour warm, vs = [v, u, .int hour, .int warm] ∧ Dv H (palD p) v ∧ Dv H (trnsD ts) u ∧ ts.length ≤ 1000 ∧ Linked p ts ∧ (∀ t ∈ ts, sOk t.col) ∧
  ∀ a x y z1 z2 H', Same H H' → H' a = some (.tup [x, z1, y, z2]) → Dv H' (trnsD (endedF ts hour)) x → Dv H' (trnsD (behindF p ts hour warm)) y → Q (.ref a) H'
section
variable {P : Program} {w : World} {K : PySem.W.Frag} {mg : Str → Option Value} {base : Heap} {A : Nat → Addr} {D : Nat → FuncData} {C : Addr} {tk : Tok}
theorem sc_offers_of : FnScope ["palette", "pots", "colour", "name", "charge", "melt", "gathers", "found", "pot", "turns", "number", "at", "own", "begin", "end"] ["palette", "pots", "colour"] (defScope (topS 10)) := ⟨rfl, rfl, rfl, by decide +kernel, rfl, by decide +kernel, by decide +kernel⟩
theorem ok_offers_of (T : Tx K mg A D C tk) : FnOk P w K mg base CX0 2 (A 10) (D 10) ["palette", "pots", "colour"] spOffers := by
  have G_colour_row : FnOk P w K mg base CX0 1 (A 6) (D 6) _ _ := ok_colour_row T
  refine T.d_offers_of.fn.ok sc_offers_of (fun vs H Q E h => ?_) (fun cdv A0 outer s H vs Q E hr h => ?_)
  · obtain ⟨v, u, p, pots, col, c, rfl, _⟩ := h
    rfl
  · obtain ⟨v, u, p, pots, col, c, rfl, hp, ht, hlen, hlens, hf, k⟩ := h
    obtain ⟨a, xs, rfl, ha, hd⟩ := list_of ht
    refine ⟨_, (pss_cons (ps_asg (pcall T.d_colour_row G_colour_row (hr.mono (by decide)) rfl (pa_cons (pv 0) (pa_cons (pv 2) pa_nil))) (pgT K 4 rfl (pgs_cons (pg_name (i := 3) sc_offers_of.nd rfl (Or.inl rfl)) (pgs_cons (pg_name (i := 4) sc_offers_of.nd rfl (Or.inl rfl)) (pgs_cons (pg_name (i := 5) sc_offers_of.nd rfl (Or.inl rfl)) (pgs_cons (pg_name (i := 6) sc_offers_of.nd rfl (Or.inl rfl)) pgs_nil))))))
 (pss_cons (ps_set (i := 7) sc_offers_of.nd rfl (Or.inl rfl) (pe_lst pa_nil))
 (pss_cons (ps_for PassesOwn.never rfl (piE K (by rfl) T.enumerate (pa_cons (pv 1) pa_nil)) (pgT K 2 rfl (pgs_cons (pg_name (i := 8) sc_offers_of.nd rfl (Or.inl rfl)) (pgs_cons (pg_name (i := 9) sc_offers_of.nd rfl (Or.inl rfl)) pgs_nil))) (pss_one (ps_for PassesOwn.never rfl (piE K (by rfl) T.enumerate (pa_cons (pv 9) pa_nil)) (pgT K 2 rfl (pgs_cons (pg_name (i := 10) sc_offers_of.nd rfl (Or.inl rfl)) (pgs_cons (pgT K 4 rfl (pgs_cons (pg_name (i := 11) sc_offers_of.nd rfl (Or.inl rfl)) (pgs_cons (pg_name (i := 12) sc_offers_of.nd rfl (Or.inl rfl)) (pgs_cons (pg_name (i := 13) sc_offers_of.nd rfl (Or.inl rfl)) (pgs_cons (pg_name (i := 14) sc_offers_of.nd rfl (Or.inl rfl)) pgs_nil))))) pgs_nil))) (pss_one (ps_if (pt_cmpR op_eq (pv 12) (pv 2) (nomark _)) (pss_one (ps_expr (pe_bm PySem.F.plainAttrs_list PySem.F.slot_list_append PySem.F.type_list_append mt_append (pv 7) (pa_cons (pe_tup (pa_cons (pv 8) (pa_cons (pv 10) (pa_cons (pv 13) (pa_cons (pv 14) (pa_cons (pv 6) pa_nil)))))) pa_nil)))) pss_nil)))))
 (pss_one (ps_ret (pv 7)))))), ?_⟩
    walk_at "go"
    refine ⟨v, p, col, c, rfl, hp, hf, fun r H0 s0 dr => ?_⟩
    obtain ⟨e, rfl, he⟩ := col_of dr
    refine ⟨_, _, rfl, SqT.of he, rfl, ?_⟩
    walk_at "go"
    refine ⟨Nat.zero_le _, fun l hl => ?_⟩
    have sb : Same H (upd H0 l (.lst [])) := Same.new' s0 hl
    have hl0 : H l = none := s0.free hl
    obtain ⟨g1, g2, g3⟩ := src_b (K := K) (e := trnsD) ha hd
    let Pv : Nat → L2.St → Hp → Prop := fun i σ H1 => ∃ (z1 z2 z3 z4 z5 z6 z7 : Option V) (ys : List V), σ = [some v, some (.ref a), some (.str col), some (.str c.name), some (.int c.charge), some (.int c.melt), some (.int c.gathers), some (.ref l), z1, z2, z3, z4, z5, z6, z7] ∧ Same H H1 ∧
      H1 l = some (.lst ys) ∧ DvAll H1 (((pots.zipIdx.take i).flatMap (ofrsOf c.gathers col)).map ofrD) ys ∧ ys.length ≤ i * 1000
    refine ⟨_, rfl, a, xs, rfl, SqL.of (sb _ _ ha), forG pots.zipIdx.length Pv ?_ ?_ ?_ ?_⟩
    · exact ⟨_, _, _, _, _, _, _, [], rfl, sb, upd_same, by simp [DvAll], Nat.zero_le _⟩
    · rintro i σ H1 hi ⟨_, _, _, _, _, _, _, _, _, s1, _⟩
      exact g1 i _ H1 (List.getElem?_eq_getElem hi) s1
    · rintro i x σ H1 H2 hi ⟨z1, z2, z3, z4, z5, z6, z7, ys, rfl, s1, hys, dys, hyl⟩ y
      have ht0 := List.getElem?_eq_getElem hi
      obtain ⟨s2, T0, z, rfl, hT, dz⟩ := g2 i _ H1 x H2 ht0 s1 y
      generalize pots.zipIdx[i] = q at ht0 hT dz
      obtain ⟨ts, i'⟩ := q
      obtain ⟨hmem, rfl⟩ := zip_mem ht0
      rw [List.length_zipIdx] at hi
      have hts := hlens ts (List.mem_of_getElem? hmem)
      have e1 := fl_snoc (ofrsOf c.gathers col) ht0
      refine ⟨_, _, rfl, SqT.of hT, rfl, ?_⟩
      walk_at "go"
      obtain ⟨b, us, rfl, hb, hbd⟩ := list_of dz
      replace hbd : DvAll H (ts.map trnD) us := hbd
      obtain ⟨f1, f2, f3⟩ := src_b (K := K) (e := trnD) hb hbd
      have hl2 := s2 _ _ hys
      let Pw : Nat → L2.St → Hp → Prop := fun j σ H3 => ∃ (z3 z4 z5 z6 z7 : Option V) (ws : List V), σ = [some v, some (.ref a), some (.str col), some (.str c.name), some (.int c.charge), some (.int c.melt), some (.int c.gathers), some (.ref l), some (.int ((i' : Nat) : Int)), some (.ref b), z3, z4, z5, z6, z7] ∧ Same H H3 ∧
        H3 l = some (.lst ws) ∧ DvAll H3 ((((pots.zipIdx.take i').flatMap (ofrsOf c.gathers col)) ++ (ts.zipIdx.take j).filterMap (ofrOf c.gathers col i')).map ofrD) ws ∧ ws.length ≤ i' * 1000 + j
      refine ⟨_, us, rfl, SqL.of (s2 _ _ (s1 _ _ hb)), forG ts.zipIdx.length Pw ?_ ?_ ?_ ?_⟩
      · exact ⟨_, _, _, _, _, ys, rfl, s1.trans s2, hl2, by simpa using DvAll.same s2 dys, hyl⟩
      · rintro j σ H3 hj ⟨_, _, _, _, _, _, _, s3, _⟩
        exact f1 j _ H3 (List.getElem?_eq_getElem hj) s3
      · rintro j x σ H3 H4 hj ⟨z3, z4, z5, z6, z7, ws, rfl, s3, hws, dws, hwl⟩ y2
        have ht1 := List.getElem?_eq_getElem hj
        obtain ⟨s4, T1, z, rfl, hT1, dz1⟩ := f2 j _ H3 x H4 ht1 s3 y2
        generalize (ts, i').fst.zipIdx[j] = q at ht1 hT1 dz1
        obtain ⟨t, j'⟩ := q
        obtain ⟨hmem1, rfl⟩ := zip_mem ht1
        rw [List.length_zipIdx] at hj
        obtain ⟨ta, rfl, hta⟩ := trn_of dz1
        have e2 := fm_snoc (ofrOf c.gathers col i') ht1
        refine ⟨_, _, rfl, SqT.of hT1, rfl, ?_⟩
        refine ⟨_, _, rfl, ?_⟩
        refine ⟨_, _, rfl, _, _, rfl, SqT.of (s4 _ _ (s3 _ _ hta)), rfl, ?_⟩
        walk_at "go"
        have hw4 := s4 _ _ hws
        refine ite2 (fun q => ?_) (fun q => ?_)
        · walk_at "go"
          refine ⟨.inl ⟨rfl, _, SqL.of hw4⟩, ?_⟩
          walk_at "go"
          refine ⟨by show 5 ≤ sizeLine; decide, fun r hr' => ?_⟩
          have hw5 := (Same.new (o := .tup [.int ((i' : Nat) : Int), .int ((j' : Nat) : Int), .int t.b, .int t.e, .int c.gathers]) hr') _ _ hw4
          refine ⟨l, ws, .ref r, rfl, rfl, hw5, ?_, ?_⟩
          · rw [sizeLine_eq]; omega
          · refine ⟨_, _, _, _, _, ws ++ [.ref r], rfl, Same.mut (Same.new' (s3.trans s4) hr') hl0, upd_same, ?_, by rw [List.length_append]; show ws.length + 1 ≤ _; omega⟩
            rw [e2, show ofrOf c.gathers col i' (t, j') = some ⟨((i' : Nat) : Int), ((j' : Nat) : Int), t.b, t.e, c.gathers⟩ from if_pos (dstr q), ← List.append_assoc, List.map_append]
            exact (DvAll.upd (notup_l hw5) (noLA noOfr _) (DvAll.same (Same.new' s4 hr') dws)).append (.cons (Dv.upd (notup_l hw5) (noOfr _) (ofr_mk upd_same)) .nil)
        · refine ⟨_, _, _, _, _, ws, rfl, s3.trans s4, hw4, ?_, by omega⟩
          rw [e2, show ofrOf c.gathers col i' (t, j') = none from if_neg (dstrN q), List.append_nil]
          exact DvAll.same s4 dws
      · rintro σ H3 ⟨z3, z4, z5, z6, z7, ws, rfl, s3, hws, dws, hwl⟩
        refine ⟨f3 H3 s3, ?_⟩
        rw [List.length_zipIdx] at hwl
        refine ⟨_, _, _, _, _, _, _, ws, rfl, s3, hws, ?_, by omega⟩
        rw [e1]
        rw [List.take_length] at dws
        exact dws
    · rintro σ H1 ⟨z1, z2, z3, z4, z5, z6, z7, ys, rfl, s1, hys, dys, _⟩
      refine ⟨g3 H1 s1, ?_⟩
      rw [List.take_length] at dys
      walk_at "go"
      exact k l ys H1 hl0 s1 hys dys
end
end K83
set_option maxRecDepth 100000
set_option maxHeartbeats 4000000
namespace K83
open PySem PySem.Spec PyProof.Rows L2
local macro_rules | `(tactic| walk_at "nz") => `(tactic| dsimp -proj only [L2.start, wipe, List.map_cons, List.map_nil, List.set, List.length, List.replicate, List.cons_append, List.nil_append, Nat.reduceSub, Nat.reduceAdd])
local macro_rules | `(tactic| walk_at "gg") => `(tactic| repeat (first | refine ⟨rfl, ?_⟩ | refine ⟨_, rfl, ?_⟩ | refine ⟨_, _, rfl, ?_⟩ | refine ⟨_, _, rfl, rfl, ?_⟩))
local macro_rules | `(tactic| walk_at "go") => `(tactic| ((try walk_at "nz"); walk_at "gg"; (try walk_at "nz")))
theorem Linked.drop {p : Pal} {ts : List Trn} (l : Linked p ts) (n : Nat) : Linked p (ts.drop n) :=
  ⟨fun t ht => l.1 t (List.mem_of_mem_drop ht), fun i a b h1 h2 => l.2 (n + i) a b (by rw [List.getElem?_drop] at h1; exact h1) (by rw [List.getElem?_drop] at h2; exact h2)⟩
theorem laterF_len (p : Pal) : ∀ (prev : Option Trn) (f : Int) (ts : List Trn), (laterF p prev f ts).length = ts.length
  | _, _, [] => rfl
  | prev, f, t :: r => by
    rw [laterF, List.length_cons, List.length_cons, laterF_len p _ f r]
theorem laterF_col (p : Pal) : ∀ (prev : Option Trn) (f : Int) (ts : List Trn) (i : Nat) (m : Trn), (laterF p prev f ts)[i]? = some m → ∃ t, ts[i]? = some t ∧ m.col = t.col
  | _, _, [], i, m, h => by simp [laterF] at h
  | prev, f, t :: r, 0, m, h => by
    rw [laterF] at h
    cases h
    exact ⟨t, rfl, rfl⟩
  | prev, f, t :: r, i + 1, m, h => by
    rw [laterF] at h
    exact laterF_col p _ f r i m (by simpa using h)
theorem sh_trn {t : Trn} (h : sOk t.col) : SeqAt.shaped (trnD t) = true := by
  simp [trnD, SeqAt.shaped, PyData.canLay0, PyData.canLayAll0, PyData.depth, PyData.depthAll, show PyData.strOk t.col = true from h]
section
variable {P : Program} {w : World} {K : PySem.W.Frag} {mg : Str → Option Value} {base : Heap} {A : Nat → Addr} {D : Nat → FuncData} {C : Addr} {tk : Tok}
theorem sc_broken : FnScope ["palette", "turns", "hour", "warm", "begin", "turn", "ended", "lost", "rest", "behind", "moved", "number", "other"] ["palette", "turns", "hour", "warm"] (defScope (topS 30)) := ⟨rfl, rfl, rfl, by decide +kernel, rfl, by decide +kernel, by decide +kernel⟩
theorem ok_broken (T : Tx K mg A D C tk) : FnOk P w K mg base CX0 5 (A 30) (D 30) ["palette", "turns", "hour", "warm"] spBroken := by
  have G_first_behind : FnOk P w K mg base CX0 1 (A 29) (D 29) _ _ := ok_first_behind T
  have G_later_turns : FnOk P w K mg base CX0 4 (A 28) (D 28) _ _ := ok_later_turns T
  refine FunD.ok0 T.fn_broken sc_broken (fun vs H Q E h => ?_) (fun cdv A0 outer s H vs Q E hr h => ?_)
  · obtain ⟨v, u, p, ts, hour, warm, rfl, _⟩ := h
    rfl
  · obtain ⟨v, u, p, ts, hour, warm, rfl, hp, ht, hlen, hlk, hsok, k⟩ := h
    obtain ⟨a, xs, rfl, ha, hd⟩ := list_of ht
    refine ⟨_, (pss_cons (ps_set (i := 4) sc_broken.nd rfl (Or.inl rfl) (pcall T.d_first_behind G_first_behind (hr.mono (by decide)) rfl (pa_cons (pv 1) (pa_cons (pv 2) pa_nil))))
 (pss_cons (ps_setLc (i := 6) (own := [("turn", 5)]) rfl sc_broken.nd rfl rfl (sw_true rfl rfl rfl (by decide +kernel)) (piL K (pv 1)) (blkOk_by (N := ["palette", "turns", "hour", "warm", "begin", "turn", "ended", "lost", "rest", "behind", "moved", "number", "other"]) (sc := defScope (topS 30)) (by decide +kernel)) (fun _ _ _ _ _ => (pg_name (i := 5) sc_broken.nd rfl (Or.inl rfl))) (fun _ _ _ _ _ => (pts_one (pt_cmpR op_le (pe_ix (ixT K) (pv 5) pe_int (fun _ _ => rfl)) (pv 2) (nomark _)))) (fun _ _ _ _ _ => (pv 5)))
 (pss_cons (ps_set (i := 7) sc_broken.nd rfl (Or.inl rfl) (pe_ifExp (pt_cmpR op_lt (pe_callB (lenS K) (by rfl) T.len (by decide +kernel) (pa_cons (pv 6) pa_nil)) (pv 4) (nomark _)) (pe_callB (lenS K) (by rfl) T.len (by decide +kernel) (pa_cons (pv 6) pa_nil)) pe_non))
 (pss_cons (ps_set (i := 8) sc_broken.nd rfl (Or.inl rfl) (pe_slice (slL K) (pv 1) (po_some (pv 4)) po_none))
 (pss_cons (ps_set (i := 9) sc_broken.nd rfl (Or.inl rfl) (pcall T.d_later_turns G_later_turns (hr.mono (by decide)) rfl (pa_cons (pv 0) (pa_cons (pv 8) (pa_cons (pe_op op_add (pv 2) (pv 3)) pa_nil)))))
 (pss_cons (ps_set (i := 10) sc_broken.nd rfl (Or.inl rfl) (pe_lst pa_nil))
 (pss_cons (ps_for PassesOwn.never rfl (pi_ezs (by rfl) T.enumerate (by rfl) T.zip (pa_cons (pv 8) (pa_cons (pv 9) pa_nil)) (pv 4)) (pgT K 2 rfl (pgs_cons (pg_name (i := 11) sc_broken.nd rfl (Or.inl rfl)) (pgs_cons (pgT K 2 rfl (pgs_cons (pg_name (i := 5) sc_broken.nd rfl (Or.inl rfl)) (pgs_cons (pg_name (i := 12) sc_broken.nd rfl (Or.inl rfl)) pgs_nil))) pgs_nil))) (pss_one (ps_if (pt_cmpR (neDt K hr.units) (pv 5) (pv 12) (nomark _)) (pss_one (ps_expr (pe_bm PySem.F.plainAttrs_list PySem.F.slot_list_append PySem.F.type_list_append mt_append (pv 10) (pa_cons (pv 11) pa_nil)))) pss_nil)))
 (pss_one (ps_ret (pe_tup (pa_cons (pv 6) (pa_cons (pv 7) (pa_cons (pv 9) (pa_cons (pv 10) pa_nil)))))))))))))), ?_⟩
    walk_at "go"
    refine ⟨_, ts, hour, rfl, ht, by omega, fun r H1 s1 dr => ?_⟩
    cases dr
    generalize hn : (ts.filter fun t => decide (t.t ≤ hour)).length = n at k ⊢
    obtain ⟨g1, g2, g3⟩ := src_l (K := K) (e := trnD) (s1 _ _ ha) (DvAll.same s1 hd)
    refine ⟨_, rfl, _, rfl, ⟨_, SqL.of (s1 _ _ ha)⟩, ?_⟩
    refine lcG (e' := trnD) ts (fun t => if t.e ≤ hour then some t else none) (fun t x H => Dv H (trnD t) x) noT (by omega) g1 g2 g3 ?_ ?_
    · intro t x H2 N M _ sm dx hy hno
      obtain ⟨e, rfl, he⟩ := trn_of dx
      walk_at "go"
      refine ⟨_, _, _, _, rfl, rfl, SqT.of he, rfl, ?_⟩
      walk_at "go"
      refine ite2 (fun q => ?_) (fun q => ?_)
      · walk_at "go"
        exact hy t (if_pos (of_decide_eq_true q)) _ _ (Same.refl _) dx
      · exact hno (if_neg (fun z => q (decide_eq_true z))) _ (Same.refl _)
    · rw [fm_filter]
      intro q1 es H2 hq1 s2 hes des
      have s12 := s1.trans s2
      have rest : ∀ lost : V, (tSeq (tAsg (tSl (rSlL K) (tVar 1) (tPart (tVar 4)) tNoPart) (gName 8)) (tSeq (tAsg (tCall spLater [] E0 (tCons (tVar 0) (tCons (tVar 8) (tCons (tOp (rI0 fun i j => V.int (i + j)) (tVar 2) (tVar 3)) tNil)))) (gName 9))
          (tSeq (tAsg (tLst tNil) (gName 10)) (tSeq (tFor (iEzs K (tCons (tVar 8) (tCons (tVar 9) tNil)) (tVar 4)) (gTup K 2 (gCons (gName 11) (gCons (gTup K 2 (gCons (gName 5) (gCons (gName 12) gNil))) gNil)))
            (tIfS (tTest (tOp (rNeD K) (tVar 5) (tVar 12))) (tDrop (tBM K "list" rAppend (tVar 10) (tCons (tVar 11) tNil))) tNext)) (tRet (tTup (tCons (tVar 6) (tCons (tVar 7) (tCons (tVar 9) (tCons (tVar 10) tNil)))))))))) { nx := fun x H' => Q V.non H', rt := Q }
          [some v, some (.ref a), some (.int hour), some (.int warm), some (.int (n : Int)), none, some (.ref q1), some lost, none, none, none, none, none] H2 := fun lost => by
        walk_at "go"
        refine ⟨_, _, rfl, SqL.of (s12 _ _ ha), fun q2 hq2 => ?_⟩
        rw [cutV_from]
        have s3 : Same H2 (upd H2 q2 (.lst (xs.drop n))) := Same.new hq2
        have hdr : DvAll H2 ((ts.drop n).map trnD) (xs.drop n) := by
          rw [List.map_drop]
          exact (DvAll.same s12 hd).drop n
        walk_at "go"
        refine ⟨v, _, p, ts.drop n, _, rfl, hp.same (s12.trans s3), list_mk upd_same (DvAll.same s3 hdr), hlk.drop n, (by rw [List.length_drop]; omega), fun q3 bs H3 hq3 s4 hbs dbs => ?_⟩
        walk_at "go"
        refine ⟨Nat.zero_le _, fun q4 hq4 => ?_⟩
        have s5 : Same H3 (upd H3 q4 (.lst [])) := Same.new hq4
        have hr2 := s4 _ _ (upd_same (H := H2) (a := q2) (o := .lst (xs.drop n)))
        have hdr3 := DvAll.same (s3.trans s4) hdr
        have hlb : bs.length = (xs.drop n).length := by rw [dbs.lenM, laterF_len, hdr.lenM]
        have hnlt : (n : Int) < 2 ^ 63 := by
          have : n ≤ ts.length := by rw [← hn]; exact List.length_filter_le _ _
          omega
        let Pv : Nat → L2.St → Hp → Prop := fun i σ H5 => ∃ (z1 z2 z3 : Option V) (ms : List V), σ = [some v, some (.ref a), some (.int hour), some (.int warm), some (.int (n : Int)), z1, some (.ref q1), some lost, some (.ref q2), some (.ref q3), some (.ref q4), z2, z3] ∧ Same H3 H5 ∧ H5 q4 = some (.lst ms) ∧ ms.length ≤ i
        refine ⟨_, rfl, _, rfl, q2, q3, _, _, rfl, SqL.of (s5 _ _ hr2), SqL.of (s5 _ _ hbs), _, rfl, _, rfl, by omega, hnlt, forG bs.length Pv ?_ ?_ ?_ ?_⟩
        · exact ⟨_, _, _, [], rfl, s5, upd_same, Nat.le_refl _⟩
        · rintro i σ H5 hi ⟨_, _, _, ms, rfl, s6, _⟩
          exact ⟨xs.drop n, bs, _, _, SqL.of (s6 _ _ hr2), SqL.of (s6 _ _ hbs), List.getElem?_eq_getElem (by omega), List.getElem?_eq_getElem hi⟩
        · rintro i x σ H5 H6 hi ⟨z1, z2, z3, ms, rfl, s6, hms, hml⟩ y
          obtain ⟨T1, T2, x1, y1, rfl, h1, h2, hne, rfl, hx1, hy1⟩ := y
          have e1 := hx1 _ (SqL.of (s6 _ _ hr2))
          have e2 := hy1 _ (SqL.of (s6 _ _ hbs))
          obtain ⟨t1, ht1, d1⟩ := hdr3.at e1
          obtain ⟨t2, ht2, d2⟩ := dbs.at e2
          obtain ⟨t3, ht3, hcol⟩ := laterF_col p _ _ _ _ _ ht2
          have s7 : Same H5 (upd (upd H5 T1 (.tup [x1, y1])) T2 (.tup [.int ((n : Int) + (i : Nat)), .ref T1])) := Same.new' (Same.new h1) (by rw [upd_ne hne.symm]; exact h2)
          have hT1 : upd (upd H5 T1 (.tup [x1, y1])) T2 (.tup [.int ((n : Int) + (i : Nat)), .ref T1]) T1 = some (.tup [x1, y1]) := by rw [upd_ne hne, upd_same]
          refine ⟨_, _, rfl, SqT.of upd_same, rfl, ?_⟩
          refine ⟨_, _, rfl, _, _, rfl, _, _, rfl, SqT.of hT1, rfl, ?_⟩
          walk_at "go"
          refine ⟨_, _, Dv.dp (K := K) (Dv.same (s6.trans s7) d1), Dv.dp (K := K) (Dv.same (s6.trans s7) d2), sh_trn (hsok _ (List.mem_of_mem_drop (List.mem_of_getElem? ht1))), sh_trn (by rw [hcol]; exact hsok _ (List.mem_of_mem_drop (List.mem_of_getElem? ht3))), ?_⟩
          refine ⟨_, rfl, ?_⟩
          refine ite2 (fun q => ?_) (fun q => ?_)
          · have hm7 := s7 _ _ hms
            walk_at "go"
            refine ⟨.inl ⟨rfl, _, SqL.of hm7⟩, ?_⟩
            walk_at "go"
            refine ⟨q4, ms, _, rfl, rfl, hm7, ?_, ?_⟩
            · have : bs.length ≤ 1000 := by rw [hlb, List.length_drop, hd.lenM]; omega
              rw [sizeLine_eq]; omega
            · exact ⟨_, _, _, ms ++ [_], rfl, Same.mut (s6.trans s7) hq4, upd_same, by rw [List.length_append]; show ms.length + 1 ≤ _; omega⟩
          · exact ⟨_, _, _, ms, rfl, s6.trans s7, s7 _ _ hms, by omega⟩
        · rintro σ H5 ⟨z1, z2, z3, ms, rfl, s6, hms, hml⟩
          refine ⟨⟨xs.drop n, bs, SqL.of (s6 _ _ hr2), SqL.of (s6 _ _ hbs), by omega, Nat.le_refl _⟩, ?_⟩
          walk_at "go"
          refine ⟨by show 4 ≤ sizeLine; decide, fun q5 hq5 => ?_⟩
          have s8 : Same H5 _ := Same.new (o := .tup [.ref q1, lost, .ref q3, .ref q4]) hq5
          refine k q5 _ _ _ _ _ (s12.trans (s3.trans (s4.trans (s6.trans s8)))) upd_same ?_ ?_
          · exact list_mk (s8 _ _ (s6 _ _ (s4 _ _ (s3 _ _ hes)))) (DvAll.same (s3.trans (s4.trans (s6.trans s8))) des)
          · refine list_mk (s8 _ _ (s6 _ _ hbs)) (DvAll.same (s6.trans s8) ?_)
            rw [behindF, hn]
            exact dbs
      walk_at "go"
      refine ⟨_, _, rfl, .inl (SqL.of hes), ?_⟩
      walk_at "go"
      refine ite2 (fun q => ?_) (fun q => ?_)
      · walk_at "go"
        refine ⟨_, _, rfl, .inl (SqL.of hes), ?_⟩
        exact rest _
      · exact rest _
end
end K83
set_option maxRecDepth 100000
set_option maxHeartbeats 4000000
namespace K83
open PySem PySem.Spec PyProof.Rows L2
local macro_rules | `(tactic| walk_at "nz") => `(tactic| dsimp -proj only [L2.start, wipe, List.map_cons, List.map_nil, List.set, List.length, List.replicate, List.cons_append, List.nil_append, Nat.reduceSub, Nat.reduceAdd])
local macro_rules | `(tactic| walk_at "gg") => `(tactic| repeat (first | refine ⟨rfl, ?_⟩ | refine ⟨_, rfl, ?_⟩ | refine ⟨_, _, rfl, ?_⟩ | refine ⟨_, _, rfl, rfl, ?_⟩))
local macro_rules | `(tactic| walk_at "go") => `(tactic| ((try walk_at "nz"); walk_at "gg"; (try walk_at "nz")))
theorem s_ol : ¬ (("offers" : Str) = "left") := by decide +kernel
theorem s_lo : ¬ (("left" : Str) = "offers") := by decide +kernel
theorem s_oh : ¬ (("offers" : Str) = "hourly") := by decide +kernel
theorem s_ho : ¬ (("hourly" : Str) = "offers") := by decide +kernel
theorem s_lh : ¬ (("left" : Str) = "hourly") := by decide +kernel
theorem s_hl : ¬ (("hourly" : Str) = "left") := by decide +kernel
theorem putF_len (f : Str) (v : V) : ∀ fs : List (Str × V), (putF f v fs).length ≤ fs.length + 1
  | [] => Nat.le_refl _
  | (g, w) :: r => by
    unfold putF
    split
    · show r.length + 1 ≤ _
      rw [List.length_cons]; omega
    · show (putF f v r).length + 1 ≤ _
      have := putF_len f v r
      rw [List.length_cons]; omega
def SvF (lo ll lh : Addr) : List (Str × V) := putF "hourly" (.ref lh) (putF "left" (.ref ll) (putF "offers" (.ref lo) []))
section
variable {lo ll lh : Addr}
theorem sv_o : (SvF lo ll lh).lookup ("offers" : Str) = some (.ref lo) := by
  unfold SvF
  rw [lookup_putF, if_neg s_oh, lookup_putF, if_neg s_ol, lookup_putF, if_pos rfl]
theorem sv_l : (SvF lo ll lh).lookup ("left" : Str) = some (.ref ll) := by
  unfold SvF
  rw [lookup_putF, if_neg s_lh, lookup_putF, if_pos rfl]
theorem sv_h : (SvF lo ll lh).lookup ("hourly" : Str) = some (.ref lh) := by
  unfold SvF
  rw [lookup_putF, if_pos rfl]
theorem sv_no {m : Str} (h1 : ¬ m = "hourly") (h2 : ¬ m = "left") (h3 : ¬ m = "offers") : (SvF lo ll lh).lookup m = none := by
  unfold SvF
  rw [lookup_putF, if_neg h1, lookup_putF, if_neg h2, lookup_putF, if_neg h3]
  rfl
theorem sv_gl : (SvF lo ll lh).lookup ("gathers_left" : Str) = none := sv_no (by decide +kernel) (by decide +kernel) (by decide +kernel)
theorem sv_un : (SvF lo ll lh).lookup ("untaken_at" : Str) = none := sv_no (by decide +kernel) (by decide +kernel) (by decide +kernel)
theorem sv_ho : (SvF lo ll lh).lookup ("hours_of" : Str) = none := sv_no (by decide +kernel) (by decide +kernel) (by decide +kernel)
theorem sv_wf : (SvF lo ll lh).lookup ("way_from" : Str) = none := sv_no (by decide +kernel) (by decide +kernel) (by decide +kernel)
theorem sv_tk : (SvF lo ll lh).lookup ("take" : Str) = none := sv_no (by decide +kernel) (by decide +kernel) (by decide +kernel)
theorem sv_hm : (SvF lo ll lh).lookup ("hours_met" : Str) = none := sv_no (by decide +kernel) (by decide +kernel) (by decide +kernel)
theorem sv_la : (SvF lo ll lh).lookup ("lack_at" : Str) = none := sv_no (by decide +kernel) (by decide +kernel) (by decide +kernel)
end
def nV (n : Nat) : V := .int (n : Int)
def nD (n : Nat) : PyData := .int (n : Int)
def rowD (r : List Nat) : PyData := .list (r.map nD)
/-- a Serving stands at p -/
structure SrvAt (C : Addr) (H : Hp) (p dx lo ll lh : Addr) (as : List Addr) (xs : List V) (os : List Of3) (left : List Int) (rows : List (List Nat)) : Prop where
  ins : H p = some (.ins C dx (SvF lo ll lh))
  ofs : H lo = some (.lst xs)
  ofd : DvAll H (os.map of3D) xs
  lft : H ll = some (.lst (left.map V.int))
  hrs : H lh = some (.lst (as.map V.ref))
  row : Paired (fun (a : Addr) (r : List Nat) => H a = some (.lst (r.map nV))) as rows
  len : os.length ≤ 100000 ∧ rows.length ≤ 100 ∧ ∀ r ∈ rows, r.length ≤ 100000
theorem SrvAt.same {C : Addr} {H H' : Hp} {p dx lo ll lh : Addr} {as : List Addr} {xs : List V} {os : List Of3} {left : List Int} {rows : List (List Nat)} (s : SrvAt C H p dx lo ll lh as xs os left rows) (e : Same H H') : SrvAt C H' p dx lo ll lh as xs os left rows where
  ins := e _ _ s.ins
  ofs := e _ _ s.ofs
  ofd := s.ofd.same e
  lft := e _ _ s.lft
  hrs := e _ _ s.hrs
  row := by
    have r := s.row
    clear s
    induction r with
    | nil => exact .nil
    | cons h _ ih => exact .cons (e _ _ h) ih
  len := s.len
theorem dv_row {H : Hp} {a : Addr} {r : List Nat} (h : H a = some (.lst (r.map nV))) : Dv H (rowD r) (.ref a) := ⟨a, _, rfl, h, by
  have := DvAll.ints (H := H) (r.map (fun n : Nat => (n : Int)))
  rw [List.map_map, List.map_map] at this
  exact this⟩
theorem row_dv {H : Hp} {r : List Nat} {v : V} (h : Dv H (rowD r) v) : ∃ a, v = .ref a ∧ H a = some (.lst (r.map nV)) := by
  obtain ⟨a, xs, rfl, ha, hd⟩ := h
  have : xs = r.map nV := by
    have h2 : DvAll H ((r.map (fun n : Nat => (n : Int))).map PyData.int) xs := by rw [List.map_map]; exact hd
    have := DvAll.ints' h2
    rw [List.map_map] at this
    exact this
  exact ⟨a, rfl, this ▸ ha⟩
theorem SrvAt.rowsD {C : Addr} {H : Hp} {p dx lo ll lh : Addr} {as : List Addr} {xs : List V} {os : List Of3} {left : List Int} {rows : List (List Nat)} (s : SrvAt C H p dx lo ll lh as xs os left rows) : DvAll H (rows.map rowD) (as.map V.ref) := by
  have r := s.row
  clear s
  induction r with
  | nil => exact .nil
  | cons h _ ih => exact .cons (dv_row h) ih
theorem pair_at {α β : Type} {R : α → β → Prop} : ∀ {as : List α} {bs : List β} {i : Nat} {b : β}, Paired R as bs → bs[i]? = some b → ∃ a, as[i]? = some a ∧ R a b
  | _, _, _, _, .nil, h => by simp at h
  | _, _, 0, _, .cons h _, e => by cases e; exact ⟨_, rfl, h⟩
  | _, _, i + 1, _, .cons _ t, e => by
    obtain ⟨a, h1, h2⟩ := pair_at (i := i) t (by simpa using e)
    exact ⟨a, by simpa using h1, h2⟩
theorem inV_ints (n : Nat) (r : List Nat) : inV (.int (n : Int)) (r.map nV) = decide (n ∈ r) := by
  unfold inV
  induction r with
  | nil => simp
  | cons m r ih =>
    rw [List.map_cons, List.any_cons, ih]
    have : eqV (nV m) (.int (n : Int)) = decide (m = n) := by
      show ((m : Int) == (n : Int)) = decide (m = n)
      by_cases h : m = n
      · simp [h]
      · simp [h]; omega
    rw [this]
    by_cases h : m = n
    · simp [h]
    · simp [h]
      exact fun z => absurd z.symm h
theorem inV_nV (n : Nat) (r : List Nat) : inV (nV n) (r.map nV) = decide (n ∈ r) := inV_ints n r
theorem flat_ints (r : List Nat) : (r.map nV).all flatV = true := by
  rw [List.all_eq_true]
  intro x hx
  obtain ⟨n, _, rfl⟩ := List.mem_map.mp hx
  rfl
def availB (o : Of3) (h : Int) : Bool := decide (o.b ≤ h) && decide (h < o.e)
def untakenF (os : List Of3) (r : List Nat) (h : Int) : List Nat := (os.zipIdx.filterMap fun q => if q.1.b ≤ h ∧ h < q.1.e then some q.2 else none).filter fun n => decide (n ∉ r)
def hoursF (rows : List (List Nat)) (n : Nat) : List Nat := rows.zipIdx.filterMap fun q => if n ∈ q.1 then some q.2 else none
def spInit (C : Addr) : Sp := fun vs H Q _ => ∃ p dx lo xs os, vs = [.ref p, .ref lo] ∧ H p = some (.ins C dx []) ∧ H lo = some (.lst xs) ∧ DvAll H (os.map of3D) xs ∧ os.length ≤ 100000 ∧
  ∀ ll lh H', (∀ b o, b ≠ p → H b = some o → H' b = some o) → H ll = none → H lh = none → ll ≠ lh → SrvAt C H' p dx lo ll lh [] xs os (os.map (·.g)) [] → Q .non H'
def spGl (C : Addr) : Sp := fun vs H Q _ => ∃ p dx lo ll lh as xs os left rows, ∃ (n : Nat) (g : Int), vs = [.ref p, nV n] ∧ SrvAt C H p dx lo ll lh as xs os left rows ∧ left[n]? = some g ∧ Q (.int g) H
def spUn (C : Addr) : Sp := fun vs H Q _ => ∃ p dx lo ll lh as xs os left rows, ∃ (h : Nat) (r : List Nat), vs = [.ref p, nV h] ∧ SrvAt C H p dx lo ll lh as xs os left rows ∧ rows[h]? = some r ∧ RtL ((untakenF os r h).map nD) H Q
def spHo (C : Addr) : Sp := fun vs H Q _ => ∃ p dx lo ll lh as xs os left rows, ∃ (n : Nat), vs = [.ref p, nV n] ∧ SrvAt C H p dx lo ll lh as xs os left rows ∧ RtL ((hoursF rows n).map nD) H Q
section
variable {P : Program} {w : World} {K : PySem.W.Frag} {mg : Str → Option Value} {base : Heap} {A : Nat → Addr} {D : Nat → FuncData} {C : Addr} {tk : Tok}
theorem sc_Serving___init__ : FnScope ["self", "offers", "first", "last", "gathers"] ["self", "offers"] (defScope (inClass (topS 1) 0)) := ⟨rfl, rfl, rfl, by decide +kernel, rfl, by decide +kernel, by decide +kernel⟩
theorem ok_init (T : Tx K mg A D C tk) : FnOk P w K mg base CX0 1 (A 100) (D 100) ["self", "offers"] (spInit C) := by
  refine T.f_init.ok sc_Serving___init__ (fun vs H Q E h => ?_) (fun cdv A0 outer s H vs Q E hr h => ?_)
  · obtain ⟨p, dx, lo, xs, os, rfl, _⟩ := h
    rfl
  · obtain ⟨p, dx, lo, xs, os, rfl, hp, hlo, hd, hlen, k⟩ := h
    refine ⟨_, (pss_cons (ps_fld (pv 0) (pv 1) rfl)
 (pss_cons (ps_fld (pv 0) (pe_lc (own := [("first", 2), ("last", 3), ("gathers", 4)]) rfl sc_Serving___init__.nd (piL K (pv 1)) (blkOk_by (N := ["self", "offers", "first", "last", "gathers"]) (sc := defScope (inClass (topS 1) 0)) (by decide +kernel)) (fun _ _ _ _ _ => (pgT K 3 rfl (pgs_cons (pg_name (i := 2) sc_Serving___init__.nd rfl (Or.inl rfl)) (pgs_cons (pg_name (i := 3) sc_Serving___init__.nd rfl (Or.inl rfl)) (pgs_cons (pg_name (i := 4) sc_Serving___init__.nd rfl (Or.inl rfl)) pgs_nil))))) (fun _ _ _ _ _ => pts_nil) (fun _ _ _ _ _ => (pv 4))) rfl)
 (pss_one (ps_fld (pv 0) (pe_lst pa_nil) rfl)))), ?_⟩
    refine ⟨_, rfl, _, rfl, p, C, dx, [], rfl, hp, T.cl, T.n_offers, by decide, ?_⟩
    have nlp : lo ≠ p := ne_of hlo hp (by intro z; cases z)
    have hlo1 : upd H p (.ins C dx (putF "offers" (.ref lo) [])) lo = some (.lst xs) := by rw [upd_ne nlp]; exact hlo
    have hd1 : DvAll (upd H p (.ins C dx (putF "offers" (.ref lo) []))) (os.map of3D) xs := DvAll.upd (fun _ z => by rw [hp] at z; cases z) (noLA noOf3 _) hd
    walk_at "go"
    refine ⟨⟨_, SqL.of hlo1⟩, ?_⟩
    obtain ⟨g1, g2, g3⟩ := src_l (K := K) (e := of3D) hlo1 hd1
    refine lcG (e' := PyData.int) os (fun o => some o.g) (fun t x H => Dv H (of3D t) x) (fun _ => rfl) hlen g1 g2 g3 ?_ ?_
    · intro t x H1 N M _ sm dx' hy hn
      obtain ⟨e, rfl, he⟩ := of3_of dx'
      refine ⟨_, _, rfl, SqT.of he, rfl, ?_⟩
      walk_at "go"
      exact hy _ rfl _ _ (Same.refl _) rfl
    · rw [fm_map]
      intro ll ys H1 hll s1 hys dys
      have ey := DvAll.ints' dys
      subst ey
      have hp1 := s1 _ _ (upd_same (H := H) (a := p))
      have nlp1 : ll ≠ p := fun z => by rw [z, upd_same] at hll; cases hll
      refine ⟨_, rfl, p, C, dx, _, rfl, hp1, T.cl, T.n_left, (Nat.lt_of_le_of_lt (putF_len _ _ _) (by decide)), ?_⟩
      refine ⟨Nat.zero_le _, fun lh hlh => ?_⟩
      have nlh : lh ≠ p := fun z => by rw [z, upd_same] at hlh; cases hlh
      rw [upd_ne nlh] at hlh
      have nll : ll ≠ lh := fun z => by rw [z, hlh] at hys; cases hys
      refine ⟨_, rfl, p, C, dx, _, rfl, by rw [upd_ne nlh.symm, upd_same], T.cl, T.n_hourly, (Nat.lt_of_le_of_lt (putF_len _ _ _) (Nat.lt_of_le_of_lt (Nat.succ_le_succ (putF_len _ _ _)) (by decide))), ?_⟩
      have hllH : H ll = none := by rw [upd_ne nlp1] at hll; exact hll
      have fr : ∀ b o, b ≠ p → H b = some o → H1 b = some o := fun b o hb e => s1 _ _ (by rw [upd_ne hb]; exact e)
      have hlhH : H lh = none := by
        cases q : H lh with
        | none => rfl
        | some o => rw [fr lh o nlh q] at hlh; cases hlh
      have fin : ∀ b o, b ≠ p → H1 b = some o → upd (upd (upd H1 p (.ins C dx (putF "left" (.ref ll) (putF "offers" (.ref lo) [])))) lh (.lst [])) p (.ins C dx (SvF lo ll lh)) b = some o := fun b o hb e => by
        rw [upd_ne hb, upd_ne (fun z => by rw [z, hlh] at e; cases e), upd_ne hb]; exact e
      refine k ll lh _ (fun b o hb e => fin b o hb (fr b o hb e)) hllH hlhH nll ⟨upd_same, fin _ _ nlp (fr _ _ nlp hlo), ?_, fin _ _ nlp1 hys, by rw [upd_ne nlh, upd_same]; rfl, .nil, ⟨hlen, Nat.zero_le _, fun _ z => nomatch z⟩⟩
      have d1 : DvAll H1 (os.map of3D) xs := DvAll.same s1 hd1
      have d2 := DvAll.upd (o := .ins C dx (putF "left" (.ref ll) (putF "offers" (.ref lo) []))) (fun _ z => by rw [hp1] at z; cases z) (noLA noOf3 _) d1
      have d3 := DvAll.upd (a := lh) (o := .lst []) (fun _ z => by rw [upd_ne nlh, hlh] at z; cases z) (noLA noOf3 _) d2
      exact DvAll.upd (fun _ z => by rw [upd_ne nlh.symm, upd_same] at z; cases z) (noLA noOf3 _) d3
theorem sc_Serving_gathers_left : FnScope ["self", "number"] ["self", "number"] (defScope (inClass (topS 1) 1)) := ⟨rfl, rfl, rfl, by decide +kernel, rfl, by decide +kernel, by decide +kernel⟩
theorem ok_gathers_left (T : Tx K mg A D C tk) : FnOk P w K mg base CX0 1 (A 101) (D 101) ["self", "number"] (spGl C) := by
  refine T.f_gathers_left.ok sc_Serving_gathers_left (fun vs H Q E h => ?_) (fun cdv A0 outer s H vs Q E hr h => ?_)
  · obtain ⟨p, dx, lo, ll, lh, as, xs, os, left, rows, n, g, rfl, _⟩ := h
    rfl
  · obtain ⟨p, dx, lo, ll, lh, as, xs, os, left, rows, n, g, rfl, S, hg, k⟩ := h
    refine ⟨_, (pss_one (ps_ret (pe_ix (ixL K) (pe_fld (pv 0) rfl) (pv 1) (fun _ _ => rfl)))), ?_⟩
    refine ⟨_, rfl, p, C, dx, _, _, rfl, S.ins, T.cl, T.n_left, sv_l, _, rfl, ?_⟩
    exact ⟨_, _, _, _, rfl, rfl, SqL.of S.lft, atI_nat (j := n) (by rw [List.getElem?_map, hg]; rfl), k⟩
theorem sc_Serving_untaken_at : FnScope ["self", "hour", "taken", "numbers", "number", "first", "last", "gathers"] ["self", "hour"] (defScope (inClass (topS 1) 2)) := ⟨rfl, rfl, rfl, by decide +kernel, rfl, by decide +kernel, by decide +kernel⟩
theorem ok_untaken_at (T : Tx K mg A D C tk) : FnOk P w K mg base CX0 1 (A 102) (D 102) ["self", "hour"] (spUn C) := by
  refine T.f_untaken_at.ok sc_Serving_untaken_at (fun vs H Q E h => ?_) (fun cdv A0 outer s H vs Q E hr h => ?_)
  · obtain ⟨p, dx, lo, ll, lh, as, xs, os, left, rows, h, r, rfl, _⟩ := h
    rfl
  · obtain ⟨p, dx, lo, ll, lh, as, xs, os, left, rows, h, r, rfl, S, hr', k⟩ := h
    obtain ⟨a, ha, hra⟩ := pair_at S.row hr'
    refine ⟨_, (pss_cons (ps_set (i := 2) sc_Serving_untaken_at.nd rfl (Or.inr rfl) (pe_ix (ixL K) (pe_fld (pv 0) rfl) (pv 1) (fun _ _ => rfl)))
 (pss_cons (ps_setLc (i := 3) (own := [("number", 4), ("first", 5), ("last", 6), ("gathers", 7)]) rfl sc_Serving_untaken_at.nd rfl rfl (sw_true rfl rfl rfl (by decide +kernel)) (piE K (by rfl) T.enumerate (pa_cons (pe_fld (pv 0) rfl) pa_nil)) (blkOk_by (N := ["self", "hour", "taken", "numbers", "number", "first", "last", "gathers"]) (sc := defScope (inClass (topS 1) 2)) (by decide +kernel)) (fun _ _ _ _ _ => (pgT K 2 rfl (pgs_cons (pg_name (i := 4) sc_Serving_untaken_at.nd rfl (Or.inl rfl)) (pgs_cons (pgT K 3 rfl (pgs_cons (pg_name (i := 5) sc_Serving_untaken_at.nd rfl (Or.inl rfl)) (pgs_cons (pg_name (i := 6) sc_Serving_untaken_at.nd rfl (Or.inl rfl)) (pgs_cons (pg_name (i := 7) sc_Serving_untaken_at.nd rfl (Or.inl rfl)) pgs_nil)))) pgs_nil)))) (fun _ _ _ _ _ => (pts_one (pt_chain op_le op_lt (pv 5) (pv 1) (pv 6)))) (fun _ _ _ _ _ => (pv 4)))
 (pss_one (ps_ret (pe_lc (own := [("number", 4)]) rfl sc_Serving_untaken_at.nd (piL K (pv 3)) (blkOk_by (N := ["self", "hour", "taken", "numbers", "number", "first", "last", "gathers"]) (sc := defScope (inClass (topS 1) 2)) (by decide +kernel)) (fun _ _ _ _ _ => (pg_name (i := 4) sc_Serving_untaken_at.nd rfl (Or.inl rfl))) (fun _ _ _ _ _ => (pts_one (pt_cmpR (ninS K) (pv 4) (pv 2) rfl))) (fun _ _ _ _ _ => (pv 4))))))), ?_⟩
    refine ⟨_, rfl, p, C, dx, _, _, rfl, S.ins, T.cl, T.n_hourly, sv_h, _, rfl, _, _, _, _, rfl, rfl, SqL.of S.hrs, atI_nat (j := h) (by rw [List.getElem?_map, ha]; rfl), ?_⟩
    refine ⟨_, rfl, p, C, dx, _, _, rfl, S.ins, T.cl, T.n_offers, sv_o, _, _, rfl, SqL.of S.ofs, ?_⟩
    obtain ⟨g1, g2, g3⟩ := src_e (K := K) (e := of3D) S.ofs S.ofd
    refine lcG (e' := nD) os.zipIdx (fun q => if q.1.b ≤ h ∧ h < q.1.e then some q.2 else none) (PairAt of3D) (fun _ => rfl) (by rw [List.length_zipIdx]; exact S.len.1) g1 g2 g3 ?_ ?_
    · rintro ⟨o, i⟩ x H1 N M _ sm ⟨T0, y, rfl, hT, dy⟩ hy hn
      obtain ⟨e, rfl, he⟩ := of3_of dy
      refine ⟨_, _, rfl, SqT.of hT, rfl, ?_⟩
      refine ⟨_, _, rfl, ?_⟩
      refine ⟨_, _, rfl, _, _, rfl, SqT.of he, rfl, ?_⟩
      walk_at "go"
      refine ite2 (fun q1 => ?_) (fun q1 => ?_)
      · walk_at "go"
        refine ite2 (fun q2 => ?_) (fun q2 => ?_)
        · walk_at "go"
          exact hy _ (if_pos ⟨of_decide_eq_true q1, of_decide_eq_true q2⟩) _ _ (Same.refl _) rfl
        · exact hn (if_neg fun z => q2 (decide_eq_true z.2)) _ (Same.refl _)
      · refine ⟨_, rfl, iteF ?_⟩
        exact hn (if_neg fun z => q1 (decide_eq_true z.1)) _ (Same.refl _)
    · intro q ns H1 hq s1 hns dns
      walk_at "go"
      refine ⟨⟨_, SqL.of hns⟩, ?_⟩
      obtain ⟨f1, f2, f3⟩ := src_l (K := K) (e := nD) hns dns
      refine lcG (e' := nD) _ (fun n : Nat => if n ∉ r then some n else none) (fun t x H => Dv H (nD t) x) (fun _ => rfl) ?_ f1 f2 f3 ?_ ?_
      · have := List.length_filterMap_le (fun q : Of3 × Nat => if q.1.b ≤ h ∧ h < q.1.e then some q.2 else none) os.zipIdx
        rw [List.length_zipIdx] at this
        have := S.len.1
        omega
      · rintro n x H2 N M _ s2 dn hy hn
        cases dn
        walk_at "go"
        refine ⟨_, _, rfl, .inl (SqL.of (s2 _ _ (s1 _ _ hra))), rfl, flat_ints r, ?_⟩
        rw [inV_ints]
        walk_at "go"
        refine ite2 (fun q1 => ?_) (fun q1 => ?_)
        · walk_at "go"
          exact hy _ (if_pos (by simpa using q1)) _ _ (Same.refl _) rfl
        · exact hn (if_neg (by simpa using q1)) _ (Same.refl _)
      · rw [fm_filter]
        intro q2 ms H2 hq2 s2 hms dms
        exact k q2 ms H2 (s1.free hq2) (s1.trans s2) hms dms
theorem sc_Serving_hours_of : FnScope ["self", "number", "hour", "taken"] ["self", "number"] (defScope (inClass (topS 1) 3)) := ⟨rfl, rfl, rfl, by decide +kernel, rfl, by decide +kernel, by decide +kernel⟩
theorem ok_hours_of (T : Tx K mg A D C tk) : FnOk P w K mg base CX0 1 (A 103) (D 103) ["self", "number"] (spHo C) := by
  refine T.f_hours_of.ok sc_Serving_hours_of (fun vs H Q E h => ?_) (fun cdv A0 outer s H vs Q E hr h => ?_)
  · obtain ⟨p, dx, lo, ll, lh, as, xs, os, left, rows, n, rfl, _⟩ := h
    rfl
  · obtain ⟨p, dx, lo, ll, lh, as, xs, os, left, rows, n, rfl, S, k⟩ := h
    refine ⟨_, (pss_one (ps_ret (pe_lc (own := [("hour", 2), ("taken", 3)]) rfl sc_Serving_hours_of.nd (piE K (by rfl) T.enumerate (pa_cons (pe_fld (pv 0) rfl) pa_nil)) (blkOk_by (N := ["self", "number", "hour", "taken"]) (sc := defScope (inClass (topS 1) 3)) (by decide +kernel)) (fun _ _ _ _ _ => (pgT K 2 rfl (pgs_cons (pg_name (i := 2) sc_Serving_hours_of.nd rfl (Or.inl rfl)) (pgs_cons (pg_name (i := 3) sc_Serving_hours_of.nd rfl (Or.inl rfl)) pgs_nil)))) (fun _ _ _ _ _ => (pts_one (pt_cmpR (inS K) (pv 1) (pv 3) rfl))) (fun _ _ _ _ _ => (pv 2))))), ?_⟩
    refine ⟨_, rfl, p, C, dx, _, _, rfl, S.ins, T.cl, T.n_hourly, sv_h, _, _, rfl, SqL.of S.hrs, ?_⟩
    obtain ⟨g1, g2, g3⟩ := src_e (K := K) (e := rowD) S.hrs S.rowsD
    refine lcG (e' := nD) rows.zipIdx (fun q => if n ∈ q.1 then some q.2 else none) (PairAt rowD) (fun _ => rfl) (by rw [List.length_zipIdx]; have := S.len.2.1; omega) g1 g2 g3 ?_ k
    rintro ⟨r, i⟩ x H1 N M _ sm ⟨T0, y, rfl, hT, dy⟩ hy hn
    obtain ⟨a, rfl, ha⟩ := row_dv dy
    refine ⟨_, _, rfl, SqT.of hT, rfl, ?_⟩
    walk_at "go"
    refine ⟨_, _, rfl, .inl (SqL.of ha), rfl, flat_ints r, ?_⟩
    rw [inV_nV]
    walk_at "go"
    refine ite2 (fun q1 => ?_) (fun q1 => ?_)
    · walk_at "go"
      exact hy _ (if_pos (by simpa using q1)) _ _ (Same.refl _) rfl
    · exact hn (if_neg (by simpa using q1)) _ (Same.refl _)
end
end K83
set_option maxRecDepth 100000
set_option maxHeartbeats 4000000
namespace K83
open PySem PySem.Spec PyProof.Rows L2
/-! ### the search: plain -/
structure Bfs (os : List Of3) (rows : List (List Nat)) (hour : Nat) (G : List (Nat × Option Nat)) (Wl : List (Nat × Nat)) : Prop where
  g0 : G[0]? = some (hour, none)
  gs : ∀ i h g, G[i + 1]? = some (h, g) → ∃ n j r, g = some n ∧ (n, j) ∈ Wl ∧ j < i + 1 ∧ rows[h]? = some r ∧ n ∈ r
  nd : (G.map (·.1)).Nodup
  hb : ∀ q ∈ G, q.1 < rows.length
  ws : ∀ n j, (n, j) ∈ Wl → ∃ h g r, G[j]? = some (h, g) ∧ rows[h]? = some r ∧ n ∈ untakenF os r h
  wnd : (Wl.map (·.1)).Nodup
/-- the hours ahead of place are dealt with -/
def Dealt (os : List Of3) (rows : List (List Nat)) (G : List (Nat × Option Nat)) (Wl : List (Nat × Nat)) (place : Nat) : Prop :=
  ∀ i h g r, i < place → G[i]? = some (h, g) → rows[h]? = some r → ∀ n ∈ untakenF os r h, n ∈ Wl.map (·.1)
/-- the givers among cl are full, and all their hours are met -/
def Closed (left : List Int) (rows : List (List Nat)) (G : List (Nat × Option Nat)) (cl : List Nat) : Prop :=
  ∀ n ∈ cl, left.getD n 0 ≤ 0 ∧ ∀ h r, rows[h]? = some r → n ∈ r → h ∈ G.map (·.1)
theorem mem_hoursF {rows : List (List Nat)} {n h : Nat} : h ∈ hoursF rows n ↔ ∃ r, rows[h]? = some r ∧ n ∈ r := by
  unfold hoursF
  rw [List.mem_filterMap]
  constructor
  · rintro ⟨⟨r, i⟩, h1, h2⟩
    by_cases hn : n ∈ r
    · rw [if_pos hn] at h2
      cases h2
      exact ⟨r, List.mem_zipIdx_iff_getElem?.mp h1, hn⟩
    · rw [if_neg hn] at h2
      cases h2
  · rintro ⟨r, h1, h2⟩
    exact ⟨(r, h), List.mem_zipIdx_iff_getElem?.mpr h1, if_pos h2⟩
theorem nodup_zip {α β : Type} (l : List α) (f : α × Nat → Option β) (g : β → Nat) (hg : ∀ q b, f q = some b → g b = q.2) : (l.zipIdx.filterMap f).Nodup := by
  have h : ∀ (l : List α) (k : Nat), ((l.zipIdx k).filterMap f).Nodup ∧ ∀ b ∈ (l.zipIdx k).filterMap f, k ≤ g b := fun l => by
    induction l with
    | nil => intro k; simp
    | cons a l ih =>
      intro k
      obtain ⟨h1, h2⟩ := ih (k + 1)
      rw [List.zipIdx_cons, List.filterMap_cons]
      cases e : f (a, k) with
      | none => exact ⟨h1, fun b hb => Nat.le_of_succ_le (h2 b hb)⟩
      | some b =>
        have eb := hg _ _ e
        refine ⟨List.nodup_cons.mpr ⟨fun hm => ?_, h1⟩, fun c hc => ?_⟩
        · have := h2 b hm
          show False
          have : k + 1 ≤ k := by rw [eb] at this; exact this
          omega
        · rcases List.mem_cons.mp hc with z | z
          · rw [z, eb]; exact Nat.le_refl _
          · exact Nat.le_of_succ_le (h2 c z)
  exact (h l 0).1
theorem hoursF_nodup (rows : List (List Nat)) (n : Nat) : (hoursF rows n).Nodup := nodup_zip rows _ id fun q b h => by
  by_cases hn : n ∈ q.1
  · rw [if_pos hn] at h; cases h; rfl
  · rw [if_neg hn] at h; cases h
theorem untakenF_nodup (os : List Of3) (r : List Nat) (h : Nat) : (untakenF os r h).Nodup := by
  unfold untakenF
  exact (nodup_zip os _ id fun q b e => by
    by_cases hn : q.1.b ≤ h ∧ h < q.1.e
    · rw [if_pos hn] at e; cases e; rfl
    · rw [if_neg hn] at e; cases e).filter _
theorem mem_untaken {os : List Of3} {r : List Nat} {h n : Nat} : n ∈ untakenF os r h ↔ (∃ o, os[n]? = some o ∧ o.b ≤ h ∧ h < o.e) ∧ n ∉ r := by
  unfold untakenF
  rw [List.mem_filter, List.mem_filterMap]
  constructor
  · rintro ⟨⟨⟨o, i⟩, h1, h2⟩, h3⟩
    by_cases hn : o.b ≤ h ∧ h < o.e
    · rw [if_pos hn] at h2
      cases h2
      exact ⟨⟨o, List.mem_zipIdx_iff_getElem?.mp h1, hn⟩, by simpa using h3⟩
    · rw [if_neg hn] at h2
      cases h2
  · rintro ⟨⟨o, h1, h2⟩, h3⟩
    exact ⟨⟨(o, n), List.mem_zipIdx_iff_getElem?.mpr h1, if_pos h2⟩, by simpa using h3⟩
def freshF (os : List Of3) (r : List Nat) (h : Nat) (Wl : List (Nat × Nat)) : List Nat := (untakenF os r h).filter fun n => decide (n ∉ Wl.map (·.1))
def othersF (rows : List (List Nat)) (n : Nat) (G : List (Nat × Option Nat)) : List Nat := (hoursF rows n).filter fun h => decide (h ∉ G.map (·.1))
section
variable {os : List Of3} {rows : List (List Nat)} {hour : Nat} {G : List (Nat × Option Nat)} {Wl : List (Nat × Nat)}
theorem Bfs.start (h : hour < rows.length) : Bfs os rows hour [(hour, none)] [] where
  g0 := rfl
  gs := fun i h g z => by simp at z
  nd := by simp
  hb := fun q hq => by rw [List.mem_singleton.mp hq]; exact h
  ws := fun n j z => nomatch z
  wnd := List.nodup_nil
theorem Bfs.fresh (B : Bfs os rows hour G Wl) {place h : Nat} {g : Option Nat} {r : List Nat} (hG : G[place]? = some (h, g)) (hr : rows[h]? = some r) : Bfs os rows hour G (Wl ++ (freshF os r h Wl).map fun n => (n, place)) where
  g0 := B.g0
  gs := fun i h g z => by
    obtain ⟨n, j, r, h1, h2, h3⟩ := B.gs i h g z
    exact ⟨n, j, r, h1, List.mem_append_left _ h2, h3⟩
  nd := B.nd
  hb := B.hb
  ws := fun n j z => by
    rcases List.mem_append.mp z with z | z
    · exact B.ws n j z
    · obtain ⟨m, hm, e⟩ := List.mem_map.mp z
      cases e
      exact ⟨h, g, r, hG, hr, (List.mem_filter.mp hm).1⟩
  wnd := by
    rw [List.map_append, List.map_map, List.nodup_append]
    have e : (freshF os r h Wl).map ((fun q : Nat × Nat => q.1) ∘ fun n => (n, place)) = freshF os r h Wl := by
      show (freshF os r h Wl).map (fun n => n) = _
      exact List.map_id' _
    rw [e]
    refine ⟨B.wnd, (untakenF_nodup os r h).filter _, fun a ha b hb => ?_⟩
    rintro rfl
    have := (List.mem_filter.mp hb).2
    exact absurd ha (by simpa using this)
theorem Bfs.more (B : Bfs os rows hour G Wl) {n place : Nat} (hn : (n, place) ∈ Wl) (hp : place < G.length) : Bfs os rows hour (G ++ (othersF rows n G).map fun h => (h, some n)) Wl where
  g0 := by
    have : 0 < G.length := by omega
    rw [List.getElem?_append_left this]
    exact B.g0
  gs := fun i h g z => by
    by_cases hi : i + 1 < G.length
    · rw [List.getElem?_append_left hi] at z
      exact B.gs i h g z
    · rw [List.getElem?_append_right (by omega)] at z
      rw [List.getElem?_map] at z
      cases e : (othersF rows n G)[i + 1 - G.length]? with
      | none => rw [e] at z; cases z
      | some h' =>
        rw [e] at z
        cases z
        obtain ⟨r, h1, h2⟩ := mem_hoursF.mp (List.mem_filter.mp (List.mem_of_getElem? e)).1
        exact ⟨n, place, r, rfl, hn, by omega, h1, h2⟩
  nd := by
    rw [List.map_append, List.map_map, List.nodup_append]
    have e : (othersF rows n G).map ((fun q : Nat × Option Nat => q.1) ∘ fun h => (h, some n)) = othersF rows n G := by
      show (othersF rows n G).map (fun h => h) = _
      exact List.map_id' _
    rw [e]
    refine ⟨B.nd, (hoursF_nodup rows n).filter _, fun a ha b hb => ?_⟩
    rintro rfl
    have := (List.mem_filter.mp hb).2
    exact absurd ha (by simpa using this)
  hb := fun q hq => by
    rcases List.mem_append.mp hq with z | z
    · exact B.hb q z
    · obtain ⟨h, hh, rfl⟩ := List.mem_map.mp z
      obtain ⟨r, h1, _⟩ := mem_hoursF.mp (List.mem_filter.mp hh).1
      exact (List.getElem?_eq_some_iff.mp h1).1
  ws := fun m j z => by
    obtain ⟨h, g, r, h1, h2⟩ := B.ws m j z
    exact ⟨h, g, r, by rw [List.getElem?_append_left (List.getElem?_eq_some_iff.mp h1).1]; exact h1, h2⟩
  wnd := B.wnd
theorem Dealt.fresh (Dl : Dealt os rows G Wl place) {h : Nat} {g : Option Nat} {r : List Nat} (hG : G[place]? = some (h, g)) (hr : rows[h]? = some r) : Dealt os rows G (Wl ++ (freshF os r h Wl).map fun n => (n, place)) (place + 1) := fun i h' g' r' hi h1 h2 n hn => by
  rw [List.map_append, List.mem_append]
  rcases Nat.lt_succ_iff_lt_or_eq.mp hi with q | q
  · exact .inl (Dl i h' g' r' q h1 h2 n hn)
  · subst q
    rw [hG] at h1
    cases h1
    rw [hr] at h2
    cases h2
    by_cases hm : n ∈ Wl.map (·.1)
    · exact .inl hm
    · refine .inr (List.mem_map.mpr ⟨(n, i), List.mem_map.mpr ⟨n, List.mem_filter.mpr ⟨hn, by simpa using hm⟩, rfl⟩, rfl⟩)
theorem Dealt.more (Dl : Dealt os rows G Wl place) (hp : place ≤ G.length) (more : List (Nat × Option Nat)) : Dealt os rows (G ++ more) Wl place := fun i h g r hi h1 h2 n hn => by
  rw [List.getElem?_append_left (by omega)] at h1
  exact Dl i h g r hi h1 h2 n hn
theorem Closed.more {left : List Int} {cl : List Nat} (c : Closed left rows G cl) (more : List (Nat × Option Nat)) : Closed left rows (G ++ more) cl := fun n hn => by
  obtain ⟨h1, h2⟩ := c n hn
  refine ⟨h1, fun h r hr hm => ?_⟩
  rw [List.map_append]
  exact List.mem_append_left _ (h2 h r hr hm)
theorem Closed.add {left : List Int} {cl : List Nat} {n : Nat} (c : Closed left rows G cl) (hl : left.getD n 0 ≤ 0) : Closed left rows (G ++ (othersF rows n G).map fun h => (h, some n)) (cl ++ [n]) := fun m hm => by
  rcases List.mem_append.mp hm with z | z
  · exact c.more _ m z
  · rw [List.mem_singleton.mp z]
    refine ⟨hl, fun h r hr hmr => ?_⟩
    rw [List.map_append, List.mem_append]
    by_cases hg : h ∈ G.map (·.1)
    · exact .inl hg
    · exact .inr (List.mem_map.mpr ⟨(h, some n), List.mem_map.mpr ⟨h, List.mem_filter.mpr ⟨mem_hoursF.mpr ⟨r, hr, hmr⟩, by simpa using hg⟩, rfl⟩, rfl⟩)
theorem Bfs.small (B : Bfs os rows hour G Wl) : G.length ≤ rows.length := by
  have := nodup_len (G.map (·.1)) (List.range rows.length) B.nd fun x hx => by
    obtain ⟨q, hq, rfl⟩ := List.mem_map.mp hx
    exact List.mem_range.mpr (B.hb q hq)
  rw [List.length_map, List.length_range] at this
  exact this
theorem Bfs.wsmall (B : Bfs os rows hour G Wl) : Wl.length ≤ os.length := by
  have := nodup_len (Wl.map (·.1)) (List.range os.length) B.wnd fun x hx => by
    obtain ⟨q, hq, rfl⟩ := List.mem_map.mp hx
    obtain ⟨h, g, r, _, _, h3⟩ := B.ws q.1 q.2 hq
    obtain ⟨⟨o, ho, _⟩, _⟩ := mem_untaken.mp h3
    exact List.mem_range.mpr (List.getElem?_eq_some_iff.mp ho).1
  rw [List.length_map, List.length_range] at this
  exact this
end
/-! ### dicts that only grow -/
theorem valV_none_of {κ : Type} [DecidableEq κ] {kvs : List (κ × V)} {k : κ} (h : k ∉ kvs.map (·.1)) : valV kvs k = none := by
  induction kvs with
  | nil => rfl
  | cons p r ih =>
    rw [List.map_cons, List.mem_cons] at h
    rw [valV_neg (fun z => h (.inl z.symm))]
    exact ih fun z => h (.inr z)
theorem valV_isSome {κ : Type} [DecidableEq κ] {kvs : List (κ × V)} {k : κ} : (valV kvs k).isSome = decide (k ∈ kvs.map (·.1)) := by
  induction kvs with
  | nil => simp [valV_nil]
  | cons p r ih =>
    by_cases e : p.1 = k
    · rw [valV_pos e, List.map_cons]
      simp [e]
    · rw [valV_neg e, ih, List.map_cons]
      by_cases h : k ∈ r.map (·.1)
      · simp [h]
      · simp [h, Ne.symm e]
theorem valV_some_iff {κ : Type} [DecidableEq κ] {kvs : List (κ × V)} {k : κ} : (valV kvs k).isSome = true ↔ k ∈ kvs.map (·.1) := by
  rw [valV_isSome, decide_eq_true_iff]
theorem mergeK_new : ∀ (new kvs : List (Key × V)), (new.map (·.1)).Nodup → (∀ k ∈ new.map (·.1), k ∉ kvs.map (·.1)) → mergeK kvs new = kvs ++ new
  | [], kvs, _, _ => by rw [List.append_nil]; rfl
  | p :: new, kvs, hn, hd => by
    rw [List.map_cons, List.nodup_cons] at hn
    show mergeK (putK kvs p.1 p.2) new = _
    rw [putK_new p.2 (valV_none_of (hd p.1 List.mem_cons_self)), mergeK_new new _ hn.2 fun k hk z => ?_, List.append_assoc]
    · rfl
    · rw [List.map_append, List.mem_append] at z
      rcases z with z | z
      · exact hd k (List.mem_cons_of_mem _ hk) z
      · have : k = p.1 := by simpa using z
        exact hn.1 (this ▸ hk)
end K83
set_option maxRecDepth 100000
set_option maxHeartbeats 4000000
namespace K83
open PySem PySem.Spec PyProof.Rows L2
local macro_rules | `(tactic| walk_at "nz") => `(tactic| dsimp -proj only [L2.start, wipe, List.map_cons, List.map_nil, List.set, List.length, List.replicate, List.cons_append, List.nil_append, Nat.reduceSub, Nat.reduceAdd])
local macro_rules | `(tactic| walk_at "gg") => `(tactic| repeat (first | refine ⟨rfl, ?_⟩ | refine ⟨_, rfl, ?_⟩ | refine ⟨_, _, rfl, ?_⟩ | refine ⟨_, _, rfl, rfl, ?_⟩))
local macro_rules | `(tactic| walk_at "go") => `(tactic| ((try walk_at "nz"); walk_at "gg"; (try walk_at "nz")))
def nK (n : Nat) : Key := Sum.inl (n : Int)
theorem nK_inj {n m : Nat} (h : nK n = nK m) : n = m := by
  have := Sum.inl.inj h
  omega
def oD : Option Nat → PyData
  | none => .none
  | some n => nD n
theorem noD (o : Option Nat) : noList (oD o) = true := by cases o <;> rfl
theorem dv_o {H : Hp} {o : Option Nat} {v : V} (h : Dv H (oD o) v) : v = vN o := by cases o <;> exact h
theorem o_dv {H : Hp} (o : Option Nat) : Dv H (oD o) (vN o) := by cases o <;> exact rfl
def WaysAt (H : Hp) (G : List (Nat × Option Nat)) (Wl : List (Nat × Nat)) (kvs : List (Key × V)) : Prop :=
  Paired (fun (q : Nat × Nat) (kv : Key × V) => kv.1 = nK q.1 ∧ ∃ T h g, G[q.2]? = some (h, g) ∧ kv.2 = .ref T ∧ H T = some (.tup [nV h, vN g])) Wl kvs
def GivAt (H : Hp) (G : List (Nat × Option Nat)) (gs : List V) : Prop := Paired (fun (q : Nat × Option Nat) (v : V) => ∃ T, v = .ref T ∧ H T = some (.tup [nV q.1, vN q.2])) G gs
section
variable {H H' : Hp} {G : List (Nat × Option Nat)} {Wl : List (Nat × Nat)} {kvs : List (Key × V)} {gs : List V}
theorem WaysAt.same (s : Same H H') (w : WaysAt H G Wl kvs) : WaysAt H' G Wl kvs := by
  unfold WaysAt at w ⊢
  induction w with
  | nil => exact .nil
  | cons h _ ih => obtain ⟨h1, T, a, b, h2, h3, h4⟩ := h; exact .cons ⟨h1, T, a, b, h2, h3, s _ _ h4⟩ ih
theorem WaysAt.upd {a : Addr} {o : HO} (ht : ∀ xs, H a ≠ some (.tup xs)) (w : WaysAt H G Wl kvs) : WaysAt (upd H a o) G Wl kvs := by
  unfold WaysAt at w ⊢
  induction w with
  | nil => exact .nil
  | cons h _ ih => obtain ⟨h1, T, x, b, h2, h3, h4⟩ := h; exact .cons ⟨h1, T, x, b, h2, h3, by rw [upd_ne (fun z : T = a => ht _ (z ▸ h4))]; exact h4⟩ ih
theorem WaysAt.more (w : WaysAt H G Wl kvs) (more : List (Nat × Option Nat)) : WaysAt H (G ++ more) Wl kvs := by
  unfold WaysAt at w ⊢
  induction w with
  | nil => exact .nil
  | cons h _ ih => obtain ⟨h1, T, x, b, h2, h3, h4⟩ := h; exact .cons ⟨h1, T, x, b, by rw [List.getElem?_append_left (List.getElem?_eq_some_iff.mp h2).1]; exact h2, h3, h4⟩ ih
theorem WaysAt.keys (w : WaysAt H G Wl kvs) : kvs.map (·.1) = Wl.map fun q => nK q.1 := by
  unfold WaysAt at w
  induction w with
  | nil => rfl
  | cons h _ ih => rw [List.map_cons, List.map_cons, ih, h.1]
theorem GivAt.same (s : Same H H') (w : GivAt H G gs) : GivAt H' G gs := by
  unfold GivAt at w ⊢
  induction w with
  | nil => exact .nil
  | cons h _ ih => obtain ⟨T, h1, h2⟩ := h; exact .cons ⟨T, h1, s _ _ h2⟩ ih
theorem GivAt.upd {a : Addr} {o : HO} (ht : ∀ xs, H a ≠ some (.tup xs)) (w : GivAt H G gs) : GivAt (upd H a o) G gs := by
  unfold GivAt at w ⊢
  induction w with
  | nil => exact .nil
  | cons h _ ih => obtain ⟨T, h1, h2⟩ := h; exact .cons ⟨T, h1, by rw [upd_ne (fun z : T = a => ht _ (z ▸ h2))]; exact h2⟩ ih
/-- new ways -/
theorem ways_new {K : PySem.W.Frag} {h : Nat} {g : Option Nat} {j : Nat} (hG : G[j]? = some (h, g)) : ∀ {ns : List Nat} {xs : List V}, DvAll H (ns.map fun n => .tuple [nD n, .tuple [nD h, oD g]]) xs →
    ∃ (ps : List Addr) (new : List (Key × V)), xs = ps.map V.ref ∧ Paired (fun p kv => SqT K H p [kV kv.1, kv.2]) ps new ∧ WaysAt H G (ns.map fun n => (n, j)) new
  | [], _, hd => by cases hd; exact ⟨[], [], rfl, .nil, .nil⟩
  | n :: ns, _, hd => by
    obtain ⟨x, r, rfl, ⟨a, zs, rfl, ha, y1, r1, rfl, e1, y2, r2, rfl, ⟨T, us, rfl, hT, y3, r3, rfl, e3, y4, r4, rfl, e4, e5⟩, e6⟩, hr⟩ := hd
    cases e1; cases e3; cases e5; cases e6
    rw [dv_o e4] at hT
    obtain ⟨ps, new, rfl, h1, h2⟩ := ways_new (K := K) hG hr
    exact ⟨a :: ps, (nK n, .ref T) :: new, rfl, .cons (SqT.of ha) h1, .cons ⟨rfl, T, h, g, hG, rfl, hT⟩ h2⟩
/-- new pairs -/
theorem pairs_new {K : PySem.W.Frag} {d : PyData} {z : V} (hd1 : ∀ v, Dv H d v → v = z) : ∀ {ns : List Nat} {xs : List V}, DvAll H (ns.map fun n => .tuple [nD n, d]) xs →
    ∃ (ps : List Addr) (new : List (Key × V)), xs = ps.map V.ref ∧ Paired (fun p kv => SqT K H p [kV kv.1, kv.2]) ps new ∧ new.map (·.1) = ns.map nK ∧ Paired (fun (n : Nat) (v : V) => ∃ T, v = .ref T ∧ H T = some (.tup [nV n, z])) ns xs
  | [], _, hd => by cases hd; exact ⟨[], [], rfl, .nil, rfl, .nil⟩
  | n :: ns, _, hd => by
    obtain ⟨x, r, rfl, ⟨a, zs, rfl, ha, y1, r1, rfl, e1, y2, r2, rfl, e2, e6⟩, hr⟩ := hd
    cases e1; cases e6
    rw [hd1 _ e2] at ha
    obtain ⟨ps, new, rfl, h1, h2, h3⟩ := pairs_new (K := K) hd1 hr
    exact ⟨a :: ps, (nK n, z) :: new, rfl, .cons (SqT.of ha) h1, by rw [List.map_cons, h2]; rfl, .cons ⟨a, rfl, ha⟩ h3⟩
end
theorem pair_rel {α β : Type} {R : α → β → Prop} : ∀ {as : List α} {bs : List β} {i : Nat} {a : α} {b : β}, Paired R as bs → as[i]? = some a → bs[i]? = some b → R a b
  | _, _, _, _, _, .nil, h, _ => by simp at h
  | _, _, 0, _, _, .cons h _, e, e' => by cases e; cases e'; exact h
  | _, _, i + 1, _, _, .cons _ t, e, e' => pair_rel (i := i) t (by simpa using e) (by simpa using e')
theorem giv_map {H : Hp} {n : Nat} : ∀ {ns : List Nat} {xs : List V}, Paired (fun (m : Nat) (v : V) => ∃ T, v = .ref T ∧ H T = some (.tup [nV m, nV n])) ns xs → GivAt H (ns.map fun o => (o, some n)) xs
  | _, _, .nil => .nil
  | _, _, .cons h t => .cons h (giv_map t)
theorem nK_mem {n : Nat} {l : List Nat} : nK n ∈ l.map nK ↔ n ∈ l := by
  rw [List.mem_map]
  exact ⟨fun ⟨m, hm, e⟩ => nK_inj e ▸ hm, fun h => ⟨n, h, rfl⟩⟩
theorem valV_nK {kvs : List (Key × V)} {l : List Nat} {n : Nat} (h : kvs.map (·.1) = l.map nK) : (valV kvs (nK n)).isSome = decide (n ∈ l) := by
  rw [Bool.eq_iff_iff, valV_some_iff, h, decide_eq_true_iff]
  exact nK_mem
theorem nK_nodup {l : List Nat} (h : l.Nodup) : (l.map nK).Nodup := by
  unfold List.Nodup at h ⊢
  rw [List.pairwise_map]
  exact h.imp fun hne e => hne (nK_inj e)
/-- the heap in the search -/
structure WSt (Hs H : Hp) (dw lg dm : Addr) (G : List (Nat × Option Nat)) (Wl : List (Nat × Nat)) (kvs ms : List (Key × V)) (gs : List V) (M : List Nat) : Prop where
  same : Same Hs H
  fw : Hs dw = none
  fg : Hs lg = none
  fm : Hs dm = none
  ne : dw ≠ dm
  hw : H dw = some (.dK kvs)
  hg : H lg = some (.lst gs)
  hm : H dm = some (.dK ms)
  ways : WaysAt H G Wl kvs
  giv : GivAt H G gs
  met : ms.map (·.1) = M.map nK
section
variable {Hs H H' : Hp} {dw lg dm : Addr} {G Gn : List (Nat × Option Nat)} {Wl Wn : List (Nat × Nat)} {kvs ms new : List (Key × V)} {gs gn : List V} {M Mn : List Nat}
theorem WSt.go (s : WSt Hs H dw lg dm G Wl kvs ms gs M) (e : Same H H') : WSt Hs H' dw lg dm G Wl kvs ms gs M :=
  ⟨s.same.trans e, s.fw, s.fg, s.fm, s.ne, e _ _ s.hw, e _ _ s.hg, e _ _ s.hm, s.ways.same e, s.giv.same e, s.met⟩
theorem WSt.setW (s : WSt Hs H dw lg dm G Wl kvs ms gs M) (hn : WaysAt H G Wn new) : WSt Hs (upd H dw (.dK (kvs ++ new))) dw lg dm G (Wl ++ Wn) (kvs ++ new) ms gs M :=
  have nt : ∀ xs, H dw ≠ some (.tup xs) := fun xs z => by rw [s.hw] at z; cases z
  ⟨Same.mut s.same s.fw, s.fw, s.fg, s.fm, s.ne, upd_same, by rw [upd_ne (ne_of s.hg s.hw (by intro z; cases z))]; exact s.hg, by rw [upd_ne s.ne.symm]; exact s.hm, paired_app (s.ways.upd nt) (hn.upd nt), s.giv.upd nt, s.met⟩
theorem WSt.setM (s : WSt Hs H dw lg dm G Wl kvs ms gs M) (hm : new.map (·.1) = Mn.map nK) : WSt Hs (upd H dm (.dK (ms ++ new))) dw lg dm G Wl kvs (ms ++ new) gs (M ++ Mn) :=
  have nt : ∀ xs, H dm ≠ some (.tup xs) := fun xs z => by rw [s.hm] at z; cases z
  ⟨Same.mut s.same s.fm, s.fw, s.fg, s.fm, s.ne, by rw [upd_ne s.ne]; exact s.hw, by rw [upd_ne (ne_of s.hg s.hm (by intro z; cases z))]; exact s.hg, upd_same, s.ways.upd nt, s.giv.upd nt, by rw [List.map_append, List.map_append, s.met, hm]⟩
theorem WSt.setG (s : WSt Hs H dw lg dm G Wl kvs ms gs M) (hg : GivAt H Gn gn) : WSt Hs (upd H lg (.lst (gs ++ gn))) dw lg dm (G ++ Gn) Wl kvs ms (gs ++ gn) M :=
  have nt : ∀ xs, H lg ≠ some (.tup xs) := fun xs z => by rw [s.hg] at z; cases z
  ⟨Same.mut s.same s.fg, s.fw, s.fg, s.fm, s.ne, by rw [upd_ne (ne_of s.hw s.hg (by intro z; cases z))]; exact s.hw, upd_same, by rw [upd_ne (ne_of s.hm s.hg (by intro z; cases z))]; exact s.hm, (s.ways.upd nt).more Gn, paired_app (s.giv.upd nt) (hg.upd nt), s.met⟩
end
theorem joinV {H : Hp} {G : V → Hp → Prop} {X : Prop} (R : V → Prop) (use : (∀ bv H6, Same H H6 → R bv → G bv H6) → X) (prf : ∀ bv H6, Same H H6 → R bv → G bv H6) : X := use prf
theorem joinR {H : Hp} {G : Hp → Prop} {X : Prop} (R : Prop) (use : (∀ H6, Same H H6 → R → G H6) → X) (prf : ∀ H6, Same H H6 → R → G H6) : X := use prf
def spWay (C : Addr) : Sp := fun vs H Q _ => ∃ p dx lo ll lh as xs os left rows, ∃ (h : Nat), vs = [.ref p, nV h] ∧ SrvAt C H p dx lo ll lh as xs os left rows ∧ left.length = os.length ∧ h < rows.length ∧
  ∀ a dw kvs o G Wl H', Same H H' → H' a = some (.tup [.ref dw, vN o]) → H dw = none → H' dw = some (.dK kvs) → WaysAt H' G Wl kvs → Bfs os rows h G Wl →
    (match o with | some b => (∃ j, (b, j) ∈ Wl) ∧ 0 < left.getD b 0 | none => Dealt os rows G Wl G.length ∧ Closed left rows G (Wl.map (·.1))) → Q (.ref a) H'
section
variable {P : Program} {w : World} {K : PySem.W.Frag} {mg : Str → Option Value} {base : Heap} {A : Nat → Addr} {D : Nat → FuncData} {C : Addr} {tk : Tok}
theorem sc_Serving_way_from : FnScope ["self", "hour", "ways", "givers", "met", "place", "at", "given", "number", "fresh", "best", "others", "other"] ["self", "hour"] (defScope (inClass (topS 1) 4)) := ⟨rfl, rfl, rfl, by decide +kernel, rfl, by decide +kernel, by decide +kernel⟩
theorem ok_way_from (T : Tx K mg A D C tk) : FnOk P w K mg base CX0 3 (A 104) (D 104) ["self", "hour"] (spWay C) := by
  have G_untaken_at : FnOk P w K mg base CX0 1 (A 102) (D 102) _ _ := ok_untaken_at T
  have G_hours_of : FnOk P w K mg base CX0 1 (A 103) (D 103) _ _ := ok_hours_of T
  have G_gathers_left : FnOk P w K mg base CX0 1 (A 101) (D 101) _ _ := ok_gathers_left T
  refine T.f_way_from.ok sc_Serving_way_from (fun vs H Q E h => ?_) (fun cdv A0 outer s H vs Q E hr h => ?_)
  · obtain ⟨p, dx, lo, ll, lh, as, xs, os, left, rows, h, rfl, _⟩ := h
    rfl
  · obtain ⟨p, dx, lo, ll, lh, as, xs, os, left, rows, h, rfl, S, hll, hh, k⟩ := h
    refine ⟨_, (pss_cons (ps_set (i := 2) sc_Serving_way_from.nd rfl (Or.inr rfl) pe_dnewK)
 (pss_cons (ps_set (i := 3) sc_Serving_way_from.nd rfl (Or.inl rfl) (pe_lst (pa_cons (pe_tup (pa_cons (pv 1) (pa_cons pe_non pa_nil))) pa_nil)))
 (pss_cons (ps_set (i := 4) sc_Serving_way_from.nd rfl (Or.inr rfl) (pe_disp (pps_cons (pv 1) pe_bl pps_nil) (by rfl) (by rfl) (fun z => by cases z) (by decide)))
 (pss_cons (ps_set (i := 5) sc_Serving_way_from.nd rfl (Or.inl rfl) pe_int)
 (pss_cons (ps_while PassesOwn.never (pt_cmpR op_lt (pv 5) (pe_callB (lenS K) (by rfl) T.len (by decide +kernel) (pa_cons (pv 3) pa_nil)) (nomark _)) (pss_cons (ps_asg (pe_ix (ixL K) (pv 3) (pv 5) (fun _ _ => rfl)) (pgT K 2 rfl (pgs_cons (pg_name (i := 6) sc_Serving_way_from.nd rfl (Or.inr rfl)) (pgs_cons (pg_name (i := 7) sc_Serving_way_from.nd rfl (Or.inr rfl)) pgs_nil))))
 (pss_cons (ps_aug (i := 5) sc_Serving_way_from.nd rfl (Or.inl rfl) pe_int ip_add)
 (pss_cons (ps_setLc (i := 9) (own := [("number", 8)]) rfl sc_Serving_way_from.nd rfl rfl (sw_true rfl rfl rfl (by decide +kernel)) (piL K (pe_meth (pv 0) T.cl T.m_untaken_at G_untaken_at (hr.mono (by decide)) T.b_untaken_at .nil pass0 (pa_cons (pv 6) pa_nil))) (blkOk_by (N := ["self", "hour", "ways", "givers", "met", "place", "at", "given", "number", "fresh", "best", "others", "other"]) (sc := defScope (inClass (topS 1) 4)) (by decide +kernel)) (fun _ _ _ _ _ => (pg_name (i := 8) sc_Serving_way_from.nd rfl (Or.inl rfl))) (fun _ _ _ _ _ => (pts_one (pt_cmp (pc_dnotin (hu_of hr) (pv 8) (pv 2))))) (fun _ _ _ _ _ => (pv 8)))
 (pss_cons (ps_expr (pe_bm PySem.F.plainAttrs_dict PySem.F.slot_dict_update PySem.F.type_dict_update (mt_update rfl) (pv 2) (pa_cons (pe_lc (own := [("number", 8)]) rfl sc_Serving_way_from.nd (piL K (pv 9)) (blkOk_by (N := ["self", "hour", "ways", "givers", "met", "place", "at", "given", "number", "fresh", "best", "others", "other"]) (sc := defScope (inClass (topS 1) 4)) (by decide +kernel)) (fun _ _ _ _ _ => (pg_name (i := 8) sc_Serving_way_from.nd rfl (Or.inl rfl))) (fun _ _ _ _ _ => pts_nil) (fun _ _ _ _ _ => (pe_tup (pa_cons (pv 8) (pa_cons (pe_tup (pa_cons (pv 6) (pa_cons (pv 7) pa_nil))) pa_nil))))) pa_nil)))
 (pss_cons (ps_set (i := 10) sc_Serving_way_from.nd rfl (Or.inl rfl) (pe_callBK (cr_maxK G_gathers_left (hr.mono (by decide)) T.b_gathers_left) (by rfl) T.max (by decide +kernel) (pa_cons (pv 9) pa_nil) (pk_cons (pe_bound (pv 0) T.cl T.bm_gathers_left rfl) (pk_cons pe_non pk_nil))))
 (pss_cons (ps_if (PW.pt (pw_and (pt_cmpR op_notN (pv 10) pe_non (nomark _)) (pw_and1 (pt_cmpR op_gt (pe_ix (ixL K) (pe_fld (pv 0) rfl) (pv 10) (fun _ _ => rfl)) pe_int (nomark _))))) (pss_one (ps_ret (pe_tup (pa_cons (pv 2) (pa_cons (pv 10) pa_nil))))) pss_nil)
 (pss_one (ps_for PassesOwn.never rfl (piL K (pv 9)) (pg_name (i := 8) sc_Serving_way_from.nd rfl (Or.inr rfl)) (pss_cons (ps_setLc (i := 11) (own := [("other", 12)]) rfl sc_Serving_way_from.nd rfl rfl (sw_true rfl rfl rfl (by decide +kernel)) (piL K (pe_meth (pv 0) T.cl T.m_hours_of G_hours_of (hr.mono (by decide)) T.b_hours_of .nil pass0 (pa_cons (pv 8) pa_nil))) (blkOk_by (N := ["self", "hour", "ways", "givers", "met", "place", "at", "given", "number", "fresh", "best", "others", "other"]) (sc := defScope (inClass (topS 1) 4)) (by decide +kernel)) (fun _ _ _ _ _ => (pg_name (i := 12) sc_Serving_way_from.nd rfl (Or.inl rfl))) (fun _ _ _ _ _ => (pts_one (pt_cmp (pc_dnotin (hu_of hr) (pv 12) (pv 4))))) (fun _ _ _ _ _ => (pv 12)))
 (pss_cons (ps_expr (pe_bm PySem.F.plainAttrs_dict PySem.F.slot_dict_update PySem.F.type_dict_update (mt_update rfl) (pv 4) (pa_cons (pe_lc (own := [("other", 12)]) rfl sc_Serving_way_from.nd (piL K (pv 11)) (blkOk_by (N := ["self", "hour", "ways", "givers", "met", "place", "at", "given", "number", "fresh", "best", "others", "other"]) (sc := defScope (inClass (topS 1) 4)) (by decide +kernel)) (fun _ _ _ _ _ => (pg_name (i := 12) sc_Serving_way_from.nd rfl (Or.inl rfl))) (fun _ _ _ _ _ => pts_nil) (fun _ _ _ _ _ => (pe_tup (pa_cons (pv 12) (pa_cons pe_bl pa_nil))))) pa_nil)))
 (pss_one (ps_expr (pe_bm PySem.F.plainAttrs_list PySem.F.slot_list_extend PySem.F.type_list_extend mt_extend (pv 3) (pa_cons (pe_lc (own := [("other", 12)]) rfl sc_Serving_way_from.nd (piL K (pv 11)) (blkOk_by (N := ["self", "hour", "ways", "givers", "met", "place", "at", "given", "number", "fresh", "best", "others", "other"]) (sc := defScope (inClass (topS 1) 4)) (by decide +kernel)) (fun _ _ _ _ _ => (pg_name (i := 12) sc_Serving_way_from.nd rfl (Or.inl rfl))) (fun _ _ _ _ _ => pts_nil) (fun _ _ _ _ _ => (pe_tup (pa_cons (pv 12) (pa_cons (pv 8) pa_nil))))) pa_nil)))))))))))))))
 (pss_one (ps_ret (pe_tup (pa_cons (pv 2) (pa_cons pe_non pa_nil)))))))))), ?_⟩
    intro dw hdw
    walk_at "go"
    refine ⟨by show 2 ≤ sizeLine; decide, fun T0 hT0 => ?_⟩
    refine ⟨by show 1 ≤ sizeLine; decide, fun lg hlg => ?_⟩
    intro dm hdm
    walk_at "go"
    refine ⟨upd_same, [(nK h, .bl true)], rfl, (by show 1 ≤ 15; decide), ?_⟩
    rw [mergeK_new [(nK h, V.bl true)] [] (by simp) (by simp), List.nil_append]
    have n1 : T0 ≠ dw := fun z => by rw [z, upd_same] at hT0; cases hT0
    have n2 : lg ≠ T0 := fun z => by rw [z, upd_same] at hlg; cases hlg
    have n3 : lg ≠ dw := fun z => by rw [z, upd_ne n1.symm, upd_same] at hlg; cases hlg
    have n4 : dm ≠ lg := fun z => by rw [z, upd_same] at hdm; cases hdm
    have n5 : dm ≠ T0 := fun z => by rw [z, upd_ne n2.symm, upd_same] at hdm; cases hdm
    have n6 : dm ≠ dw := fun z => by rw [z, upd_ne n3.symm, upd_ne n1.symm, upd_same] at hdm; cases hdm
    rw [upd_ne n1] at hT0
    rw [upd_ne n2, upd_ne n3] at hlg
    rw [upd_ne n4, upd_ne n5, upd_ne n6] at hdm
    have W0 : WSt H (upd (upd (upd (upd (upd H dw (.dK [])) T0 (.tup [nV h, .non])) lg (.lst [.ref T0])) dm (.dK [])) dm (.dK [(nK h, .bl true)])) dw lg dm [(h, none)] [] [] [(nK h, .bl true)] [.ref T0] [h] :=
      ⟨Same.mut (Same.mut (Same.mut (Same.mut (Same.mut (Same.refl H) hdw) hT0) hlg) hdm) hdm, hdw, hlg, hdm, n6.symm,
        by rw [upd_ne n6.symm, upd_ne n6.symm, upd_ne n3.symm, upd_ne n1.symm, upd_same], by rw [upd_ne n4.symm, upd_ne n4.symm, upd_same], upd_same, .nil,
        .cons ⟨T0, rfl, by rw [upd_ne n5.symm, upd_ne n5.symm, upd_ne n2.symm, upd_same]; rfl⟩ .nil, rfl⟩
    generalize upd (upd (upd (upd (upd H dw (.dK [])) T0 (.tup [nV h, .non])) lg (.lst [.ref T0])) dm (.dK [])) dm (.dK [(nK h, .bl true)]) = Hw at W0 ⊢
    let Pv : L2.St → Hp → Prop := fun σ H1 => ∃ (place : Nat) (G : List (Nat × Option Nat)) (Wl : List (Nat × Nat)) (kvs ms : List (Key × V)) (gs : List V) (z1 z2 z3 z4 z5 z6 z7 : Option V),
      σ = [some (.ref p), some (nV h), some (.ref dw), some (.ref lg), some (.ref dm), some (nV place), z1, z2, z3, z4, z5, z6, z7] ∧ WSt H H1 dw lg dm G Wl kvs ms gs (G.map (·.1)) ∧ Bfs os rows h G Wl ∧ Dealt os rows G Wl place ∧ Closed left rows G (Wl.map (·.1)) ∧ place ≤ G.length
    refine while_by Pv (fun (σ : L2.St) (_ : Hp) => match σ[5]? with | some (some (V.int i)) => rows.length + 1 - i.toNat | _ => 0) ?_ ?_ ?_
    · exact ⟨0, [(h, none)], [], [], _, _, _, _, _, _, _, _, _, rfl, W0, Bfs.start hh, (fun i _ _ _ hi => absurd hi (Nat.not_lt_zero _)), (fun n z => nomatch z), Nat.zero_le _⟩
    · rintro σ H1 ⟨place, G, Wl, kvs, ms, gs, z1, z2, z3, z4, z5, z6, z7, rfl, W, B, Dl, Cl, hpl⟩
      have hgl : gs.length = G.length := W.giv.length.symm
      walk_at "go"
      refine ⟨_, _, rfl, .inl (SqL.of W.hg), ?_⟩
      walk_at "go"
      refine ite2 (fun q => ?_) (fun q => ?_)
      rotate_left
      · have q' : ¬ ((place : Int) < ((gs.length : Nat) : Int)) := by simpa using q
        have e1 : place = G.length := by omega
        walk_at "go"
        refine ⟨by show 2 ≤ sizeLine; decide, fun r hr' => ?_⟩
        have sr : Same H1 (upd H1 r (.tup [.ref dw, .non])) := Same.new hr'
        exact k r dw kvs none G Wl _ (W.same.trans sr) upd_same W.fw (sr _ _ W.hw) (W.ways.same sr) B ⟨e1 ▸ Dl, Cl⟩
      · have q' : (place : Int) < ((gs.length : Nat) : Int) := of_decide_eq_true q
        have hpG : place < G.length := by omega
        have hG : G[place]? = some G[place] := List.getElem?_eq_getElem hpG
        obtain ⟨v0, hv0, ⟨Tg, rfl, hTg⟩⟩ : ∃ v, gs[place]? = some v ∧ ∃ T, v = .ref T ∧ H1 T = some (.tup [nV G[place].1, vN G[place].2]) := by
          have hx : place < gs.length := by omega
          exact ⟨gs[place], List.getElem?_eq_getElem hx, pair_rel W.giv hG (List.getElem?_eq_getElem hx)⟩
        generalize G[place] = g0 at hG hTg
        obtain ⟨at_, gv⟩ := g0
        have hat : at_ < rows.length := B.hb _ (List.mem_of_getElem? hG)
        have hr0 : rows[at_]? = some rows[at_] := List.getElem?_eq_getElem hat
        generalize rows[at_] = r0 at hr0
        have S1 := S.same W.same
        walk_at "go"
        refine ⟨_, _, _, _, rfl, rfl, SqL.of W.hg, atI_nat hv0, ?_⟩
        refine ⟨_, _, rfl, SqT.of hTg, rfl, ?_⟩
        walk_at "go"
        refine ⟨p, dx, _, rfl, S1.ins, sv_un, ?_⟩
        refine ⟨_, rfl, ?_⟩
        refine ⟨p, dx, lo, ll, lh, as, xs, os, left, rows, at_, r0, rfl, S1, hr0, fun q1 us H2 hq1 s2 hus dus => ?_⟩
        have W2 := W.go s2
        have hkeys : kvs.map (·.1) = (Wl.map (·.1)).map nK := by rw [W.ways.keys, List.map_map]; rfl
        refine ⟨_, rfl, ⟨_, SqL.of hus⟩, ?_⟩
        obtain ⟨g1, g2, g3⟩ := src_l (K := K) (e := nD) hus dus
        have hul : (untakenF os r0 at_).length ≤ 100000 := by
          have := nodup_len (untakenF os r0 at_) (List.range os.length) (untakenF_nodup _ _ _) fun x hx => by
            obtain ⟨⟨o, ho, _⟩, _⟩ := mem_untaken.mp hx
            exact List.mem_range.mpr (List.getElem?_eq_some_iff.mp ho).1
          rw [List.length_range] at this
          have := S.len.1
          omega
        refine lcG (e' := nD) (untakenF os r0 at_) (fun n => if n ∉ Wl.map (·.1) then some n else none) (fun t x H => Dv H (nD t) x) (fun _ => rfl) hul g1 g2 g3 ?_ ?_
        · rintro n x H3 N M _ s3 dn hy hn
          cases dn
          walk_at "go"
          refine ⟨dw, _, rfl, DGet.k (k := nK n) ((W2.go s3).hw), _, rfl, ?_⟩
          rw [valV_nK hkeys]
          refine ite2 (fun q1 => ?_) (fun q1 => ?_)
          · walk_at "go"
            exact hy _ (if_pos (by simpa using q1)) _ _ (Same.refl _) rfl
          · exact hn (if_neg (by simpa using q1)) _ (Same.refl _)
        · rw [fm_filter]
          intro lf fs H3 hlf s3 hfs dfs
          replace dfs : DvAll H3 ((freshF os r0 at_ Wl).map nD) fs := dfs
          have W3 := W2.go s3
          walk_at "go"
          refine ⟨.inr (.inr (.inl ⟨rfl, .inl ⟨kvs, W3.hw⟩⟩)), ?_⟩
          refine ⟨_, rfl, _, rfl, ⟨_, SqL.of hfs⟩, ?_⟩
          obtain ⟨f1, f2, f3⟩ := src_l (K := K) (e := nD) hfs dfs
          have hfl : (freshF os r0 at_ Wl).length ≤ 100000 := Nat.le_trans (List.length_filter_le _ _) hul
          refine lcG (e' := fun n => .tuple [nD n, .tuple [nD at_, oD gv]]) (freshF os r0 at_ Wl) (fun n => some n) (fun t x H => Dv H (nD t) x) (fun n => by simp [noList, noListAll, noD, nD]) hfl f1 f2 f3 ?_ ?_
          · rintro n x H4 N M _ s4 dn hy hn
            cases dn
            walk_at "go"
            refine ⟨by show 2 ≤ sizeLine; decide, fun t1 ht1 => ?_⟩
            refine ⟨by show 2 ≤ sizeLine; decide, fun t2 ht2 => ?_⟩
            refine hy _ rfl _ _ (Same.new' (Same.new ht1) ht2) ⟨t2, _, rfl, upd_same, _, _, rfl, rfl, _, _, rfl, ⟨t1, _, rfl, (Same.new ht2) _ _ upd_same, _, _, rfl, rfl, _, _, rfl, o_dv gv, rfl⟩, rfl⟩
          · rw [fm_map]
            intro lu xu H4 hlu s4 hxu dxu
            rw [List.map_id'] at dxu
            obtain ⟨ps, new, rfl, hps, hnew⟩ := ways_new (K := K) hG dxu
            have W4 := W3.go s4
            have hnk : new.map (·.1) = (freshF os r0 at_ Wl).map nK := by rw [hnew.keys, List.map_map]; rfl
            have hnl : new.length = (freshF os r0 at_ Wl).length := by have := congrArg List.length hnk; simpa using this
            have hkl : kvs.length ≤ os.length := by have := congrArg List.length hkeys; have q2 := B.wsmall; simp at this; omega
            have hos := S.len.1
            refine ⟨dw, lu, ps, kvs, new, rfl, rfl, W4.hw, SqL.of hxu, hps, by rw [sizeLine_eq]; omega, ?_⟩
            rw [mergeK_new new kvs (by rw [hnk]; exact nK_nodup ((untakenF_nodup _ _ _).filter _)) (fun x hx z => by
              rw [hnk] at hx
              rw [hkeys] at z
              obtain ⟨n, hn, rfl⟩ := List.mem_map.mp hx
              have := (List.mem_filter.mp hn).2
              exact absurd (nK_mem.mp z) (by simpa using this))]
            have W5 := W4.setW hnew
            have B5 := B.fresh hG hr0
            have D5 := Dl.fresh hG hr0
            have S5 := S.same W5.same
            have nfw : lf ≠ dw := fun z => by rw [z, W2.hw] at hlf; cases hlf
            have nfg : lf ≠ lg := fun z => by rw [z, W2.hg] at hlf; cases hlf
            have nfm : lf ≠ dm := fun z => by rw [z, W2.hm] at hlf; cases hlf
            have hfs5 : upd H4 dw (.dK (kvs ++ new)) lf = some (.lst fs) := by rw [upd_ne nfw]; exact s4 _ _ hfs
            have dfs' : fs = (freshF os r0 at_ Wl).map nV := by
              have h2 : DvAll H3 (((freshF os r0 at_ Wl).map (fun n : Nat => (n : Int))).map PyData.int) fs := by rw [List.map_map]; exact dfs
              have := DvAll.ints' h2
              rw [List.map_map] at this
              exact this
            have hleft : ∀ n ∈ freshF os r0 at_ Wl, ∃ g, left[n]? = some g := fun n hn => by
              obtain ⟨⟨o, ho, _⟩, _⟩ := mem_untaken.mp (List.mem_filter.mp hn).1
              have : n < left.length := by rw [hll]; exact (List.getElem?_eq_some_iff.mp ho).1
              exact ⟨_, List.getElem?_eq_getElem this⟩
            generalize upd H4 dw (.dK (kvs ++ new)) = H5 at W5 S5 hfs5 ⊢
            generalize hfr : freshF os r0 at_ Wl = fr at *
            subst dfs'
            refine ⟨_, rfl, _, rfl, p, dx, _, rfl, S5.ins, sv_gl, fun qm hqm => ?_⟩
            have smet : Same H5 (upd H5 qm (.met (A 101) p)) := Same.new hqm
            refine' joinV (H := H5) (R := fun bv => (bv = .non ∧ fr = []) ∨ ∃ b, bv = nV b ∧ b ∈ fr ∧ ∀ n ∈ fr, left.getD n 0 ≤ left.getD b 0) (fun fin => ?_) ?_
            rotate_left
            · refine ⟨lf, qm, p, _, fun i => left.getD (fr.getD i 0) 0, rfl, rfl, upd_same, SqL.of (smet _ _ hfs5), fun i x H' hx sx Q' hQ' => ?_, fun i x H' hx hmax sx => ?_, fun he H' sx => ?_⟩
              · rw [List.getElem?_map] at hx
                cases e : fr[i]? with
                | none => rw [e] at hx; cases hx
                | some n =>
                  rw [e] at hx
                  cases hx
                  obtain ⟨g, hg⟩ := hleft n (List.mem_of_getElem? e)
                  refine ⟨p, dx, lo, ll, lh, as, xs, os, left, rows, n, g, rfl, S5.same (smet.trans sx), hg, ?_⟩
                  have : left.getD (fr.getD i 0) 0 = g := by simp [List.getD, e, hg]
                  rw [← this]
                  exact hQ'
              · refine fin x H' (smet.trans sx) (.inr ?_)
                rw [List.getElem?_map] at hx
                cases e : fr[i]? with
                | none => rw [e] at hx; cases hx
                | some b =>
                  rw [e] at hx
                  cases hx
                  refine ⟨b, rfl, List.mem_of_getElem? e, fun n hn => ?_⟩
                  obtain ⟨j, hj, ej⟩ := List.getElem_of_mem hn
                  have := hmax j (by rw [List.length_map]; exact hj)
                  simpa [List.getD, e, List.getElem?_eq_getElem hj, ej] using this
              · exact fin .non H' (smet.trans sx) (.inl ⟨rfl, List.map_eq_nil_iff.mp he⟩)
            · intro bv H6 s6 hR
              refine' joinR (H := H6) (R := ∀ n ∈ fr, left.getD n 0 ≤ 0) (fun fin => ?_) ?_
              rotate_left
              · walk_at "go"
                rcases hR with ⟨e, hf⟩ | ⟨b, e, hb, hmax⟩
                · have hb : decide (bv = V.non) = true := decide_eq_true e
                  rw [hb]
                  refine iteF (iteF ?_)
                  exact fin _ (Same.refl _) (by rw [hf]; intro n hn; cases hn)
                · have hb' : decide (bv = V.non) = false := decide_eq_false (by rw [e]; intro z; cases z)
                  obtain ⟨g, hg⟩ := hleft b hb
                  have hgd : left.getD b 0 = g := by simp [List.getD, hg]
                  have S6 := S5.same s6
                  have W6 := W5.go s6
                  rw [hb']
                  refine iteT ?_
                  refine ⟨_, rfl, p, C, dx, _, _, rfl, S6.ins, T.cl, T.n_left, sv_l, _, rfl, _, _, _, _, rfl, e, SqL.of S6.lft, atI_nat (j := b) (by rw [List.getElem?_map, hg]; rfl), ?_⟩
                  walk_at "go"
                  refine ite2 (fun q => ?_) (fun q => ?_)
                  · walk_at "go"
                    refine ⟨by show 2 ≤ sizeLine; decide, fun r hr' => ?_⟩
                    have sr : Same H6 (upd H6 r (.tup [.ref dw, bv])) := Same.new hr'
                    obtain ⟨jj, hjj⟩ : ∃ j, (b, j) ∈ Wl ++ fr.map fun n => (n, place) := ⟨place, List.mem_append_right _ (List.mem_map.mpr ⟨b, hb, rfl⟩)⟩
                    exact k r dw (kvs ++ new) (some b) G _ _ (W6.same.trans sr) (by rw [upd_same, e]; rfl) W6.fw (sr _ _ W6.hw) (W6.ways.same sr) B5 ⟨⟨jj, hjj⟩, by rw [hgd]; exact of_decide_eq_true q⟩
                  · have hg0 : ¬ (0 < g) := fun z => q (decide_eq_true z)
                    exact fin _ (Same.refl _) fun n hn => by
                      have := hmax n hn
                      omega
              · intro H7 s7 hle
                have W7 := W5.go (s6.trans s7)
                have hfs7 := s7 _ _ (s6 _ _ hfs5)
                let Pf : Nat → L2.St → Hp → Prop := fun i σ H8 => ∃ (G' : List (Nat × Option Nat)) (ms' : List (Key × V)) (gs' : List V) (y1 y2 y3 : Option V),
                  σ = [some (.ref p), some (nV h), some (.ref dw), some (.ref lg), some (.ref dm), some (nV (place + 1)), some (nV at_), some (vN gv), y1, some (.ref lf), some bv, y2, y3] ∧
                  WSt H H8 dw lg dm G' (Wl ++ fr.map fun n => (n, place)) (kvs ++ new) ms' gs' (G'.map (·.1)) ∧ Bfs os rows h G' (Wl ++ fr.map fun n => (n, place)) ∧ Dealt os rows G' (Wl ++ fr.map fun n => (n, place)) (place + 1) ∧
                  Closed left rows G' (Wl.map (·.1) ++ fr.take i) ∧ H8 lf = some (.lst (fr.map nV)) ∧ G.length ≤ G'.length
                refine ⟨_, rfl, lf, rfl, ⟨_, SqL.of hfs7⟩, for_list (K := K) (a := lf) (xs := fr.map nV) Pf ?_ ?_ ?_ ?_⟩
                · exact ⟨G, ms, gs, _, _, _, rfl, W7, B5, D5, by rw [List.take_zero, List.append_nil]; exact Cl, hfs7, Nat.le_refl _⟩
                · rintro i σ H8 _ ⟨_, _, _, _, _, _, _, _, _, _, _, hf8, _⟩
                  exact SqL.of hf8
                · rintro i y σ H8 hy ⟨G', ms', gs', y1, y2, y3, rfl, W8, B8, D8, C8, hf8, hGl⟩
                  obtain ⟨n, hn, rfl⟩ : ∃ n, fr[i]? = some n ∧ y = nV n := by
                    rw [List.getElem?_map] at hy
                    cases e : fr[i]? with
                    | none => rw [e] at hy; cases hy
                    | some n => rw [e] at hy; cases hy; exact ⟨n, rfl, rfl⟩
                  have S8 := S.same W8.same
                  refine ⟨_, rfl, p, dx, _, rfl, S8.ins, sv_ho, _, rfl, p, dx, lo, ll, lh, as, xs, os, left, rows, n, rfl, S8, fun q2 hs H9 hq2 s9 hhs dhs => ?_⟩
                  have W9 := W8.go s9
                  refine ⟨_, rfl, ⟨_, SqL.of hhs⟩, ?_⟩
                  obtain ⟨j1, j2, j3⟩ := src_l (K := K) (e := nD) hhs dhs
                  have hhl : (hoursF rows n).length ≤ 100 := by
                    have := nodup_len (hoursF rows n) (List.range rows.length) (hoursF_nodup _ _) fun x hx => by
                      obtain ⟨r, h1, _⟩ := mem_hoursF.mp hx
                      exact List.mem_range.mpr (List.getElem?_eq_some_iff.mp h1).1
                    rw [List.length_range] at this
                    have := S.len.2.1
                    omega
                  refine lcG (e' := nD) (hoursF rows n) (fun o => if o ∉ G'.map (·.1) then some o else none) (fun t x H => Dv H (nD t) x) (fun _ => rfl) (by omega) j1 j2 j3 ?_ ?_
                  · rintro o x H10 N M _ s10 dn hy hno
                    cases dn
                    walk_at "go"
                    refine ⟨dm, _, rfl, DGet.k (k := nK o) ((W9.go s10).hm), _, rfl, ?_⟩
                    rw [valV_nK W9.met]
                    refine ite2 (fun q1 => ?_) (fun q1 => ?_)
                    · walk_at "go"
                      exact hy _ (if_pos (by simpa using q1)) _ _ (Same.refl _) rfl
                    · exact hno (if_neg (by simpa using q1)) _ (Same.refl _)
                  · rw [fm_filter]
                    intro lt ts H10 hlt s10 hts dts
                    replace dts : DvAll H10 ((othersF rows n G').map nD) ts := dts
                    have W10 := W9.go s10
                    have hol : (othersF rows n G').length ≤ 100 := Nat.le_trans (List.length_filter_le _ _) hhl
                    walk_at "go"
                    refine ⟨.inr (.inr (.inl ⟨rfl, .inl ⟨ms', W10.hm⟩⟩)), ?_⟩
                    refine ⟨_, rfl, _, rfl, ⟨_, SqL.of hts⟩, ?_⟩
                    obtain ⟨k1, k2, k3⟩ := src_l (K := K) (e := nD) hts dts
                    refine lcG (e' := fun o => .tuple [nD o, .bool true]) (othersF rows n G') (fun o => some o) (fun t x H => Dv H (nD t) x) (fun _ => rfl) (by omega) k1 k2 k3 ?_ ?_
                    · rintro o x H11 N M _ s11 dn hy hno
                      cases dn
                      walk_at "go"
                      refine ⟨by show 2 ≤ sizeLine; decide, fun t1 ht1 => ?_⟩
                      exact hy _ rfl _ _ (Same.new ht1) ⟨t1, _, rfl, upd_same, _, _, rfl, rfl, _, _, rfl, rfl, rfl⟩
                    · rw [fm_map]
                      intro lu2 xu2 H11 hlu2 s11 hxu2 dxu2
                      rw [List.map_id'] at dxu2
                      obtain ⟨ps2, new2, rfl, hps2, hnk2, _⟩ := pairs_new (K := K) (d := PyData.bool true) (z := V.bl true) (fun v hv => hv) dxu2
                      have W11 := W10.go s11
                      have hml : ms'.length = G'.length := by have := congrArg List.length W11.met; simpa using this
                      have hnl2 : new2.length = (othersF rows n G').length := by have := congrArg List.length hnk2; simpa using this
                      have hsm := B8.small
                      have hsr := S.len.2.1
                      refine ⟨dm, lu2, ps2, ms', new2, rfl, rfl, W11.hm, SqL.of hxu2, hps2, by rw [sizeLine_eq]; omega, ?_⟩
                      rw [mergeK_new new2 ms' (by rw [hnk2]; exact nK_nodup ((hoursF_nodup _ _).filter _)) (fun x hx z => by
                        rw [hnk2] at hx
                        rw [W11.met] at z
                        obtain ⟨o, ho, rfl⟩ := List.mem_map.mp hx
                        have := (List.mem_filter.mp ho).2
                        exact absurd (nK_mem.mp z) (by simpa using this))]
                      have W12 := W11.setM hnk2
                      have nlt : lt ≠ dm := fun z => by rw [z, W9.hm] at hlt; cases hlt
                      have hts12 : upd H11 dm (.dK (ms' ++ new2)) lt = some (.lst ts) := by rw [upd_ne nlt]; exact s11 _ _ hts
                      have dts12 : DvAll (upd H11 dm (.dK (ms' ++ new2))) ((othersF rows n G').map nD) ts := DvAll.upd (fun _ z => by rw [W11.hm] at z; cases z) (noLA (fun _ => rfl) _) (dts.same s11)
                      have hf12 : upd H11 dm (.dK (ms' ++ new2)) lf = some (.lst (fr.map nV)) := by rw [upd_ne nfm]; exact s11 _ _ (s10 _ _ (s9 _ _ hf8))
                      generalize upd H11 dm (.dK (ms' ++ new2)) = H12 at W12 hts12 dts12 hf12 ⊢
                      walk_at "go"
                      refine ⟨.inl ⟨rfl, _, SqL.of W12.hg⟩, ?_⟩
                      refine ⟨_, rfl, _, rfl, ⟨_, SqL.of hts12⟩, ?_⟩
                      obtain ⟨l1, l2, l3⟩ := src_l (K := K) (e := nD) hts12 dts12
                      refine lcG (e' := fun o => .tuple [nD o, nD n]) (othersF rows n G') (fun o => some o) (fun t x H => Dv H (nD t) x) (fun _ => rfl) (by omega) l1 l2 l3 ?_ ?_
                      · rintro o x H13 N M _ s13 dn hy hno
                        cases dn
                        walk_at "go"
                        refine ⟨by show 2 ≤ sizeLine; decide, fun t1 ht1 => ?_⟩
                        exact hy _ rfl _ _ (Same.new ht1) ⟨t1, _, rfl, upd_same, _, _, rfl, rfl, _, _, rfl, rfl, rfl⟩
                      · rw [fm_map]
                        intro lv xv H13 hlv s13 hxv dxv
                        rw [List.map_id'] at dxv
                        obtain ⟨_, _, _, _, _, hgv⟩ := pairs_new (K := K) (d := nD n) (z := nV n) (fun v hv => hv) dxv
                        have W13 := W12.go s13
                        have hgn : GivAt H13 ((othersF rows n G').map fun o => (o, some n)) xv := giv_map hgv
                        have hvl : xv.length = (othersF rows n G').length := by have := dxv.lenM; exact this
                        have hgl' : gs'.length = G'.length := W8.giv.length.symm
                        refine ⟨lg, lv, gs', xv, rfl, rfl, W13.hg, hxv, by rw [sizeLine_eq]; omega, ?_⟩
                        have W14 := W13.setG hgn
                        have hnW : (n, place) ∈ Wl ++ fr.map fun n => (n, place) := List.mem_append_right _ (List.mem_map.mpr ⟨n, List.mem_of_getElem? hn, rfl⟩)
                        have hp' : place < G'.length := by omega
                        refine ⟨G' ++ (othersF rows n G').map fun o => (o, some n), ms' ++ new2, gs' ++ xv, _, _, _, rfl, ?_, B8.more hnW hp', D8.more (by omega) _, ?_, by rw [upd_ne nfg]; exact s13 _ _ hf12, by rw [List.length_append]; omega⟩
                        · rw [List.map_append, List.map_map]
                          have e3 : (othersF rows n G').map ((fun q : Nat × Option Nat => q.1) ∘ fun o => (o, some n)) = othersF rows n G' := by
                            show (othersF rows n G').map (fun n => n) = _
                            exact List.map_id' _
                          rw [e3]
                          exact W14
                        · rw [List.take_add_one, hn, ← List.append_assoc]
                          exact C8.add (hle n (List.mem_of_getElem? hn))
                · rintro σ H8 ⟨G', ms', gs', y1, y2, y3, rfl, W8, B8, D8, C8, hf8, hGl⟩
                  refine ⟨⟨place + 1, G', _, _, _, _, _, _, _, _, _, _, _, rfl, W8, B8, D8, ?_, by omega⟩, ?_⟩
                  · rw [List.length_map, List.take_length] at C8
                    rw [List.map_append, List.map_map]
                    have e2 : fr.map ((fun q : Nat × Nat => q.1) ∘ fun n => (n, place)) = fr := by
                      show fr.map (fun n => n) = fr
                      exact List.map_id' _
                    rw [e2]
                    exact C8
                  · have := B.small
                    show rows.length + 1 - ((place : Int) + 1).toNat < rows.length + 1 - (place : Int).toNat
                    omega
    · intro σ H1 Q1 Q2 hq hc
      obtain ⟨v, h1, u, h2, p', ys, e1, e2, i, j, e3, e4, b, e5, e6⟩ := hc
      exact ⟨v, h1, u, h2, p', ys, e1, e2, i, j, e3, e4, b, e5, hq _ _ e6⟩
end
end K83
set_option maxRecDepth 100000
set_option maxHeartbeats 4000000
namespace K83
open PySem PySem.Spec PyProof.Rows L2
def hc (rows : List (List Nat)) (n : Nat) : Nat := rows.countP fun r => decide (n ∈ r)
theorem hoursF_len (rows : List (List Nat)) (n : Nat) : (hoursF rows n).length = hc rows n := by
  have h : ∀ (rows : List (List Nat)) (k : Nat), ((rows.zipIdx k).filterMap fun q => if n ∈ q.1 then some q.2 else none).length = rows.countP fun r => decide (n ∈ r) := fun rows => by
    induction rows with
    | nil => intro k; rfl
    | cons r rows ih =>
      intro k
      rw [List.zipIdx_cons, List.filterMap_cons, List.countP_cons]
      by_cases hn : n ∈ r
      · simp only [hn, if_true, List.length_cons, ih (k + 1), decide_true]
      · simp only [hn, if_false, ih (k + 1), decide_false, Bool.false_eq_true, if_false, Nat.add_zero]
  exact h rows 0
theorem hc_set : ∀ {rows : List (List Nat)} {i : Nat} {r : List Nat} (r' : List Nat) (m : Nat), rows[i]? = some r → hc (rows.set i r') m + (if m ∈ r then 1 else 0) = hc rows m + (if m ∈ r' then 1 else 0)
  | [], _, _, _, _, h => by simp at h
  | q :: rows, 0, r, r', m, h => by
    cases h
    unfold hc
    rw [List.set_cons_zero, List.countP_cons, List.countP_cons]
    by_cases h1 : m ∈ r' <;> by_cases h2 : m ∈ q <;> simp [h1, h2]
  | q :: rows, i + 1, r, r', m, h => by
    have ih := hc_set (rows := rows) (i := i) (r := r) r' m (by simpa using h)
    unfold hc at ih ⊢
    rw [List.set_cons_succ, List.countP_cons, List.countP_cons]
    omega
/-- the serving's state -/
structure Sv (os : List Of3) (left : List Int) (rows : List (List Nat)) : Prop where
  ll : left.length = os.length
  nd : ∀ r ∈ rows, r.Nodup
  av : ∀ (h : Nat) (r : List Nat) (n : Nat), rows[h]? = some r → n ∈ r → ∃ o : Of3, os[n]? = some o ∧ o.b ≤ (h : Int) ∧ (h : Int) < o.e
  bal : ∀ (n : Nat) (o : Of3), os[n]? = some o → left.getD n 0 + (hc rows n : Int) = o.g
  pos : ∀ n, n < os.length → 0 ≤ left.getD n 0
def TkInv (os : List Of3) (rows0 : List (List Nat)) (hour b : Nat) (G : List (Nat × Option Nat)) (Wl : List (Nat × Nat)) (cur : Option Nat) (jm : Nat) (rows : List (List Nat)) : Prop :=
  rows.length = rows0.length ∧ (∀ r ∈ rows, r.Nodup) ∧ (∀ (h : Nat) (r : List Nat) (n : Nat), rows[h]? = some r → n ∈ r → ∃ o : Of3, os[n]? = some o ∧ o.b ≤ (h : Int) ∧ (h : Int) < o.e) ∧
  match cur with
  | some n => ∃ j, jm = j + 1 ∧ (n, j) ∈ Wl ∧ (∀ (h : Nat) (r r' : List Nat), rows0[h]? = some r → rows[h]? = some r' → r'.length = r.length) ∧ (∀ i h g, i ≤ j → G[i]? = some (h, g) → rows[h]? = rows0[h]?) ∧
      ∀ m, hc rows m + (if m = n then 1 else 0) = hc rows0 m + (if m = b then 1 else 0)
  | none => jm = 0 ∧ (∀ (h : Nat) (r r' : List Nat), rows0[h]? = some r → rows[h]? = some r' → r'.length = r.length + if h = hour then 1 else 0) ∧ ∀ m, hc rows m = hc rows0 m + (if m = b then 1 else 0)
section
variable {os : List Of3} {rows0 rows : List (List Nat)} {hour b n j : Nat} {G : List (Nat × Option Nat)} {Wl : List (Nat × Nat)}
theorem TkInv.start {left : List Int} (S : Sv os left rows0) (B : Bfs os rows0 hour G Wl) (hb : (b, j) ∈ Wl) : TkInv os rows0 hour b G Wl (some b) (j + 1) rows0 :=
  ⟨rfl, S.nd, S.av, j, rfl, hb, fun h r r' h1 h2 => by rw [h1] at h2; cases h2; rfl, fun _ _ _ _ _ => rfl, fun _ => rfl⟩
theorem get_set_cases {α : Type} {l : List α} {i k : Nat} {x y z : α} (h : l[i]? = some y) (hk : (l.set i x)[k]? = some z) : (k = i ∧ z = x) ∨ (k ≠ i ∧ l[k]? = some z) := by
  by_cases e : k = i
  · subst e
    rw [List.getElem?_set_self (List.getElem?_eq_some_iff.mp h).1] at hk
    cases hk
    exact .inl ⟨rfl, rfl⟩
  · rw [List.getElem?_set_ne (fun z => e z.symm)] at hk
    exact .inr ⟨e, hk⟩
theorem TkInv.row (B : Bfs os rows0 hour G Wl) (I : TkInv os rows0 hour b G Wl (some n) (j + 1) rows) {at_ : Nat} {gv : Option Nat} (hG : G[j]? = some (at_, gv)) :
    ∃ r, rows[at_]? = some r ∧ rows0[at_]? = some r ∧ n ∉ r ∧ (∃ o : Of3, os[n]? = some o ∧ o.b ≤ (at_ : Int) ∧ (at_ : Int) < o.e) := by
  obtain ⟨_, _, _, j', e, hm, _, hun, _⟩ := I
  obtain rfl : j = j' := by omega
  obtain ⟨h, g, r, h1, h2, h3⟩ := B.ws n j hm
  rw [hG] at h1
  cases h1
  obtain ⟨h4, h5⟩ := mem_untaken.mp h3
  exact ⟨r, by rw [hun j at_ gv (Nat.le_refl _) hG]; exact h2, h2, h5, h4⟩
theorem TkInv.last (B : Bfs os rows0 hour G Wl) (I : TkInv os rows0 hour b G Wl (some n) (j + 1) rows) {at_ : Nat} (hG : G[j]? = some (at_, none)) {r : List Nat} (hr : rows[at_]? = some r) :
    TkInv os rows0 hour b G Wl none 0 (rows.set at_ (r ++ [n])) := by
  obtain ⟨r1, e1, e2, hn, ho⟩ := I.row B hG
  rw [hr] at e1
  cases e1
  obtain ⟨hl, hnd, hav, j', e, hm, hlen, hun, hcn⟩ := I
  obtain rfl : j = j' := by omega
  have h0 : at_ = hour := by
    cases j with
    | zero => have := B.g0; rw [hG] at this; cases this; rfl
    | succ i =>
      obtain ⟨m, _, _, h1, _⟩ := B.gs i at_ none hG
      cases h1
  have mem_at : r ∈ rows := List.mem_of_getElem? hr
  refine ⟨by rw [List.length_set]; exact hl, fun q hq => ?_, fun h q m h1 h2 => ?_, rfl, fun h q q' h1 h2 => ?_, fun m => ?_⟩
  · rcases List.mem_or_eq_of_mem_set hq with z | z
    · exact hnd q z
    · rw [z, List.nodup_append]
      exact ⟨hnd r mem_at, by simp, fun a ha b hb => by rw [List.mem_singleton.mp hb]; rintro rfl; exact hn ha⟩
  · rcases get_set_cases hr h1 with ⟨rfl, rfl⟩ | ⟨_, z⟩
    · rcases List.mem_append.mp h2 with y | y
      · exact hav _ _ m hr y
      · rw [List.mem_singleton.mp y]; exact ho
    · exact hav h q m z h2
  · rcases get_set_cases hr h2 with ⟨rfl, rfl⟩ | ⟨hne, z⟩
    · rw [e2] at h1
      cases h1
      rw [if_pos h0, List.length_append]
      rfl
    · rw [if_neg (fun y => hne (y.trans h0.symm))]
      exact hlen h q q' h1 z
  · have q := hc_set (rows := rows) (r ++ [n]) m hr
    have q2 := hcn m
    have q3 : (if m ∈ r ++ [n] then 1 else 0 : Nat) = (if m ∈ r then 1 else 0) + (if m = n then 1 else 0) := by
      by_cases y : m = n
      · subst y; simp [hn]
      · by_cases x : m ∈ r <;> simp [x, y]
    omega
theorem TkInv.next (B : Bfs os rows0 hour G Wl) (I : TkInv os rows0 hour b G Wl (some n) (j + 1) rows) {at_ m : Nat} (hG : G[j]? = some (at_, some m)) {r : List Nat} (hr : rows[at_]? = some r) :
    m ∈ r ∧ ∃ j2, j2 < j ∧ TkInv os rows0 hour b G Wl (some m) (j2 + 1) (rows.set at_ ((r ++ [n]).erase m)) := by
  obtain ⟨r1, e1, e2, hn, ho⟩ := I.row B hG
  rw [hr] at e1
  cases e1
  obtain ⟨hl, hnd, hav, j', e, hm, hlen, hun, hcn⟩ := I
  obtain rfl : j = j' := by omega
  have mem_at : r ∈ rows := List.mem_of_getElem? hr
  obtain ⟨j2, hj2, hw, hmr⟩ : ∃ j2, j2 < j ∧ (m, j2) ∈ Wl ∧ m ∈ r := by
    cases j with
    | zero => have := B.g0; rw [hG] at this; cases this
    | succ i =>
      obtain ⟨m', j2, r', h1, h2, h3, h4, h5⟩ := B.gs i at_ (some m) hG
      cases h1
      rw [e2] at h4
      cases h4
      exact ⟨j2, h3, h2, h5⟩
  have ndr := hnd r mem_at
  have nda : (r ++ [n]).Nodup := by
    rw [List.nodup_append]
    exact ⟨ndr, by simp, fun a ha b hb => by rw [List.mem_singleton.mp hb]; rintro rfl; exact hn ha⟩
  have hnm : m ≠ n := fun z => hn (z ▸ hmr)
  have mem_er : ∀ x, x ∈ (r ++ [n]).erase m ↔ x ≠ m ∧ (x ∈ r ∨ x = n) := fun x => by
    rw [nda.mem_erase_iff, List.mem_append, List.mem_singleton]
  refine ⟨hmr, j2, hj2, by rw [List.length_set]; exact hl, fun q hq => ?_, fun h q x h1 h2 => ?_, j2, rfl, hw, fun h q q' h1 h2 => ?_, fun i h g hi hg => ?_, fun x => ?_⟩
  · rcases List.mem_or_eq_of_mem_set hq with z | z
    · exact hnd q z
    · rw [z]; exact nda.erase m
  · rcases get_set_cases hr h1 with ⟨rfl, rfl⟩ | ⟨_, z⟩
    · rcases ((mem_er x).mp h2).2 with y | y
      · exact hav _ _ x hr y
      · rw [y]; exact ho
    · exact hav h q x z h2
  · rcases get_set_cases hr h2 with ⟨rfl, rfl⟩ | ⟨hne, z⟩
    · rw [e2] at h1
      cases h1
      rw [List.length_erase_of_mem (List.mem_append_left _ hmr), List.length_append]
      rfl
    · exact hlen h q q' h1 z
  · have hne : h ≠ at_ := by
      rintro rfl
      have hi' : i < j := by omega
      have n1 : (G.map (·.1))[i]? = some h := by rw [List.getElem?_map, hg]; rfl
      have n2 : (G.map (·.1))[j]? = some h := by rw [List.getElem?_map, hG]; rfl
      have hil := (List.getElem?_eq_some_iff.mp n1).1
      have := (List.getElem?_inj hil B.nd).mp (n1.trans n2.symm)
      omega
    rw [List.getElem?_set_ne (fun z => hne z.symm)]
    exact hun i h g (by omega) hg
  · have q := hc_set (rows := rows) ((r ++ [n]).erase m) x hr
    have q2 := hcn x
    have q3 : (if x ∈ (r ++ [n]).erase m then 1 else 0 : Nat) + (if x = m then 1 else 0) = (if x ∈ r then 1 else 0) + (if x = n then 1 else 0) := by
      by_cases y : x = m
      · subst y; simp [mem_er, hmr, hnm]
      · by_cases x1 : x ∈ r
        · have : x ≠ n := fun z => hn (z ▸ x1)
          simp [mem_er, x1, y, this]
        · by_cases x2 : x = n
          · subst x2
            simp [mem_er, x1, y]
          · simp [mem_er, x1, y, x2]
    omega
theorem TkInv.done {left : List Int} (S : Sv os left rows0) (I : TkInv os rows0 hour b G Wl none 0 rows) (hb : 0 < left.getD b 0) (hbl : b < os.length) : Sv os (left.set b (left.getD b 0 - 1)) rows := by
  obtain ⟨hl, hnd, hav, _, hlen, hcn⟩ := I
  have hbl' : b < left.length := by rw [S.ll]; exact hbl
  have gd : ∀ n, (left.set b (left.getD b 0 - 1)).getD n 0 = if n = b then left.getD b 0 - 1 else left.getD n 0 := fun n => by
    rw [List.getD_eq_getElem?_getD, List.getD_eq_getElem?_getD]
    by_cases e : n = b
    · subst e
      rw [List.getElem?_set_self hbl', if_pos rfl]
      rfl
    · rw [List.getElem?_set_ne (fun z => e z.symm), if_neg e, List.getD_eq_getElem?_getD]
  refine ⟨by rw [List.length_set]; exact S.ll, hnd, hav, fun n o ho => ?_, fun n hn => ?_⟩
  · have q := S.bal n o ho
    have q2 := hcn n
    rw [gd]
    by_cases e : n = b
    · subst e
      rw [if_pos rfl] at q2 ⊢
      omega
    · rw [if_neg e] at q2 ⊢
      omega
  · rw [gd]
    by_cases e : n = b
    · rw [if_pos e]; omega
    · rw [if_neg e]; exact S.pos n hn
end
end K83
set_option maxRecDepth 100000
set_option maxHeartbeats 4000000
namespace K83
open PySem PySem.Spec PyProof.Rows L2
local macro_rules | `(tactic| walk_at "nz") => `(tactic| dsimp -proj only [L2.start, wipe, List.map_cons, List.map_nil, List.set, List.length, List.replicate, List.cons_append, List.nil_append, Nat.reduceSub, Nat.reduceAdd])
local macro_rules | `(tactic| walk_at "gg") => `(tactic| repeat (first | refine ⟨rfl, ?_⟩ | refine ⟨_, rfl, ?_⟩ | refine ⟨_, _, rfl, ?_⟩ | refine ⟨_, _, rfl, rfl, ?_⟩))
local macro_rules | `(tactic| walk_at "go") => `(tactic| ((try walk_at "nz"); walk_at "gg"; (try walk_at "nz")))
/-- a Serving that was made behind the heap Hb -/
structure SrvB (C : Addr) (Hb H : Hp) (p dx lo ll lh : Addr) (as : List Addr) (xs : List V) (os : List Of3) (left : List Int) (rows : List (List Nat)) : Prop where
  at_ : SrvAt C H p dx lo ll lh as xs os left rows
  same : Same Hb H
  bp : Hb p = none
  bl : Hb ll = none
  bh : Hb lh = none
  ba : ∀ a ∈ as, Hb a = none
  bo : Hb lo = some (.lst xs)
  bd : DvAll Hb (os.map of3D) xs
  nd : as.Nodup
  la : ll ∉ as
  ha : lh ∉ as
  lh_ : ll ≠ lh
section
variable {H : Hp} {a' : Addr} {o : HO}
theorem paired_off : ∀ {as : List Addr} {rows : List (List Nat)}, a' ∉ as → Paired (fun (a : Addr) (r : List Nat) => H a = some (.lst (r.map nV))) as rows → Paired (fun (a : Addr) (r : List Nat) => upd H a' o a = some (.lst (r.map nV))) as rows
  | _, _, _, .nil => .nil
  | x :: _, _, n, .cons h t => .cons (by rw [upd_ne (fun z : x = a' => n (z ▸ List.mem_cons_self))]; exact h) (paired_off (fun z => n (List.mem_cons_of_mem _ z)) t)
theorem paired_set : ∀ {as : List Addr} {rows : List (List Nat)} {i : Nat} {a : Addr} {r' : List Nat}, as.Nodup → as[i]? = some a → Paired (fun (a : Addr) (r : List Nat) => H a = some (.lst (r.map nV))) as rows →
    Paired (fun (b : Addr) (r : List Nat) => upd H a (.lst (r'.map nV)) b = some (.lst (r.map nV))) as (rows.set i r')
  | _, _, _, _, _, _, h, .nil => by simp at h
  | x :: as, _ :: rows, 0, _, r', nd, h, .cons h1 t => by
    cases h
    rw [List.set_cons_zero]
    exact .cons upd_same (paired_off (List.nodup_cons.mp nd).1 t)
  | x :: as, _ :: rows, i + 1, a, r', nd, h, .cons h1 t => by
    rw [List.set_cons_succ]
    have ha : as[i]? = some a := by simpa using h
    have hne : x ≠ a := fun z => (List.nodup_cons.mp nd).1 (z ▸ List.mem_of_getElem? ha)
    exact .cons (by rw [upd_ne hne]; exact h1) (paired_set (List.nodup_cons.mp nd).2 ha t)
end
section
variable {C : Addr} {Hb H H' : Hp} {p dx lo ll lh : Addr} {as : List Addr} {xs : List V} {os : List Of3} {left : List Int} {rows : List (List Nat)}
theorem SrvB.go (s : SrvB C Hb H p dx lo ll lh as xs os left rows) (e : Same H H') : SrvB C Hb H' p dx lo ll lh as xs os left rows :=
  ⟨s.at_.same e, s.same.trans e, s.bp, s.bl, s.bh, s.ba, s.bo, s.bd, s.nd, s.la, s.ha, s.lh_⟩
theorem SrvB.setL (s : SrvB C Hb H p dx lo ll lh as xs os left rows) (left' : List Int) : SrvB C Hb (upd H ll (.lst (left'.map V.int))) p dx lo ll lh as xs os left' rows :=
  have e : Same Hb (upd H ll (.lst (left'.map V.int))) := Same.mut s.same s.bl
  ⟨⟨by rw [upd_ne (ne_of s.at_.ins s.at_.lft (by intro z; cases z))]; exact s.at_.ins, e _ _ s.bo, s.bd.same e, upd_same, by rw [upd_ne s.lh_.symm]; exact s.at_.hrs, paired_off s.la s.at_.row, s.at_.len⟩, e, s.bp, s.bl, s.bh, s.ba, s.bo, s.bd, s.nd, s.la, s.ha, s.lh_⟩
theorem SrvB.setR (s : SrvB C Hb H p dx lo ll lh as xs os left rows) {i : Nat} {a : Addr} (ha : as[i]? = some a) (r' : List Nat) (hl : r'.length ≤ 100000) : SrvB C Hb (upd H a (.lst (r'.map nV))) p dx lo ll lh as xs os left (rows.set i r') :=
  have hm : a ∈ as := List.mem_of_getElem? ha
  have e : Same Hb (upd H a (.lst (r'.map nV))) := Same.mut s.same (s.ba a hm)
  have hra : ∃ r : List Nat, H a = some (.lst (r.map nV)) := by
    have hi : i < as.length := (List.getElem?_eq_some_iff.mp ha).1
    have : i < rows.length := by rw [← s.at_.row.length]; exact hi
    exact ⟨rows[i], pair_rel (R := fun (a : Addr) (r : List Nat) => H a = some (.lst (r.map nV))) s.at_.row ha (List.getElem?_eq_getElem this)⟩
  ⟨⟨by obtain ⟨r, hr⟩ := hra; rw [upd_ne (ne_of s.at_.ins hr (by intro z; cases z))]; exact s.at_.ins, e _ _ s.bo, s.bd.same e, by rw [upd_ne (fun z : ll = a => s.la (z ▸ hm))]; exact s.at_.lft, by rw [upd_ne (fun z : lh = a => s.ha (z ▸ hm))]; exact s.at_.hrs,
    paired_set s.nd ha s.at_.row, ⟨s.at_.len.1, by rw [List.length_set]; exact s.at_.len.2.1, fun r hr => (List.mem_or_eq_of_mem_set hr).elim (s.at_.len.2.2 r) fun z => z ▸ hl⟩⟩, e, s.bp, s.bl, s.bh, s.ba, s.bo, s.bd, s.nd, s.la, s.ha, s.lh_⟩
theorem SrvB.push (s : SrvB C Hb H p dx lo ll lh as xs os left rows) {a : Addr} (ha : H a = none) (hl : rows.length < 100) : SrvB C Hb (upd (upd H a (.lst [])) lh (.lst ((as ++ [a]).map V.ref))) p dx lo ll lh (as ++ [a]) xs os left (rows ++ [[]]) :=
  have hba : Hb a = none := s.same.free ha
  have e : Same Hb (upd (upd H a (.lst [])) lh (.lst ((as ++ [a]).map V.ref))) := Same.mut (Same.mut s.same hba) s.bh
  have e1 : Same H (upd H a (.lst [])) := Same.new ha
  have nla : ll ≠ a := fun z => by have := s.at_.lft; rw [z, ha] at this; cases this
  have nha : lh ≠ a := fun z => by have := s.at_.hrs; rw [z, ha] at this; cases this
  have nas : a ∉ as := fun z => by
    obtain ⟨i, hi⟩ := List.mem_iff_getElem?.mp z
    have hi' : i < as.length := (List.getElem?_eq_some_iff.mp hi).1
    have : i < rows.length := by rw [← s.at_.row.length]; exact hi'
    have := pair_rel s.at_.row hi (List.getElem?_eq_getElem this)
    rw [ha] at this
    cases this
  have s1 := s.at_.same e1
  ⟨⟨by rw [upd_ne (ne_of s1.ins s1.hrs (by intro z; cases z))]; exact s1.ins, e _ _ s.bo, s.bd.same e, by rw [upd_ne s.lh_]; exact s1.lft, upd_same,
    paired_app (paired_off s.ha s1.row) (.cons (by rw [upd_ne nha.symm, upd_same]; rfl) .nil), ⟨s.at_.len.1, by rw [List.length_append]; show rows.length + 1 ≤ 100; omega, fun r hr => (List.mem_append.mp hr).elim (s.at_.len.2.2 r) fun z => by rw [List.mem_singleton.mp z]; exact Nat.zero_le _⟩⟩,
    e, s.bp, s.bl, s.bh, fun b hb => (List.mem_append.mp hb).elim (s.ba b) fun z => by rw [List.mem_singleton.mp z]; exact hba, s.bo, s.bd,
    by rw [List.nodup_append]; exact ⟨s.nd, by simp, fun x hx y hy => by rw [List.mem_singleton.mp hy]; rintro rfl; exact nas hx⟩,
    fun z => (List.mem_append.mp z).elim s.la fun z => nla (List.mem_singleton.mp z), fun z => (List.mem_append.mp z).elim s.ha fun z => nha (List.mem_singleton.mp z), s.lh_⟩
theorem ways_get {G : List (Nat × Option Nat)} : ∀ {Wl : List (Nat × Nat)} {kvs : List (Key × V)} {n j : Nat}, WaysAt H G Wl kvs → (Wl.map (·.1)).Nodup → (n, j) ∈ Wl → ∃ T h g, valV kvs (nK n) = some (.ref T) ∧ G[j]? = some (h, g) ∧ H T = some (.tup [nV h, vN g])
  | _, _, _, _, .nil, _, hm => nomatch hm
  | (m, i) :: Wl, kv :: kvs, n, j, .cons ⟨h1, T, h, g, h2, h3, h4⟩ t, nd, hm => by
    rw [List.map_cons, List.nodup_cons] at nd
    rcases List.mem_cons.mp hm with z | z
    · cases z
      exact ⟨T, h, g, by rw [valV_pos h1, h3], h2, h4⟩
    · obtain ⟨T', h', g', q⟩ := ways_get t nd.2 z
      refine ⟨T', h', g', ?_⟩
      rw [valV_neg (fun y => ?_)]
      · exact q
      · have : m = n := nK_inj (h1.symm.trans y)
        exact nd.1 (this ▸ List.mem_map.mpr ⟨(n, j), z, rfl⟩)
end
theorem tyL {K : PySem.W.Frag} {H : Hp} {a : Addr} {xs : List V} (h : H a = some (.lst xs)) : tyV K "list" (.ref a) H := .inl ⟨rfl, _, SqL.of h⟩
theorem er_map {α β : Type} (f : α → β) : ∀ (l : List α) (i : Nat), (l.map f).eraseIdx i = (l.eraseIdx i).map f
  | [], _ => rfl
  | _ :: _, 0 => rfl
  | a :: l, i + 1 => by
    show f a :: (l.map f).eraseIdx i = f a :: (l.eraseIdx i).map f
    rw [er_map f l i]
def spTake (C : Addr) : Sp := fun vs H Q _ => ∃ Hb p dx lo ll lh as xs os left rows, ∃ (dw : Addr) (kvs : List (Key × V)) (G : List (Nat × Option Nat)) (Wl : List (Nat × Nat)) (hour b j : Nat), vs = [.ref p, .ref dw, nV b] ∧ SrvB C Hb H p dx lo ll lh as xs os left rows ∧ Sv os left rows ∧
  H dw = some (.dK kvs) ∧ WaysAt H G Wl kvs ∧ Bfs os rows hour G Wl ∧ (b, j) ∈ Wl ∧ 0 < left.getD b 0 ∧ (∀ r ∈ rows, r.length < 100000) ∧
  ∀ H' rows', SrvB C Hb H' p dx lo ll lh as xs os (left.set b (left.getD b 0 - 1)) rows' → Sv os (left.set b (left.getD b 0 - 1)) rows' → rows'.length = rows.length →
    (∀ (h : Nat) (r r' : List Nat), rows[h]? = some r → rows'[h]? = some r' → r'.length = r.length + if h = hour then 1 else 0) → Q .non H'
theorem while_W {c : TT} {tb : TS} {D : Ends} {σ : L2.St} {H : Hp} (W : Nat → L2.St → Hp → Prop) (m0 : Nat) (h0 : W m0 σ H)
    (hs : ∀ m σ H, W m σ H → c σ H fun b H1 => if b = true then tb { D with nx := fun σ' H' => ∃ m', m' < m ∧ W m' σ' H', ct := fun σ' H' => ∃ m', m' < m ∧ W m' σ' H', bk := D.nx } σ H1 else D.nx σ H1)
    (mono : ∀ σ H Q Q', (∀ b H1, Q b H1 → Q' b H1) → c σ H Q → c σ H Q') : tWhile c tb D σ H := by
  refine ⟨W, ⟨m0, h0⟩, fun m σ H w => mono σ H _ _ (fun b H1 q => ?_) (hs m σ H w)⟩
  cases b with
  | true => exact ⟨fun σ' H' => ∃ m', m' < m ∧ W m' σ' H', fun _ _ z => z, q⟩
  | false => exact q
section
variable {P : Program} {w : World} {K : PySem.W.Frag} {mg : Str → Option Value} {base : Heap} {A : Nat → Addr} {D : Nat → FuncData} {C : Addr} {tk : Tok}
theorem sc_Serving_take : FnScope ["self", "ways", "number", "at", "given"] ["self", "ways", "number"] (defScope (inClass (topS 1) 5)) := ⟨rfl, rfl, rfl, by decide +kernel, rfl, by decide +kernel, by decide +kernel⟩
theorem ok_take (T : Tx K mg A D C tk) : FnOk P w K mg base CX0 1 (A 105) (D 105) ["self", "ways", "number"] (spTake C) := by
  refine T.f_take.ok sc_Serving_take (fun vs H Q E h => ?_) (fun cdv A0 outer s H vs Q E hr h => ?_)
  · obtain ⟨Hb, p, dx, lo, ll, lh, as, xs, os, left, rows, dw, kvs, G, Wl, hour, b, j, rfl, _⟩ := h
    rfl
  · obtain ⟨Hb, p, dx, lo, ll, lh, as, xs, os, left, rows, dw, kvs, G, Wl, hour, b, j, rfl, SB, SV, hdw, hways, B, hb, hpos, hrl, k⟩ := h
    obtain ⟨h0, g0, r0, hG0, hr0, hu0⟩ := B.ws b j hb
    obtain ⟨⟨ob, hob, _⟩, _⟩ := mem_untaken.mp hu0
    have hbl : b < os.length := (List.getElem?_eq_some_iff.mp hob).1
    have hbl' : b < left.length := by rw [SV.ll]; exact hbl
    have hgb : left[b]? = some (left.getD b 0) := by rw [List.getElem?_eq_getElem hbl']; simp [List.getD, List.getElem?_eq_getElem hbl']
    refine ⟨_, (pss_cons (ps_augS (pe_fld (pv 0) rfl) (pv 2) pg_list pe_int ip_sub set_list)
 (pss_one (ps_while PassesOwn.never (pt_cmpR op_notN (pv 2) pe_non (nomark _)) (pss_cons (ps_asg (pe_dget (hu_of hr) (pv 1) (pv 2) (fun _ _ => rfl)) (pgT K 2 rfl (pgs_cons (pg_name (i := 3) sc_Serving_take.nd rfl (Or.inl rfl)) (pgs_cons (pg_name (i := 4) sc_Serving_take.nd rfl (Or.inl rfl)) pgs_nil))))
 (pss_cons (ps_expr (pe_bm PySem.F.plainAttrs_list PySem.F.slot_list_append PySem.F.type_list_append mt_append (pe_ix (ixL K) (pe_fld (pv 0) rfl) (pv 3) (fun _ _ => rfl)) (pa_cons (pv 2) pa_nil)))
 (pss_cons (ps_if (pt_cmpR op_notN (pv 4) pe_non (nomark _)) (pss_one (ps_expr (pe_bm PySem.F.plainAttrs_list PySem.F.slot_list_remove PySem.F.type_list_remove mt_remove (pe_ix (ixL K) (pe_fld (pv 0) rfl) (pv 3) (fun _ _ => rfl)) (pa_cons (pv 4) pa_nil)))) pss_nil)
 (pss_one (ps_set (i := 2) sc_Serving_take.nd rfl (Or.inl rfl) (pv 4))))))))), ?_⟩
    refine ⟨_, rfl, p, C, dx, _, _, rfl, SB.at_.ins, T.cl, T.n_left, sv_l, _, rfl, _, _, _, _, rfl, rfl, SqL.of SB.at_.lft, atI_nat (j := b) (by rw [List.getElem?_map, hgb]; rfl), ?_⟩
    refine ⟨_, _, rfl, rfl, _, _, _, b, rfl, rfl, SB.at_.lft, ?_, ?_⟩
    · rw [List.length_map]
      show (if (0 : Int) ≤ (b : Int) then _ else _) = some b
      rw [if_pos (by omega), if_pos (by omega), Int.toNat_natCast]
    · rw [show (left.map V.int).set b (V.int (left.getD b 0 - 1)) = (left.set b (left.getD b 0 - 1)).map V.int from (List.map_set ..).symm]
      have SB1 := SB.setL (left.set b (left.getD b 0 - 1))
      have nwl : dw ≠ ll := ne_of hdw SB.at_.lft (by intro z; cases z)
      have hdw1 : upd H ll (.lst ((left.set b (left.getD b 0 - 1)).map V.int)) dw = some (.dK kvs) := by rw [upd_ne nwl]; exact hdw
      have hways1 := hways.upd (a := ll) (o := .lst ((left.set b (left.getD b 0 - 1)).map V.int)) (notup_l SB.at_.lft)
      generalize upd H ll (.lst ((left.set b (left.getD b 0 - 1)).map V.int)) = H1 at SB1 hdw1 hways1 ⊢
      let W : Nat → L2.St → Hp → Prop := fun m σ H2 => ∃ (cur : Option Nat) (rows1 : List (List Nat)) (z3 z4 : Option V), σ = [some (.ref p), some (.ref dw), some (vN cur), z3, z4] ∧ SrvB C Hb H2 p dx lo ll lh as xs os (left.set b (left.getD b 0 - 1)) rows1 ∧ TkInv os rows hour b G Wl cur m rows1 ∧
        H2 dw = some (.dK kvs) ∧ WaysAt H2 G Wl kvs
      refine while_W W (j + 1) ⟨some b, rows, _, _, rfl, SB1, TkInv.start SV B hb, hdw1, hways1⟩ ?_ ?_
      · rintro m σ H2 ⟨cur, rows1, z3, z4, rfl, SB2, I, hdw2, hways2⟩
        walk_at "go"
        cases cur with
        | none =>
          refine iteF ?_
          have hm0 : m = 0 := I.2.2.2.1
          subst hm0
          exact k H2 rows1 SB2 (I.done SV hpos hbl) I.1 I.2.2.2.2.1
        | some n =>
          refine iteT ?_
          obtain ⟨jj, hmj, hnj, hlen1, _⟩ := id I.2.2.2
          subst hmj
          obtain ⟨T0, at_, gv, hget, hGj, hT0⟩ := ways_get hways2 B.wnd hnj
          obtain ⟨r, hr1, hr0', hnr, _⟩ := I.row B hGj
          obtain ⟨a, haa, hra⟩ := pair_at SB2.at_.row hr1
          have hrlen : r.length < 100000 := hrl r (List.mem_of_getElem? hr0')
          have hrd : ∀ ys, H2 dw ≠ some (.lst ys) := fun ys z => by rw [hdw2] at z; cases z
          refine ⟨_, rfl, _, rfl, dw, .ref T0, rfl, hget ▸ DGet.k (k := nK n) hdw2, ?_⟩
          refine ⟨_, _, rfl, SqT.of hT0, rfl, ?_⟩
          walk_at "go"
          refine ⟨p, C, dx, _, _, rfl, SB2.at_.ins, T.cl, T.n_hourly, sv_h, _, rfl, _, _, _, _, rfl, rfl, SqL.of SB2.at_.hrs, atI_nat (j := at_) (by rw [List.getElem?_map, haa]; rfl), tyL hra, ?_⟩
          walk_at "go"
          refine ⟨a, r.map nV, nV n, rfl, rfl, hra, by rw [List.length_map, sizeLine_eq]; omega, ?_⟩
          rw [show r.map nV ++ [nV n] = (r ++ [n]).map nV by rw [List.map_append]; rfl]
          have SB3 := SB2.setR haa (r ++ [n]) (by rw [List.length_append]; show r.length + 1 ≤ 100000; omega)
          have nwa : dw ≠ a := ne_of hdw2 hra (by intro z; cases z)
          have hdw3 : upd H2 a (.lst ((r ++ [n]).map nV)) dw = some (.dK kvs) := by rw [upd_ne nwa]; exact hdw2
          have hways3 := hways2.upd (a := a) (o := .lst ((r ++ [n]).map nV)) (notup_l hra)
          have hra3 : upd H2 a (.lst ((r ++ [n]).map nV)) a = some (.lst ((r ++ [n]).map nV)) := upd_same
          generalize upd H2 a (.lst ((r ++ [n]).map nV)) = H3 at SB3 hdw3 hways3 hra3 ⊢
          walk_at "go"
          cases gv with
          | none =>
            refine iteF ?_
            refine ⟨vN none, rfl, 0, Nat.succ_pos _, none, _, _, _, rfl, SB3, I.last B hGj hr1, hdw3, hways3⟩
          | some m =>
            refine iteT ?_
            obtain ⟨hmr, j2, hj2, I2⟩ := I.next B hGj hr1
            have hset : (rows1.set at_ (r ++ [n]))[at_]? = some (r ++ [n]) := List.getElem?_set_self (List.getElem?_eq_some_iff.mp hr1).1
            have nda : (r ++ [n]).Nodup := by
              rw [List.nodup_append]
              exact ⟨I.2.1 r (List.mem_of_getElem? hr1), by simp, fun a ha b hb => by rw [List.mem_singleton.mp hb]; rintro rfl; exact hnr ha⟩
            have hmm : m ∈ r ++ [n] := List.mem_append_left _ hmr
            have hlt : (r ++ [n]).idxOf m < (r ++ [n]).length := List.idxOf_lt_length_iff.mpr hmm
            have hget2 : (r ++ [n])[(r ++ [n]).idxOf m]? = some m := by rw [List.getElem?_eq_getElem hlt, List.getElem_idxOf hlt]
            have hcast : (r ++ [n]).map nV = ((r ++ [n]).map (fun n : Nat => (n : Int))).map V.int := by rw [List.map_map]; rfl
            walk_at "go"
            refine ⟨p, C, dx, _, _, rfl, SB3.at_.ins, T.cl, T.n_hourly, sv_h, _, rfl, _, _, _, _, rfl, rfl, SqL.of SB3.at_.hrs, atI_nat (j := at_) (by rw [List.getElem?_map, haa]; rfl), tyL hra3, ?_⟩
            walk_at "go"
            refine ⟨a, (r ++ [n]).map (fun n : Nat => (n : Int)), (m : Int), (r ++ [n]).idxOf m, rfl, rfl, by rw [hra3, hcast], by rw [List.getElem?_map, hget2]; rfl, fun i hi z => ?_, ?_⟩
            · rw [List.getElem?_map] at z
              cases e : (r ++ [n])[i]? with
              | none => rw [e] at z; cases z
              | some x =>
                rw [e] at z
                have hx : x = m := by
                  have h9 : (x : Int) = (m : Int) := Option.some.inj z
                  omega
                subst hx
                have hie := (List.getElem?_inj (Nat.lt_trans hi hlt) nda).mp (e.trans hget2.symm)
                exact absurd hi (by rw [hie]; exact Nat.lt_irrefl _)
            · have e3 : (((r ++ [n]).map (fun n : Nat => (n : Int))).eraseIdx ((r ++ [n]).idxOf m)).map V.int = ((r ++ [n]).erase m).map nV := by
                rw [List.erase_eq_eraseIdx_of_idxOf rfl, er_map, List.map_map]
                rfl
              rw [e3]
              have SB4 := SB3.setR haa ((r ++ [n]).erase m) (by
                have := List.length_erase_le (a := m) (l := r ++ [n])
                rw [List.length_append] at this
                have h1 : ([n] : List Nat).length = 1 := rfl
                omega)
              rw [List.set_set] at SB4
              refine ⟨vN (some m), rfl, j2 + 1, by omega, some m, _, _, _, rfl, SB4, I2, ?_, hways3.upd (notup_l hra3)⟩
              rw [upd_ne nwa]
              exact hdw3
      · intro σ H1 Q1 Q2 hq hc
        obtain ⟨v, h1, e2, b, e5, e6⟩ := hc
        exact ⟨v, h1, e2, b, e5, hq _ _ e6⟩
end
end K83
set_option maxRecDepth 100000
set_option maxHeartbeats 4000000
namespace K83
open PySem PySem.Spec PyProof.Rows L2
local macro_rules | `(tactic| walk_at "nz") => `(tactic| dsimp -proj only [L2.start, wipe, List.map_cons, List.map_nil, List.set, List.length, List.replicate, List.cons_append, List.nil_append, Nat.reduceSub, Nat.reduceAdd])
local macro_rules | `(tactic| walk_at "gg") => `(tactic| repeat (first | refine ⟨rfl, ?_⟩ | refine ⟨_, rfl, ?_⟩ | refine ⟨_, _, rfl, ?_⟩ | refine ⟨_, _, rfl, rfl, ?_⟩))
local macro_rules | `(tactic| walk_at "go") => `(tactic| ((try walk_at "nz"); walk_at "gg"; (try walk_at "nz")))
def HM (rows : List (List Nat)) (ks : List Nat) (hour h : Nat) : Prop := h = hour ∨ ∃ n ∈ ks, ∃ r, rows[h]? = some r ∧ n ∈ r
/-- none is left who could give -/
structure Stuck (os : List Of3) (left : List Int) (rows : List (List Nat)) (hour : Nat) (ks : List Nat) : Prop where
  lt : ∀ h, HM rows ks hour h → h < rows.length
  all : ∀ h r, HM rows ks hour h → rows[h]? = some r → ∀ n ∈ untakenF os r h, n ∈ ks
  full : ∀ n ∈ ks, left.getD n 0 ≤ 0
  nd : ks.Nodup
theorem stuck_of {os : List Of3} {left : List Int} {rows : List (List Nat)} {hour : Nat} {G : List (Nat × Option Nat)} {Wl : List (Nat × Nat)} (B : Bfs os rows hour G Wl) (Dl : Dealt os rows G Wl G.length) (Cl : Closed left rows G (Wl.map (·.1))) : Stuck os left rows hour (Wl.map (·.1)) := by
  have hm : ∀ h, HM rows (Wl.map (·.1)) hour h → h ∈ G.map (·.1) := fun h z => by
    rcases z with rfl | ⟨n, hn, r, hr, hnr⟩
    · exact List.mem_map.mpr ⟨_, List.mem_of_getElem? B.g0, rfl⟩
    · exact (Cl n hn).2 h r hr hnr
  refine ⟨fun h z => ?_, fun h r z hr n hn => ?_, fun n hn => (Cl n hn).1, B.wnd⟩
  · obtain ⟨q, hq, rfl⟩ := List.mem_map.mp (hm h z)
    exact B.hb q hq
  · obtain ⟨⟨h', g⟩, hq, rfl⟩ := List.mem_map.mp (hm h z)
    obtain ⟨i, hi⟩ := List.mem_iff_getElem?.mp hq
    exact Dl i h' g r (List.getElem?_eq_some_iff.mp hi).1 hi hr n hn
theorem SrvAt.updD {C : Addr} {H : Hp} {p dx lo ll lh : Addr} {as : List Addr} {xs : List V} {os : List Of3} {left : List Int} {rows : List (List Nat)} (s : SrvAt C H p dx lo ll lh as xs os left rows) {a : Addr} {o : HO} (hi : ∀ C dx fs, H a ≠ some (.ins C dx fs)) (hl : ∀ xs, H a ≠ some (.lst xs)) (ht : ∀ xs, H a ≠ some (.tup xs)) :
    SrvAt C (upd H a o) p dx lo ll lh as xs os left rows where
  ins := by rw [upd_ne (fun z : p = a => hi _ _ _ (z ▸ s.ins))]; exact s.ins
  ofs := by rw [upd_ne (fun z : lo = a => hl _ (z ▸ s.ofs))]; exact s.ofs
  ofd := s.ofd.upd ht (noLA noOf3 _)
  lft := by rw [upd_ne (fun z : ll = a => hl _ (z ▸ s.lft))]; exact s.lft
  hrs := by rw [upd_ne (fun z : lh = a => hl _ (z ▸ s.hrs))]; exact s.hrs
  row := by
    have r := s.row
    clear s
    induction r with
    | nil => exact .nil
    | @cons x y _ _ h _ ih => exact .cons (by rw [upd_ne (fun z : x = a => hl _ (z ▸ h))]; exact h) ih
  len := s.len
theorem SrvAt.updL {C : Addr} {H H0 : Hp} {p dx lo ll lh : Addr} {as : List Addr} {xs : List V} {os : List Of3} {left : List Int} {rows : List (List Nat)} (s : SrvAt C H p dx lo ll lh as xs os left rows) {l : Addr} {ys : List V} {o : HO} (hl : H l = some (.lst ys)) (h0 : H0 l = none) (s0 : SrvAt C H0 p dx lo ll lh as xs os left rows) :
    SrvAt C (upd H l o) p dx lo ll lh as xs os left rows where
  ins := by rw [upd_ne (fun z : p = l => by have := s0.ins; rw [z, h0] at this; cases this)]; exact s.ins
  ofs := by rw [upd_ne (fun z : lo = l => by have := s0.ofs; rw [z, h0] at this; cases this)]; exact s.ofs
  ofd := s.ofd.upd (notup_l hl) (noLA noOf3 _)
  lft := by rw [upd_ne (fun z : ll = l => by have := s0.lft; rw [z, h0] at this; cases this)]; exact s.lft
  hrs := by rw [upd_ne (fun z : lh = l => by have := s0.hrs; rw [z, h0] at this; cases this)]; exact s.hrs
  row := by
    have r := s.row
    have r0 := s0.row
    clear s s0
    induction r with
    | nil => exact .nil
    | @cons x y _ _ h _ ih =>
      cases r0 with
      | cons h1 t1 => exact .cons (by rw [upd_ne (fun z : x = l => by rw [z, h0] at h1; cases h1)]; exact h) (ih t1)
  len := s.len
theorem dhs_ints {H : Hp} {ns : List Nat} {xs : List V} (h : DvAll H (ns.map nD) xs) : xs = ns.map nV := by
  have h2 : DvAll H ((ns.map (fun n : Nat => (n : Int))).map PyData.int) xs := by rw [List.map_map]; exact h
  have := DvAll.ints' h2
  rw [List.map_map] at this
  exact this
theorem fm_len (ks : List Nat) (rows : List (List Nat)) (i : Nat) : ((ks.take i).flatMap (hoursF rows)).length ≤ (ks.map (hc rows)).sum := by
  rw [List.length_flatMap]
  have e : (ks.take i).map (fun a => (hoursF rows a).length) = (ks.take i).map (hc rows) := List.map_congr_left fun a _ => hoursF_len rows a
  rw [e]
  have h : (ks.map (hc rows)).sum = ((ks.take i).map (hc rows)).sum + ((ks.drop i).map (hc rows)).sum := by
    rw [← List.sum_append, ← List.map_append, List.take_append_drop]
  omega
def spMet (C : Addr) : Sp := fun vs H Q _ => ∃ p dx lo ll lh as xs os left rows, ∃ (dw : Addr) (kvs : List (Key × V)) (ks : List Nat) (hour : Nat), vs = [.ref p, .ref dw, nV hour] ∧ SrvAt C H p dx lo ll lh as xs os left rows ∧ H dw = some (.dK kvs) ∧ kvs.map (·.1) = ks.map nK ∧ hour < rows.length ∧ rows.length ≤ 60 ∧ (ks.map (hc rows)).sum ≤ 4000 ∧
  ∀ q (ns : List Int) H', H q = none → Same H H' → H' q = some (.lst (ns.map V.int)) → ns.Pairwise (· < ·) → (∀ k, k ∈ ns ↔ ∃ h : Nat, k = (h : Int) ∧ HM rows ks hour h) → Q (.ref q) H'
section
variable {P : Program} {w : World} {K : PySem.W.Frag} {mg : Str → Option Value} {base : Heap} {A : Nat → Addr} {D : Nat → FuncData} {C : Addr} {tk : Tok}
theorem sc_Serving_hours_met : FnScope ["self", "ways", "hour", "hours", "number"] ["self", "ways", "hour"] (defScope (inClass (topS 1) 6)) := ⟨rfl, rfl, rfl, by decide +kernel, rfl, by decide +kernel, by decide +kernel⟩
theorem ok_hours_met (T : Tx K mg A D C tk) : FnOk P w K mg base CX0 2 (A 106) (D 106) ["self", "ways", "hour"] (spMet C) := by
  have G_hours_of : FnOk P w K mg base CX0 1 (A 103) (D 103) _ _ := ok_hours_of T
  refine T.f_hours_met.ok sc_Serving_hours_met (fun vs H Q E h => ?_) (fun cdv A0 outer s H vs Q E hr h => ?_)
  · obtain ⟨p, dx, lo, ll, lh, as, xs, os, left, rows, dw, kvs, ks, hour, rfl, _⟩ := h
    rfl
  · obtain ⟨p, dx, lo, ll, lh, as, xs, os, left, rows, dw, kvs, ks, hour, rfl, S, hdw, hks, hh, hrl, hsum, k⟩ := h
    have hkl : kvs.length = ks.length := by have := congrArg List.length hks; simpa using this
    refine ⟨_, (pss_cons (ps_set (i := 3) sc_Serving_hours_met.nd rfl (Or.inl rfl) (pe_lst (pa_cons (pv 2) pa_nil)))
 (pss_cons (ps_lock (ps_for PassesOwn.never rfl (pi_keys (pv 1)) (pg_name (i := 4) sc_Serving_hours_met.nd rfl (Or.inl rfl)) (pss_one (ps_expr (pe_bm PySem.F.plainAttrs_list PySem.F.slot_list_extend PySem.F.type_list_extend mt_extend (pv 3) (pa_cons (pe_meth (pv 0) T.cl T.m_hours_of G_hours_of (hr.mono (by decide)) T.b_hours_of .nil pass0 (pa_cons (pv 4) pa_nil)) pa_nil))))))
 (pss_one (ps_ret (pe_callB (cr_sortedSet rfl) (by rfl) T.sorted (by decide +kernel) (pa_cons (pe_callTy (cr_setI rfl) (by rfl) T.set (by decide +kernel) (pa_cons (pv 3) pa_nil)) pa_nil)))))), ?_⟩
    walk_at "go"
    refine ⟨by show 1 ≤ sizeLine; decide, fun l hl => ?_⟩
    have ndl : dw ≠ l := fun z => by rw [z, hl] at hdw; cases hdw
    have s0 : Same H (upd H l (.lst [nV hour])) := Same.new hl
    refine ⟨dw, _, s0 _ _ hdw, trivial, fun od => ?_⟩
    let Pv : Nat → L2.St → Hp → Prop := fun i σ H1 => ∃ (z : Option V), σ = [some (.ref p), some (.ref dw), some (nV hour), some (.ref l), z] ∧ (∀ b o, b ≠ dw → H b = some o → H1 b = some o) ∧ H1 dw = some (.frz od (.dK kvs)) ∧ SrvAt C H1 p dx lo ll lh as xs os left rows ∧
      H1 l = some (.lst ((hour :: (ks.take i).flatMap (hoursF rows)).map nV))
    refine ⟨_, rfl, dw, od, rfl, .inl ⟨kvs, upd_same, forG kvs.length Pv ?_ ?_ ?_ ?_⟩⟩
    · refine ⟨_, rfl, fun b o hb e => by rw [upd_ne hb]; exact s0 _ _ e, upd_same, (S.same s0).updD (fun _ _ _ z => by rw [s0 _ _ hdw] at z; cases z) (fun _ z => by rw [s0 _ _ hdw] at z; cases z) (fun _ z => by rw [s0 _ _ hdw] at z; cases z), ?_⟩
      rw [upd_ne ndl.symm, upd_same]
      rfl
    · rintro i σ H1 hi ⟨_, _, _, hf, _⟩
      exact ⟨hf, hi⟩
    · rintro i x σ H1 H2 hi ⟨z, rfl, hfr, hf, S1, hl1⟩ y
      obtain ⟨rfl, kk, vv, hkv, rfl⟩ := y
      obtain ⟨n, hn, rfl⟩ : ∃ n, ks[i]? = some n ∧ kk = nK n := by
        have h1 : (kvs.map (·.1))[i]? = some kk := by rw [List.getElem?_map, hkv]; rfl
        rw [hks, List.getElem?_map] at h1
        cases e : ks[i]? with
        | none => rw [e] at h1; cases h1
        | some n => rw [e] at h1; cases h1; exact ⟨n, rfl, rfl⟩
      walk_at "go"
      refine ⟨tyL hl1, ?_⟩
      refine ⟨_, rfl, p, dx, _, rfl, S1.ins, sv_ho, _, rfl, p, dx, lo, ll, lh, as, xs, os, left, rows, n, rfl, S1, fun q2 hs H3 hq2 s3 hhs dhs => ?_⟩
      have ehs := dhs_ints dhs
      subst ehs
      have hf3 := s3 _ _ hf
      have ndl3 : dw ≠ l := ndl
      refine ⟨l, q2, _, _, rfl, rfl, s3 _ _ hl1, hhs, ?_, ?_⟩
      · have h1 := fm_len ks rows i
        have h2 : (hoursF rows n).length ≤ 60 := by
          have := nodup_len (hoursF rows n) (List.range rows.length) (hoursF_nodup _ _) fun x hx => by
            obtain ⟨r, h1, _⟩ := mem_hoursF.mp hx
            exact List.mem_range.mpr (List.getElem?_eq_some_iff.mp h1).1
          rw [List.length_range] at this
          omega
        rw [List.length_map, List.length_map, List.length_cons, sizeLine_eq]
        omega
      · refine ⟨_, rfl, fun b o hb e => ?_, by rw [upd_ne ndl]; exact hf3, (S1.same s3).updL (s3 _ _ hl1) hl S, ?_⟩
        · rw [upd_ne (fun z : b = l => by rw [z, hl] at e; cases e)]
          exact s3 _ _ (hfr b o hb e)
        · rw [upd_same, List.take_add_one, hn, List.flatMap_append, ← List.map_append]
          simp
    · rintro σ H1 ⟨z, rfl, hfr, hf, S1, hl1⟩
      refine ⟨⟨hf, Nat.le_refl _⟩, hf, ?_⟩
      rw [hkl, List.take_length] at hl1
      have sH : Same H (upd H1 dw (.dK kvs)) := fun b o e => by
        by_cases hb : b = dw
        · rw [hb] at e ⊢
          rw [hdw] at e
          cases e
          exact upd_same
        · rw [upd_ne hb]; exact hfr b o hb e
      have hl2 : upd H1 dw (.dK kvs) l = some (.lst (((hour :: ks.flatMap (hoursF rows)).map (fun n : Nat => (n : Int))).map V.int)) := by
        rw [upd_ne ndl.symm, hl1, List.map_map]
        rfl
      generalize upd H1 dw (.dK kvs) = H2 at sH hl2 ⊢
      have hmem : ∀ h : Nat, h ∈ (hour :: ks.flatMap (hoursF rows)) ↔ HM rows ks hour h := fun h => by
        rw [List.mem_cons, List.mem_flatMap]
        constructor
        · rintro (z | ⟨n, hn, z⟩)
          · exact .inl z
          · obtain ⟨r, h1, h2⟩ := mem_hoursF.mp z
            exact .inr ⟨n, hn, r, h1, h2⟩
        · rintro (z | ⟨n, hn, r, h1, h2⟩)
          · exact .inl z
          · exact .inr ⟨n, hn, mem_hoursF.mpr ⟨r, h1, h2⟩⟩
      have hlt : ∀ k ∈ (hour :: ks.flatMap (hoursF rows)).map (fun n : Nat => (n : Int)), k ∈ (List.range 60).map (fun n : Nat => (n : Int)) := fun k hk => by
        obtain ⟨h, hh', rfl⟩ := List.mem_map.mp hk
        refine List.mem_map.mpr ⟨h, List.mem_range.mpr ?_, rfl⟩
        rcases (hmem h).mp hh' with z | ⟨n, _, r, h1, _⟩
        · omega
        · have := (List.getElem?_eq_some_iff.mp h1).1
          omega
      have hsz : ((hour :: ks.flatMap (hoursF rows)).map (fun n : Nat => (n : Int))).length + 1 < scanBound := by
        have h1 := fm_len ks rows ks.length
        rw [List.take_length] at h1
        rw [List.length_map, List.length_cons]
        show _ < 4096
        omega
      walk_at "go"
      refine ⟨l, _, rfl, SqL.of hl2, hsz, fun ps n hn hps => ?_⟩
      have hn60 : n < 64 := by
        have := hn _ hlt
        rw [List.length_map, List.length_range] at this
        omega
      refine ⟨ps, _, n, rfl, upd_same, hn60, fun ns q hpw hmm hlen hq => ?_⟩
      have s3 : Same H2 (upd H2 ps (SetO w ps (fun j => decide (j ∈ (hour :: ks.flatMap (hoursF rows)).map (fun n : Nat => (n : Int)))) n)) := Same.new hps
      refine k q ns _ (sH.free (s3.free hq)) (Same.new' (sH.trans s3) hq) upd_same hpw fun j => ?_
      rw [hmm j, decide_eq_true_iff, List.mem_map]
      constructor
      · rintro ⟨h, hh', rfl⟩
        exact ⟨h, rfl, (hmem h).mp hh'⟩
      · rintro ⟨h, rfl, hh'⟩
        exact ⟨h, (hmem h).mpr hh', rfl⟩
end
end K83
set_option maxRecDepth 100000
set_option maxHeartbeats 4000000
namespace K83
open PySem PySem.Spec PyProof.Rows L2
local macro_rules | `(tactic| walk_at "nz") => `(tactic| dsimp -proj only [L2.start, wipe, List.map_cons, List.map_nil, List.set, List.length, List.replicate, List.cons_append, List.nil_append, Nat.reduceSub, Nat.reduceAdd])
local macro_rules | `(tactic| walk_at "gg") => `(tactic| repeat (first | refine ⟨rfl, ?_⟩ | refine ⟨_, rfl, ?_⟩ | refine ⟨_, _, rfl, ?_⟩ | refine ⟨_, _, rfl, rfl, ?_⟩))
local macro_rules | `(tactic| walk_at "go") => `(tactic| ((try walk_at "nz"); walk_at "gg"; (try walk_at "nz")))
theorem sum_swap {α β : Type} (f : α → β → Bool) (xs : List α) : ∀ ys : List β, (xs.map fun x => ys.countP (f x)).sum = (ys.map fun y => xs.countP fun x => f x y).sum
  | [] => by
    rw [List.map_nil, List.sum_nil]
    induction xs with
    | nil => rfl
    | cons x xs ih => rw [List.map_cons, List.sum_cons, ih]; rfl
  | y :: ys => by
    rw [List.map_cons, List.sum_cons, ← sum_swap f xs ys]
    clear sum_swap
    induction xs with
    | nil => rfl
    | cons x xs ih =>
      rw [List.map_cons, List.sum_cons, List.map_cons, List.sum_cons, List.countP_cons, List.countP_cons, ih]
      omega
theorem countP_le_row {ks r : List Nat} (h : ks.Nodup) : (ks.countP fun n => decide (n ∈ r)) ≤ r.length := by
  rw [List.countP_eq_length_filter]
  exact nodup_len _ r (h.filter _) fun x hx => by simpa using (List.mem_filter.mp hx).2
theorem sum_le_sum {α : Type} {f g : α → Nat} : ∀ {l : List α}, (∀ x ∈ l, f x ≤ g x) → (l.map f).sum ≤ (l.map g).sum
  | [], _ => Nat.le_refl _
  | a :: l, h => by
    rw [List.map_cons, List.sum_cons, List.map_cons, List.sum_cons]
    exact Nat.add_le_add (h a List.mem_cons_self) (sum_le_sum fun x hx => h x (List.mem_cons_of_mem _ hx))
theorem sum_const {α : Type} (c : Nat) : ∀ l : List α, (l.map fun _ => c).sum = l.length * c
  | [] => by simp
  | a :: l => by rw [List.map_cons, List.sum_cons, sum_const c l, List.length_cons, Nat.add_mul, Nat.one_mul, Nat.add_comm]
theorem hc_sum {ks : List Nat} {rows : List (List Nat)} (h : ks.Nodup) {c : Nat} (hr : ∀ r ∈ rows, r.length ≤ c) : (ks.map (hc rows)).sum ≤ rows.length * c := by
  have e := sum_swap (fun (n : Nat) (r : List Nat) => decide (n ∈ r)) ks rows
  show (ks.map fun n => rows.countP fun r => decide (n ∈ r)).sum ≤ _
  rw [e, ← sum_const c rows]
  exact sum_le_sum fun r hr' => Nat.le_trans (countP_le_row h) (hr r hr')
theorem Sv.push {os : List Of3} {left : List Int} {rows : List (List Nat)} (S : Sv os left rows) : Sv os left (rows ++ [[]]) where
  ll := S.ll
  nd := fun r hr => (List.mem_append.mp hr).elim (S.nd r) fun z => by rw [List.mem_singleton.mp z]; exact List.nodup_nil
  av := fun h r n h1 h2 => by
    by_cases e : h < rows.length
    · rw [List.getElem?_append_left e] at h1
      exact S.av h r n h1 h2
    · rw [List.getElem?_append_right (by omega)] at h1
      have : r = [] := by simpa using List.mem_of_getElem? h1
      rw [this] at h2
      cases h2
  bal := fun n o ho => by
    have : hc (rows ++ [[]]) n = hc rows n := by
      unfold hc
      rw [List.countP_append]
      simp
    rw [this]
    exact S.bal n o ho
  pos := S.pos
/-- what lack_at tells where it tells hours -/
def Viol (os : List Of3) (rows0 : List (List Nat)) (hour many : Nat) (ns : List Int) : Prop := ∃ (left : List Int) (rows : List (List Nat)) (ks : List Nat), Sv os left rows ∧ rows.length = hour + 1 ∧ (∀ (h : Nat) (r r' : List Nat), rows0[h]? = some r → rows[h]? = some r' → r'.length = r.length) ∧
  (∀ r, rows[hour]? = some r → r.length < many) ∧ Stuck os left rows hour ks ∧ ns.Pairwise (· < ·) ∧ ∀ k, k ∈ ns ↔ ∃ h : Nat, k = (h : Int) ∧ HM rows ks hour h
def spLack (C : Addr) : Sp := fun vs H Q _ => ∃ Hb p dx lo ll lh as xs os left rows, ∃ (hour many : Nat), vs = [.ref p, nV hour, nV many] ∧ SrvB C Hb H p dx lo ll lh as xs os left rows ∧ Sv os left rows ∧ rows.length = hour ∧ hour < 60 ∧ many ≤ 20 ∧ (∀ r ∈ rows, r.length ≤ 20) ∧
  (∀ H' as' left' rows', SrvB C Hb H' p dx lo ll lh as' xs os left' rows' → Sv os left' rows' → rows'.length = hour + 1 → (∀ (h : Nat) (r r' : List Nat), rows[h]? = some r → rows'[h]? = some r' → r'.length = r.length) → (∀ r, rows'[hour]? = some r → r.length = many) → Q .non H') ∧
  ∀ q (ns : List Int) H', Hb q = none → Same Hb H' → H' q = some (.lst (ns.map V.int)) → Viol os rows hour many ns → Q (.ref q) H'
section
variable {P : Program} {w : World} {K : PySem.W.Frag} {mg : Str → Option Value} {base : Heap} {A : Nat → Addr} {D : Nat → FuncData} {C : Addr} {tk : Tok}
theorem sc_Serving_lack_at : FnScope ["self", "hour", "many", "turn", "ways", "number"] ["self", "hour", "many"] (defScope (inClass (topS 1) 7)) := ⟨rfl, rfl, rfl, by decide +kernel, rfl, by decide +kernel, by decide +kernel⟩
theorem ok_lack_at (T : Tx K mg A D C tk) : FnOk P w K mg base CX0 4 (A 107) (D 107) ["self", "hour", "many"] (spLack C) := by
  have G_way_from : FnOk P w K mg base CX0 3 (A 104) (D 104) _ _ := ok_way_from T
  have G_take : FnOk P w K mg base CX0 1 (A 105) (D 105) _ _ := ok_take T
  have G_hours_met : FnOk P w K mg base CX0 2 (A 106) (D 106) _ _ := ok_hours_met T
  refine T.f_lack_at.ok sc_Serving_lack_at (fun vs H Q E h => ?_) (fun cdv A0 outer s H vs Q E hr h => ?_)
  · obtain ⟨Hb, p, dx, lo, ll, lh, as, xs, os, left, rows, hour, many, rfl, _⟩ := h
    rfl
  · obtain ⟨Hb, p, dx, lo, ll, lh, as, xs, os, left, rows, hour, many, rfl, SB, SV, hrl, hh, hmany, hcap, k1, k2⟩ := h
    refine ⟨_, (pss_cons (ps_expr (pe_bm PySem.F.plainAttrs_list PySem.F.slot_list_append PySem.F.type_list_append mt_append (pe_fld (pv 0) rfl) (pa_cons (pe_lst pa_nil) pa_nil)))
 (pss_cons (ps_for PassesOwn.never rfl (pi_range1 (by rfl) T.range (pa_cons (pv 2) pa_nil)) (pg_name (i := 3) sc_Serving_lack_at.nd rfl (Or.inl rfl)) (pss_cons (ps_asg (pe_meth (pv 0) T.cl T.m_way_from G_way_from (hr.mono (by decide)) T.b_way_from .nil pass0 (pa_cons (pv 1) pa_nil)) (pgT K 2 rfl (pgs_cons (pg_name (i := 4) sc_Serving_lack_at.nd rfl (Or.inl rfl)) (pgs_cons (pg_name (i := 5) sc_Serving_lack_at.nd rfl (Or.inl rfl)) pgs_nil))))
 (pss_cons (ps_if (pt_cmpR op_isN (pv 5) pe_non (nomark _)) (pss_one (ps_ret (pe_meth (pv 0) T.cl T.m_hours_met G_hours_met (hr.mono (by decide)) T.b_hours_met .nil pass0 (pa_cons (pv 4) (pa_cons (pv 1) pa_nil))))) pss_nil)
 (pss_one (ps_expr (pe_meth (pv 0) T.cl T.m_take G_take (hr.mono (by decide)) T.b_take .nil pass0 (pa_cons (pv 4) (pa_cons (pv 5) pa_nil))))))))
 (pss_one (ps_ret pe_non)))), ?_⟩
    refine ⟨_, rfl, p, C, dx, _, _, rfl, SB.at_.ins, T.cl, T.n_hourly, sv_h, tyL SB.at_.hrs, ?_⟩
    refine ⟨Nat.zero_le _, fun a ha => ?_⟩
    have hrs1 : upd H a (.lst []) lh = some (.lst (as.map V.ref)) := (Same.new ha) _ _ SB.at_.hrs
    have hasl : as.length = rows.length := SB.at_.row.length
    refine ⟨lh, _, _, rfl, rfl, hrs1, by rw [List.length_map, sizeLine_eq]; omega, ?_⟩
    rw [show as.map V.ref ++ [V.ref a] = (as ++ [a]).map V.ref by rw [List.map_append]; rfl]
    have SB1 := SB.push ha (by omega)
    have SV1 : Sv os left (rows ++ [[]]) := SV.push
    generalize upd (upd H a (.lst [])) lh (.lst ((as ++ [a]).map V.ref)) = H1 at SB1 ⊢
    let Pv : Nat → L2.St → Hp → Prop := fun i σ H2 => ∃ (z1 z2 z3 : Option V) (left' : List Int) (rows' : List (List Nat)), σ = [some (.ref p), some (nV hour), some (nV many), z1, z2, z3] ∧ SrvB C Hb H2 p dx lo ll lh (as ++ [a]) xs os left' rows' ∧ Sv os left' rows' ∧
      rows'.length = hour + 1 ∧ (∀ (h : Nat) (r r' : List Nat), rows[h]? = some r → rows'[h]? = some r' → r'.length = r.length) ∧ (∀ r, rows'[hour]? = some r → r.length = i)
    refine ⟨_, rfl, (many : Int), rfl, by omega, by omega, ?_⟩
    rw [Int.toNat_natCast]
    refine for_range (lo := 0) (n := many) Pv ?_ ?_ ?_
    · refine ⟨_, _, _, left, rows ++ [[]], rfl, SB1, SV1, by rw [List.length_append, hrl]; rfl, fun h r r' h1 h2 => ?_, fun r h1 => ?_⟩
      · rw [List.getElem?_append_left (List.getElem?_eq_some_iff.mp h1).1, h1] at h2
        cases h2
        rfl
      · rw [← hrl, List.getElem?_append_right (Nat.le_refl _), Nat.sub_self] at h1
        cases h1
        rfl
    · rintro i σ H2 hi ⟨z1, z2, z3, left', rows', rfl, SB2, SV2, hl2, hlen2, hlast2⟩
      have hcap2 : ∀ r ∈ rows', r.length ≤ 20 := fun r hr => by
        obtain ⟨h, hh'⟩ := List.mem_iff_getElem?.mp hr
        have hlt := (List.getElem?_eq_some_iff.mp hh').1
        by_cases e : h = hour
        · have := hlast2 r (e ▸ hh'); omega
        · have hlt2 : h < rows.length := by omega
          rw [hlen2 h _ r (List.getElem?_eq_getElem hlt2) hh']
          exact hcap _ (List.getElem_mem hlt2)
      walk_at "go"
      refine ⟨p, dx, _, rfl, SB2.at_.ins, sv_wf, _, rfl, p, dx, lo, ll, lh, as ++ [a], xs, os, left', rows', hour, rfl, SB2.at_, SV2.ll, by omega, fun b dw kvs o G Wl H3 s3 hb hdw0 hdw hways B hpost => ?_⟩
      have SB3 := SB2.go s3
      refine ⟨_, _, rfl, SqT.of hb, rfl, ?_⟩
      walk_at "go"
      cases o with
      | none =>
        refine iteT ?_
        obtain ⟨Dl, Cl⟩ := hpost
        have ST := stuck_of B Dl Cl
        walk_at "go"
        refine ⟨p, dx, _, rfl, SB3.at_.ins, sv_hm, ?_⟩
        walk_at "go"
        have hsum : ((Wl.map (·.1)).map (hc rows')).sum ≤ 4000 := by
          have := hc_sum (c := 20) ST.nd hcap2
          omega
        refine ⟨p, dx, lo, ll, lh, as ++ [a], xs, os, left', rows', dw, kvs, Wl.map (·.1), hour, rfl, SB3.at_, hdw, by rw [hways.keys, List.map_map]; rfl, by omega, by omega, hsum, fun q ns H4 hq s4 hns hpw hmem => ?_⟩
        exact k2 q ns H4 (SB3.same.free hq) (SB3.same.trans s4) hns ⟨left', rows', Wl.map (·.1), SV2, hl2, hlen2, fun r hr' => by rw [hlast2 r hr']; exact hi, ST, hpw, hmem⟩
      | some bn =>
        refine iteF ?_
        obtain ⟨⟨j, hj⟩, hpos⟩ := hpost
        walk_at "go"
        refine ⟨p, dx, _, rfl, SB3.at_.ins, sv_tk, ?_⟩
        walk_at "go"
        refine ⟨Hb, p, dx, lo, ll, lh, as ++ [a], xs, os, left', rows', dw, kvs, G, Wl, hour, bn, j, rfl, SB3, SV2, hdw, hways, B, hj, hpos, fun r hr => by have := hcap2 r hr; omega, fun H4 rows2 SB4 SV4 hl4 hlen4 => ?_⟩
        refine ⟨_, _, _, _, rows2, rfl, SB4, SV4, by omega, fun h r r' h1 h2 => ?_, fun r h1 => ?_⟩
        · have hlt : h < rows.length := (List.getElem?_eq_some_iff.mp h1).1
          have hlt2 : h < rows'.length := by omega
          have q := hlen4 h _ r' (List.getElem?_eq_getElem hlt2) h2
          rw [if_neg (by omega)] at q
          rw [q, Nat.add_zero]
          exact hlen2 h r _ h1 (List.getElem?_eq_getElem hlt2)
        · have hlt2 : hour < rows'.length := by omega
          have q := hlen4 hour _ r (List.getElem?_eq_getElem hlt2) h1
          rw [if_pos rfl, hlast2 _ (List.getElem?_eq_getElem hlt2)] at q
          exact q
    · rintro σ H2 ⟨z1, z2, z3, left', rows', rfl, SB2, SV2, hl2, hlen2, hlast2⟩
      exact k1 H2 _ left' rows' SB2 SV2 hl2 hlen2 hlast2
end
end K83
set_option maxRecDepth 100000
set_option maxHeartbeats 4000000
namespace K83
open PySem PySem.Spec PyProof.Rows L2
/-! ### Hall's count -/
/-- rows that serve what is wanted -/
structure VR (os : List Of3) (wants : List Nat) (rows : List (List Nat)) : Prop where
  len : rows.length = wants.length
  nd : ∀ r ∈ rows, r.Nodup
  av : ∀ (h : Nat) (r : List Nat) (n : Nat), rows[h]? = some r → n ∈ r → ∃ o : Of3, os[n]? = some o ∧ o.b ≤ (h : Int) ∧ (h : Int) < o.e
  size : ∀ (h : Nat) (r : List Nat) (w : Nat), rows[h]? = some r → wants[h]? = some w → r.length = w
  cap : ∀ (n : Nat) (o : Of3), os[n]? = some o → (hc rows n : Int) ≤ o.g
def workB (o : Of3) (k : Int) : Bool := decide (o.b ≤ k) && decide (k < o.e)
def roomOf (ns : List Int) (o : Of3) : Int := min o.g ((ns.countP (workB o) : Nat) : Int)
def roomI (os : List Of3) (ns : List Int) : Int := (os.map (roomOf ns)).sum
def wantS (wants : List Nat) (ns : List Int) : Nat := (ns.map fun k => wants.getD k.toNat 0).sum
/-- what served tells where it does not serve -/
structure Lack (os : List Of3) (wants : List Nat) (hour : Nat) (ns : List Int) : Prop where
  lt : hour < wants.length
  up : ns.Pairwise (· < ·)
  ne : ns ≠ []
  rng : ∀ k ∈ ns, 0 ≤ k ∧ k ≤ hour
  less : roomI os ns < (wantS wants ns : Int)
  early : ∃ rows, VR os (wants.take hour) rows
theorem len_count {N : Nat} {r : List Nat} (h : r.Nodup) (hb : ∀ n ∈ r, n < N) : r.length = (List.range N).countP fun n => decide (n ∈ r) := by
  rw [List.countP_eq_length_filter]
  refine Nat.le_antisymm (nodup_len r _ h fun x hx => ?_) (nodup_len _ r (List.nodup_range.filter _) fun x hx => ?_)
  · rw [List.mem_filter, List.mem_range]
    exact ⟨hb x hx, by simpa using hx⟩
  · simpa using (List.mem_filter.mp hx).2
theorem sum_range_le : ∀ {os : List Of3} {F : Of3 → Int} {G : Nat → Nat}, (∀ n o, os[n]? = some o → F o ≤ (G n : Int)) → (os.map F).sum ≤ ((((List.range os.length).map G).sum : Nat) : Int)
  | [], _, _, _ => by simp
  | o :: os, F, G, h => by
    have h0 := h 0 o rfl
    have ih := sum_range_le (os := os) (F := F) (G := fun n => G (n + 1)) fun n o' h' => h (n + 1) o' (by simpa using h')
    rw [List.map_cons, List.sum_cons, List.length_cons, List.range_succ_eq_map, List.map_cons, List.sum_cons, List.map_map]
    have e : (List.range os.length).map (G ∘ Nat.succ) = (List.range os.length).map fun n => G (n + 1) := rfl
    rw [e]
    omega
theorem sum_range_ge : ∀ {os : List Of3} {F : Of3 → Int} {G : Nat → Nat}, (∀ n o, os[n]? = some o → (G n : Int) ≤ F o) → ((((List.range os.length).map G).sum : Nat) : Int) ≤ (os.map F).sum
  | [], _, _, _ => by simp
  | o :: os, F, G, h => by
    have h0 := h 0 o rfl
    have ih := sum_range_ge (os := os) (F := F) (G := fun n => G (n + 1)) fun n o' h' => h (n + 1) o' (by simpa using h')
    rw [List.map_cons, List.sum_cons, List.length_cons, List.range_succ_eq_map, List.map_cons, List.sum_cons, List.map_map]
    have e : (List.range os.length).map (G ∘ Nat.succ) = (List.range os.length).map fun n => G (n + 1) := rfl
    rw [e]
    omega
def rowAt (rows : List (List Nat)) (k : Int) : List Nat := rows.getD k.toNat []
theorem rowAt_get {rows : List (List Nat)} {k : Int} {n : Nat} (h : n ∈ rowAt rows k) : ∃ r, rows[k.toNat]? = some r ∧ n ∈ r := by
  unfold rowAt at h
  rw [List.getD_eq_getElem?_getD] at h
  cases e : rows[k.toNat]? with
  | none => rw [e] at h; cases h
  | some r => rw [e] at h; exact ⟨r, rfl, h⟩
/-- the places taken, counted by the hours and by the turns -/
theorem places {os : List Of3} {rows : List (List Nat)} (nd : ∀ r ∈ rows, r.Nodup) (av : ∀ (h : Nat) (r : List Nat) (n : Nat), rows[h]? = some r → n ∈ r → ∃ o : Of3, os[n]? = some o ∧ o.b ≤ (h : Int) ∧ (h : Int) < o.e) (ns : List Int) :
    (ns.map fun k => (rowAt rows k).length).sum = ((List.range os.length).map fun n => ns.countP fun k => decide (n ∈ rowAt rows k)).sum := by
  rw [sum_swap (fun (n : Nat) (k : Int) => decide (n ∈ rowAt rows k)) (List.range os.length) ns]
  congr 1
  refine List.map_congr_left fun k _ => ?_
  unfold rowAt
  rw [List.getD_eq_getElem?_getD]
  cases e : rows[k.toNat]? with
  | none =>
    show (0 : Nat) = _
    rw [eq_comm, List.countP_eq_zero]
    intro x _
    simp
  | some r =>
    refine len_count (nd r (List.mem_of_getElem? e)) fun n hn => ?_
    obtain ⟨o, ho, _⟩ := av _ r n e hn
    exact (List.getElem?_eq_some_iff.mp ho).1
/-- served rows leave room -/
theorem hall {os : List Of3} {wants : List Nat} {rows : List (List Nat)} (v : VR os wants rows) {ns : List Int} (up : ns.Pairwise (· < ·)) (rng : ∀ k ∈ ns, 0 ≤ k ∧ k < (wants.length : Int)) : (wantS wants ns : Int) ≤ roomI os ns := by
  have hn : ns.Nodup := up.imp fun h => by omega
  have e : wantS wants ns = (ns.map fun k => (rowAt rows k).length).sum := by
    unfold wantS
    congr 1
    refine List.map_congr_left fun k hk => ?_
    have h1 := rng k hk
    have hlt : k.toNat < wants.length := by omega
    have hlr : k.toNat < rows.length := by rw [v.len]; exact hlt
    unfold rowAt
    rw [List.getD_eq_getElem?_getD, List.getD_eq_getElem?_getD, List.getElem?_eq_getElem hlt, List.getElem?_eq_getElem hlr]
    exact (v.size k.toNat _ _ (List.getElem?_eq_getElem hlr) (List.getElem?_eq_getElem hlt)).symm
  rw [e, places v.nd v.av ns]
  refine sum_range_ge fun n o ho => ?_
  have h1 : (ns.countP fun k => decide (n ∈ rowAt rows k)) ≤ ns.countP (workB o) := by
    refine List.countP_mono_left fun k hk hm => ?_
    obtain ⟨r, hr, hnr⟩ := rowAt_get (by simpa using hm)
    obtain ⟨o', ho', h2, h3⟩ := v.av _ r n hr hnr
    rw [ho] at ho'
    cases ho'
    have := rng k hk
    show (decide (o.b ≤ k) && decide (k < o.e)) = true
    rw [decide_eq_true (show o.b ≤ k by omega), decide_eq_true (show k < o.e by omega)]
    rfl
  have h2 : (ns.countP fun k => decide (n ∈ rowAt rows k)) ≤ hc rows n := by
    rw [← hoursF_len, List.countP_eq_length_filter]
    have := nodup_len ((ns.filter fun k => decide (n ∈ rowAt rows k)).map Int.toNat) (hoursF rows n) (by
      unfold List.Nodup
      rw [List.pairwise_map]
      refine (hn.filter _).imp_of_mem fun {a b} ha hb hab z => hab ?_
      have h1 := rng a (List.mem_filter.mp ha).1
      have h2 := rng b (List.mem_filter.mp hb).1
      omega) fun x hx => by
        obtain ⟨k, hk, rfl⟩ := List.mem_map.mp hx
        obtain ⟨r, hr, hnr⟩ := rowAt_get (by simpa using (List.mem_filter.mp hk).2)
        exact mem_hoursF.mpr ⟨r, hr, hnr⟩
    rw [List.length_map] at this
    exact this
  have h3 := v.cap n o ho
  show _ ≤ min o.g _
  omega
/-- where none can give any more, less is wanted to be there than is wanted -/
theorem stuck_less {os : List Of3} {left : List Int} {rows : List (List Nat)} {hour : Nat} {ks : List Nat} {ns : List Int} {wants : List Nat} (SV : Sv os left rows) (ST : Stuck os left rows hour ks) (hl : rows.length = hour + 1) (hw : hour < wants.length)
    (hlen : ∀ (h : Nat) (r : List Nat), h < hour → rows[h]? = some r → r.length = wants.getD h 0) (hlast : ∀ r, rows[hour]? = some r → r.length < wants.getD hour 0)
    (up : ns.Pairwise (· < ·)) (hm : ∀ k, k ∈ ns ↔ ∃ h : Nat, k = (h : Int) ∧ HM rows ks hour h) : roomI os ns < (wantS wants ns : Int) := by
  have hn : ns.Nodup := up.imp fun h => by omega
  have hin : (hour : Int) ∈ ns := (hm _).mpr ⟨hour, rfl, .inl rfl⟩
  have lt : (ns.map fun k => (rowAt rows k).length).sum < wantS wants ns := by
    have hle : ∀ k ∈ ns, (rowAt rows k).length ≤ wants.getD k.toNat 0 := fun k hk => by
      obtain ⟨h, rfl, hh⟩ := (hm k).mp hk
      have hlt := ST.lt h hh
      unfold rowAt
      rw [List.getD_eq_getElem?_getD, Int.toNat_natCast, List.getElem?_eq_getElem hlt]
      by_cases e : h = hour
      · subst e
        exact Nat.le_of_lt (hlast _ (List.getElem?_eq_getElem hlt))
      · exact Nat.le_of_eq (hlen h _ (by omega) (List.getElem?_eq_getElem hlt))
    have hst : (rowAt rows (hour : Int)).length < wants.getD (hour : Int).toNat 0 := by
      have hlt : hour < rows.length := by omega
      unfold rowAt
      rw [List.getD_eq_getElem?_getD, Int.toNat_natCast, List.getElem?_eq_getElem hlt]
      exact hlast _ (List.getElem?_eq_getElem hlt)
    obtain ⟨s, t, e⟩ := List.append_of_mem hin
    unfold wantS
    rw [e] at hle ⊢
    rw [List.map_append, List.sum_append, List.map_append, List.sum_append, List.map_cons, List.sum_cons, List.map_cons, List.sum_cons]
    have h1 := sum_le_sum (l := s) fun x hx => hle x (List.mem_append_left _ hx)
    have h2 := sum_le_sum (l := t) fun x hx => hle x (List.mem_append_right _ (List.mem_cons_of_mem _ hx))
    omega
  rw [places SV.nd SV.av ns] at lt
  refine Int.lt_of_le_of_lt (sum_range_le (os := os) (G := fun n => ns.countP fun k => decide (n ∈ rowAt rows k)) fun n o ho => ?_) (by exact_mod_cast lt)
  have hno : n < os.length := (List.getElem?_eq_some_iff.mp ho).1
  by_cases hk : n ∈ ks
  · -- all its hours are among ns
    have h1 : hc rows n ≤ ns.countP fun k => decide (n ∈ rowAt rows k) := by
      rw [← hoursF_len, List.countP_eq_length_filter]
      have := nodup_len ((hoursF rows n).map fun h : Nat => (h : Int)) (ns.filter fun k => decide (n ∈ rowAt rows k)) (by
        unfold List.Nodup
        rw [List.pairwise_map]
        exact (hoursF_nodup rows n).imp fun {a b} hab z => hab (by omega)) fun x hx => by
          obtain ⟨h, hh, rfl⟩ := List.mem_map.mp hx
          obtain ⟨r, hr, hnr⟩ := mem_hoursF.mp hh
          refine List.mem_filter.mpr ⟨(hm _).mpr ⟨h, rfl, .inr ⟨n, hk, r, hr, hnr⟩⟩, ?_⟩
          unfold rowAt
          rw [List.getD_eq_getElem?_getD, Int.toNat_natCast, hr]
          simpa using hnr
      rw [List.length_map] at this
      exact this
    have h2 := SV.bal n o ho
    have h3 := ST.full n hk
    show min o.g _ ≤ _
    omega
  · have h1 : ns.countP (workB o) ≤ ns.countP fun k => decide (n ∈ rowAt rows k) := by
      refine List.countP_mono_left fun k hkn hwk => ?_
      obtain ⟨h, rfl, hh⟩ := (hm k).mp hkn
      have hlt := ST.lt h hh
      have hw1 : o.b ≤ (h : Int) ∧ (h : Int) < o.e := by
        have : (decide (o.b ≤ (h : Int)) && decide ((h : Int) < o.e)) = true := hwk
        simpa using this
      unfold rowAt
      rw [List.getD_eq_getElem?_getD, Int.toNat_natCast, List.getElem?_eq_getElem hlt]
      show decide (n ∈ rows[h]) = true
      rw [decide_eq_true_iff]
      refine Classical.byContradiction fun z => hk ?_
      exact ST.all h _ hh (List.getElem?_eq_getElem hlt) n (mem_untaken.mpr ⟨⟨o, ho, hw1⟩, z⟩)
    show min o.g _ ≤ _
    omega
end K83
set_option maxRecDepth 100000
set_option maxHeartbeats 4000000
namespace K83
open PySem PySem.Spec PyProof.Rows L2
local macro_rules | `(tactic| walk_at "nz") => `(tactic| dsimp -proj only [L2.start, wipe, List.map_cons, List.map_nil, List.set, List.length, List.replicate, List.cons_append, List.nil_append, Nat.reduceSub, Nat.reduceAdd])
local macro_rules | `(tactic| walk_at "gg") => `(tactic| repeat (first | refine ⟨rfl, ?_⟩ | refine ⟨_, rfl, ?_⟩ | refine ⟨_, _, rfl, ?_⟩ | refine ⟨_, _, rfl, rfl, ?_⟩))
local macro_rules | `(tactic| walk_at "go") => `(tactic| ((try walk_at "nz"); walk_at "gg"; (try walk_at "nz")))
theorem srt_nat {X : Cx} {k : Nat} (hr : Room k X.A) : CallR X (.builtin "sorted") (rSortD nD) :=
  cr_sortD nD hr.units (fun _ _ => rfl) (.inr fun _ => ⟨(by intro z; cases z), (by intro _ z; cases z)⟩) (fun _ => by simp [nD, PyData.depth])
def sortN (r : List Nat) : List Nat := r.mergeSort (PySem.W.dataLe false nD)
theorem sortN_perm (r : List Nat) : (sortN r).Perm r := List.mergeSort_perm _ _
theorem VR.sorted {os : List Of3} {wants : List Nat} {rows : List (List Nat)} (v : VR os wants rows) : VR os wants (rows.map sortN) where
  len := by rw [List.length_map]; exact v.len
  nd := fun r hr => by
    obtain ⟨q, hq, rfl⟩ := List.mem_map.mp hr
    exact (sortN_perm q).nodup_iff.mpr (v.nd q hq)
  av := fun h r n h1 h2 => by
    rw [List.getElem?_map] at h1
    cases e : rows[h]? with
    | none => rw [e] at h1; cases h1
    | some q =>
      rw [e] at h1
      cases h1
      exact v.av h q n e ((sortN_perm q).mem_iff.mp h2)
  size := fun h r w h1 h2 => by
    rw [List.getElem?_map] at h1
    cases e : rows[h]? with
    | none => rw [e] at h1; cases h1
    | some q =>
      rw [e] at h1
      cases h1
      rw [(sortN_perm q).length_eq]
      exact v.size h q w e h2
  cap := fun n o ho => by
    have : hc (rows.map sortN) n = hc rows n := by
      unfold hc
      rw [List.countP_map]
      refine List.countP_congr fun r _ => ?_
      show decide (n ∈ sortN r) = true ↔ decide (n ∈ r) = true
      rw [decide_eq_true_iff, decide_eq_true_iff]
      exact (sortN_perm r).mem_iff
    rw [this]
    exact v.cap n o ho
theorem Sv.vr {os : List Of3} {left : List Int} {rows : List (List Nat)} (S : Sv os left rows) {wants : List Nat} (hl : rows.length = wants.length) (hs : ∀ (h : Nat) (r : List Nat) (w : Nat), rows[h]? = some r → wants[h]? = some w → r.length = w) : VR os wants rows where
  len := hl
  nd := S.nd
  av := S.av
  size := hs
  cap := fun n o ho => by
    have h1 := S.bal n o ho
    have h2 := S.pos n (List.getElem?_eq_some_iff.mp ho).1
    omega
theorem Sv.start {os : List Of3} (h : ∀ o ∈ os, 0 ≤ o.g) : Sv os (os.map (·.g)) [] where
  ll := List.length_map ..
  nd := fun _ z => nomatch z
  av := fun h r n z => by simp at z
  bal := fun n o ho => by
    rw [List.getD_eq_getElem?_getD, List.getElem?_map, ho]
    show o.g + ((hc [] n : Nat) : Int) = o.g
    simp [hc]
  pos := fun n hn => by
    rw [List.getD_eq_getElem?_getD, List.getElem?_map, List.getElem?_eq_getElem hn]
    exact h _ (List.getElem_mem hn)
theorem Viol.lack {os : List Of3} {rows0 : List (List Nat)} {hour many : Nat} {ns : List Int} {wants : List Nat} {left0 : List Int} (v : Viol os rows0 hour many ns) (S0 : Sv os left0 rows0) (hl : rows0.length = hour) (hs : ∀ (h : Nat) (r : List Nat) (w : Nat), rows0[h]? = some r → wants[h]? = some w → r.length = w)
    (hw : wants[hour]? = some many) : Lack os wants hour ns := by
  obtain ⟨left, rows, ks, SV, hl1, hlen, hlast, ST, up, hm⟩ := v
  have hwl : hour < wants.length := (List.getElem?_eq_some_iff.mp hw).1
  have hin : (hour : Int) ∈ ns := (hm _).mpr ⟨hour, rfl, .inl rfl⟩
  refine ⟨hwl, up, fun z => (by rw [z] at hin; cases hin), fun k hk => ?_, ?_, rows0, ?_⟩
  · obtain ⟨h, rfl, hh⟩ := (hm k).mp hk
    have := ST.lt h hh
    omega
  · refine stuck_less SV ST hl1 hwl (fun h r hh hr => ?_) (fun r hr => ?_) up hm
    · have h0 : h < rows0.length := by omega
      have h1 : h < wants.length := by omega
      rw [hlen h _ r (List.getElem?_eq_getElem h0) hr, hs h _ _ (List.getElem?_eq_getElem h0) (List.getElem?_eq_getElem h1), List.getD_eq_getElem?_getD, List.getElem?_eq_getElem h1]
      rfl
    · rw [List.getD_eq_getElem?_getD, hw]
      exact hlast r hr
  · refine S0.vr (by rw [List.length_take]; omega) fun h r w h1 h2 => ?_
    rw [List.getElem?_take] at h2
    by_cases e : h < hour
    · rw [if_pos e] at h2
      exact hs h r w h1 h2
    · rw [if_neg e] at h2
      cases h2
def spServed : Sp := fun vs H Q _ => ∃ lo xs os uw wants, vs = [.ref lo, .ref uw] ∧ H lo = some (.lst xs) ∧ DvAll H (os.map of3D) xs ∧ os.length ≤ 100000 ∧ (∀ o ∈ os, 0 ≤ o.g) ∧ H uw = some (.lst (wants.map nV)) ∧ wants.length ≤ 60 ∧ (∀ w ∈ wants, w ≤ 20) ∧
  (∀ a q rs rows H', Same H H' → H' a = some (.tup [.ref q, .non]) → H' q = some (.lst rs) → DvAll H' (rows.map rowD) rs → VR os wants rows → Q (.ref a) H') ∧
  ∀ a b q ns hour H', H q = none → Same H H' → H' a = some (.tup [.non, .ref b]) → H' b = some (.tup [nV hour, .ref q]) → H' q = some (.lst (ns.map V.int)) → Lack os wants hour ns → Q (.ref a) H'
section
variable {P : Program} {w : World} {K : PySem.W.Frag} {mg : Str → Option Value} {base : Heap} {A : Nat → Addr} {D : Nat → FuncData} {C : Addr} {tk : Tok}
theorem sc_served : FnScope ["offers", "wants", "serving", "hour", "many", "hours", "row"] ["offers", "wants"] (defScope (topS 2)) := ⟨rfl, rfl, rfl, by decide +kernel, rfl, by decide +kernel, by decide +kernel⟩
theorem ok_served (T : Tx K mg A D C tk) : FnOk P w K mg base CX0 5 (A 2) (D 2) ["offers", "wants"] spServed := by
  have G_init : FnOk P w K mg base CX0 1 (A 100) (D 100) _ _ := ok_init T
  have G_lack_at : FnOk P w K mg base CX0 4 (A 107) (D 107) _ _ := ok_lack_at T
  refine T.d_served.fn.ok sc_served (fun vs H Q E h => ?_) (fun cdv A0 outer s H vs Q E hr h => ?_)
  · obtain ⟨lo, xs, os, uw, wants, rfl, _⟩ := h
    rfl
  · obtain ⟨lo, xs, os, uw, wants, rfl, hlo, hxs, hol, hog, huw, hwl, hwm, k1, k2⟩ := h
    refine ⟨_, (pss_cons (ps_set (i := 2) sc_served.nd rfl (Or.inl rfl) (pe_make T.mkS G_init (hr.mono (by decide)) rfl T.mgC T.b_init .nil pass0 (pa_cons (pv 0) pa_nil)))
 (pss_cons (ps_for PassesOwn.never rfl (piE K (by rfl) T.enumerate (pa_cons (pv 1) pa_nil)) (pgT K 2 rfl (pgs_cons (pg_name (i := 3) sc_served.nd rfl (Or.inl rfl)) (pgs_cons (pg_name (i := 4) sc_served.nd rfl (Or.inl rfl)) pgs_nil))) (pss_cons (ps_set (i := 5) sc_served.nd rfl (Or.inl rfl) (pe_meth (pv 2) T.cl T.m_lack_at G_lack_at (hr.mono (by decide)) T.b_lack_at .nil pass0 (pa_cons (pv 3) (pa_cons (pv 4) pa_nil))))
 (pss_one (ps_if (pt_cmpR op_notN (pv 5) pe_non (nomark _)) (pss_one (ps_ret (pe_tup (pa_cons pe_non (pa_cons (pe_tup (pa_cons (pv 3) (pa_cons (pv 5) pa_nil))) pa_nil))))) pss_nil))))
 (pss_one (ps_ret (pe_tup (pa_cons (pe_lc (own := [("row", 6)]) rfl sc_served.nd (piL K (pe_fld (pv 2) rfl)) (blkOk_by (N := ["offers", "wants", "serving", "hour", "many", "hours", "row"]) (sc := defScope (topS 2)) (by decide +kernel)) (fun _ _ _ _ _ => (pg_name (i := 6) sc_served.nd rfl (Or.inl rfl))) (fun _ _ _ _ _ => pts_nil) (fun _ _ _ _ _ => (pe_callB (srt_nat hr) (by rfl) T.sorted (by decide +kernel) (pa_cons (pv 6) pa_nil)))) (pa_cons pe_non pa_nil))))))), ?_⟩
    refine ⟨_, rfl, fun p dx hp hdx hne => ?_⟩
    have hne' : p ≠ dx := hne.symm
    have sH : Same H (upd (upd H dx (.own p)) p (.ins C dx [])) := Same.mut (Same.mut (Same.refl H) hdx) hp
    refine ⟨p, dx, lo, xs, os, rfl, upd_same, sH _ _ hlo, hxs.same sH, hol, fun ll lh H1 hfr hll hlh hlne S1 => ⟨rfl, ?_⟩⟩
    have nfree : ∀ a, upd (upd H dx (.own p)) p (.ins C dx []) a = none → H a = none := fun a ha => sH.free ha
    have s1 : Same H H1 := fun b o e => hfr b o (fun z => by rw [z, hp] at e; cases e) (sH _ _ e)
    have SB1 : SrvB C H H1 p dx lo ll lh [] xs os (os.map (·.g)) [] := ⟨S1, s1, hp, nfree _ hll, nfree _ hlh, (fun _ z => nomatch z), hlo, hxs, List.nodup_nil, (fun z => nomatch z), (fun z => nomatch z), hlne⟩
    have duw : DvAll H (wants.map nD) (wants.map nV) := by
      have := DvAll.ints (H := H) (wants.map (fun n : Nat => (n : Int)))
      rw [List.map_map, List.map_map] at this
      exact this
    obtain ⟨g1, g2, g3⟩ := src_b (K := K) (e := nD) huw duw
    let Pv : Nat → L2.St → Hp → Prop := fun i σ H2 => ∃ (z1 z2 z3 z4 : Option V) (as : List Addr) (left : List Int) (rows : List (List Nat)), σ = [some (.ref lo), some (.ref uw), some (.ref p), z1, z2, z3, z4] ∧ SrvB C H H2 p dx lo ll lh as xs os left rows ∧ Sv os left rows ∧ rows.length = i ∧
      (∀ (h : Nat) (r : List Nat) (w : Nat), rows[h]? = some r → wants[h]? = some w → r.length = w)
    refine ⟨_, rfl, uw, _, rfl, SqL.of (s1 _ _ huw), forG wants.zipIdx.length Pv ?_ ?_ ?_ ?_⟩
    · exact ⟨_, _, _, _, [], _, [], rfl, SB1, Sv.start hog, rfl, fun h r w z => by simp at z⟩
    · rintro i σ H2 hi ⟨_, _, _, _, _, _, _, _, SB2, _⟩
      exact g1 i _ H2 (List.getElem?_eq_getElem hi) SB2.same
    · rintro i x σ H2 H3 hi ⟨z1, z2, z3, z4, as, left, rows, rfl, SB2, SV2, hrl, hsz⟩ y
      have ht0 := List.getElem?_eq_getElem hi
      obtain ⟨s3, T0, z, rfl, hT, dz⟩ := g2 i _ H2 x H3 ht0 SB2.same y
      generalize wants.zipIdx[i] = q at ht0 hT dz
      obtain ⟨many, i'⟩ := q
      obtain ⟨hmem, rfl⟩ := zip_mem ht0
      cases dz
      rw [List.length_zipIdx] at hi
      have SB3 := SB2.go s3
      refine ⟨_, _, rfl, SqT.of hT, rfl, ?_⟩
      walk_at "go"
      refine ⟨p, dx, _, rfl, SB3.at_.ins, sv_la, ?_⟩
      walk_at "go"
      refine ⟨H, p, dx, lo, ll, lh, as, xs, os, left, rows, i', many, rfl, SB3, SV2, hrl, by omega, hwm _ (List.mem_of_getElem? hmem), fun r hr => ?_, fun H4 as' left' rows' SB4 SV4 hl4 hlen4 hlast4 => ?_, fun q ns H4 hq s4 hns hv => ?_⟩
      · obtain ⟨h, hh⟩ := List.mem_iff_getElem?.mp hr
        have hlt := (List.getElem?_eq_some_iff.mp hh).1
        have hlw : h < wants.length := by omega
        rw [hsz h r _ hh (List.getElem?_eq_getElem hlw)]
        exact hwm _ (List.getElem_mem hlw)
      · walk_at "go"
        refine ⟨_, _, _, _, as', left', rows', rfl, SB4, SV4, hl4, fun h r w h1 h2 => ?_⟩
        have hlt := (List.getElem?_eq_some_iff.mp h1).1
        by_cases e : h = i'
        · subst e
          rw [hmem] at h2
          cases h2
          exact hlast4 r h1
        · have hlt2 : h < rows.length := by omega
          rw [hlen4 h _ r (List.getElem?_eq_getElem hlt2) h1]
          exact hsz h _ w (List.getElem?_eq_getElem hlt2) h2
      · walk_at "go"
        refine ⟨by show 2 ≤ sizeLine; decide, fun b hb => ?_⟩
        refine ⟨by show 2 ≤ sizeLine; decide, fun a ha => ?_⟩
        have sb : Same H4 (upd H4 b (.tup [nV i', .ref q])) := Same.new hb
        have sa : Same (upd H4 b (.tup [nV i', .ref q])) (upd (upd H4 b (.tup [nV i', .ref q])) a (.tup [.non, .ref b])) := Same.new ha
        exact k2 a b q ns i' _ hq (s4.trans (sb.trans sa)) upd_same (sa _ _ upd_same) (sa _ _ (sb _ _ hns)) (hv.lack SV2 hrl hsz hmem)
    · rintro σ H2 ⟨z1, z2, z3, z4, as, left, rows, rfl, SB2, SV2, hrl, hsz⟩
      rw [List.length_zipIdx] at hrl
      refine ⟨g3 H2 SB2.same, ?_⟩
      have V2 := SV2.vr hrl hsz
      refine ⟨_, rfl, p, C, dx, _, _, rfl, SB2.at_.ins, T.cl, T.n_hourly, sv_h, _, rfl, ⟨_, SqL.of SB2.at_.hrs⟩, ?_⟩
      obtain ⟨f1, f2, f3⟩ := src_l (K := K) (e := rowD) SB2.at_.hrs SB2.at_.rowsD
      refine lcGL (e2 := nD) rows sortN (fun t x H => Dv H (rowD t) x) (fun _ => rfl) (by have := SB2.at_.len.2.1; omega) f1 f2 f3 ?_ ?_
      · intro r x H3 N M _ sm dx' hy
        obtain ⟨a, rfl, ha⟩ := row_dv dx'
        walk_at "go"
        have da : DvAll H3 (r.map nD) (r.map nV) := by
          have := DvAll.ints (H := H3) (r.map (fun n : Nat => (n : Int)))
          rw [List.map_map, List.map_map] at this
          exact this
        have goal : rSortD nD [.ref a] H3 N := ⟨a, r, _, rfl, ha, da, fun ys q dq hq => hy q ys _ hq (Same.new hq) upd_same (dq.same (Same.new hq))⟩
        exact goal
      · intro q rs H3 hq s3 hrs drs
        walk_at "go"
        refine ⟨by show 2 ≤ sizeLine; decide, fun a ha => ?_⟩
        have sa : Same H3 (upd H3 a (.tup [.ref q, .non])) := Same.new ha
        refine k1 a q rs (rows.map sortN) _ (SB2.same.trans (s3.trans sa)) upd_same (sa _ _ hrs) ?_ V2.sorted
        rw [List.map_map]
        exact DvAll.same sa drs
end
end K83
set_option maxRecDepth 100000
set_option maxHeartbeats 4000000
namespace K83
open PySem PySem.Spec PyProof.Rows L2
local macro_rules | `(tactic| walk_at "nz") => `(tactic| dsimp -proj only [L2.start, wipe, List.map_cons, List.map_nil, List.set, List.length, List.replicate, List.cons_append, List.nil_append, Nat.reduceSub, Nat.reduceAdd])
local macro_rules | `(tactic| walk_at "gg") => `(tactic| repeat (first | refine ⟨rfl, ?_⟩ | refine ⟨_, rfl, ?_⟩ | refine ⟨_, _, rfl, ?_⟩ | refine ⟨_, _, rfl, rfl, ?_⟩))
local macro_rules | `(tactic| walk_at "go") => `(tactic| ((try walk_at "nz"); walk_at "gg"; (try walk_at "nz")))
section
variable {α β : Type} {J : It} {g : TG} {tt : TT} {te : TE} {vs : List Nat} {σ : L2.St} {H : Hp} {Q : Addr → Hp → Prop}
/-- the elements are new lists -/
theorem lcGLf {γ : Type} {e2 : γ → PyData} (ts : List α) (sel : α → List γ) (Pi : α → V → Hp → Prop) (hn : ∀ b, noList (e2 b) = true) (hl : ts.length ≤ 100000)
    (go : ∀ i t H1, ts[i]? = some t → Same H H1 → J.go i H1) (yld : ∀ i t H1 x H2, ts[i]? = some t → Same H H1 → J.yld i H1 x H2 → Same H1 H2 ∧ Pi t x H2) (stop : ∀ H1, Same H H1 → J.stop ts.length H1)
    (turn : ∀ t x H1 (N : V → Hp → Prop) (M : Hp → Prop), t ∈ ts → Same H H1 → Pi t x H1 → (∀ p ys H4, H1 p = none → Same H1 H4 → H4 p = some (.lst ys) → DvAll H4 ((sel t).map e2) ys → N (.ref p) H4) →
      g x (wipe σ vs) H1 fun σ2 H2 => wipe σ2 vs = wipe σ vs ∧ tt σ2 H2 fun b H3 => if b = true then te σ2 H3 N else M H3)
    (done : ∀ p xs H', H p = none → Same H H' → H' p = some (.lst xs) → Paired (fun (t : α) (v : V) => ∃ p ys, v = .ref p ∧ H p = none ∧ H' p = some (.lst ys) ∧ DvAll H' ((sel t).map e2) ys) ts xs → Q p H') : LcGoal J g tt te vs σ H Q := by
  intro D hD
  let Rows : Hp → List α → List V → Prop := fun H1 us acc => Paired (fun (t : α) (v : V) => ∃ p ys, v = .ref p ∧ (p ≠ D ∧ H p = none) ∧ H1 p = some (.lst ys) ∧ DvAll H1 ((sel t).map e2) ys) us acc
  have rsame : ∀ {H1 H2 : Hp} {us acc}, Same H1 H2 → Rows H1 us acc → Rows H2 us acc := fun {H1 H2 us acc} s r => by
    induction r with
    | nil => exact .nil
    | cons h _ ih =>
      obtain ⟨p, ys, e, n, h1, h2⟩ := h
      exact .cons ⟨p, ys, e, n, s _ _ h1, DvAll.same s h2⟩ ih
  have rupd : ∀ {H1 : Hp} {us acc zs o}, H1 D = some (.lst zs) → Rows H1 us acc → Rows (upd H1 D o) us acc := fun {H1 us acc zs o} hz r => by
    induction r with
    | nil => exact .nil
    | cons h _ ih =>
      obtain ⟨p, ys, e, n, h1, h2⟩ := h
      exact .cons ⟨p, ys, e, n, by rw [upd_ne n.1]; exact h1, DvAll.upd (notup_l hz) (noLA hn _) h2⟩ ih
  have rdv : ∀ {H1 : Hp} {us acc}, Rows H1 us acc → Paired (fun (t : α) (v : V) => ∃ p ys, v = .ref p ∧ H p = none ∧ H1 p = some (.lst ys) ∧ DvAll H1 ((sel t).map e2) ys) us acc := fun {H1 us acc} r => by
    induction r with
    | nil => exact .nil
    | cons h _ ih =>
      obtain ⟨p, ys, e, n, h1, h2⟩ := h
      exact .cons ⟨p, ys, e, n.2, h1, h2⟩ ih
  have rlen : ∀ {H1 : Hp} {us acc}, Rows H1 us acc → us.length = acc.length := fun r => r.length
  refine ⟨fun i m H1 => m = ts.length - i ∧ i ≤ ts.length ∧ Same H H1 ∧ ∃ acc, H1 D = some (.lst acc) ∧ Rows H1 (ts.take i) acc, ⟨ts.length, by simp, Nat.zero_le _, Same.new hD, [], upd_same, by rw [List.take_zero]; exact .nil⟩, ?_⟩
  rintro i m H1 ⟨rfl, hi, s1, acc, ha, hd⟩
  by_cases hlt : i < ts.length
  · have ht : ts[i]? = some ts[i] := List.getElem?_eq_getElem hlt
    refine .inr ⟨go i _ H1 ht s1, fun H' => (i + 1 ≤ ts.length ∧ Same H H' ∧ ∃ acc, H' D = some (.lst acc) ∧ Rows H' (ts.take (i + 1)) acc), fun H' p => ⟨ts.length - (i + 1), by omega, rfl, p⟩, fun x H2 y => ?_⟩
    obtain ⟨s2, pi⟩ := yld i _ H1 x H2 ht s1 y
    have hlen : acc.length < sizeLine := by
      have q1 := rlen hd
      rw [List.length_take] at q1
      rw [sizeLine_eq]; omega
    refine turn _ x H2 _ _ (List.getElem_mem hlt) (s1.trans s2) pi (fun p ys H4 hp s4 hy hyd => ?_)
    have hD4 := s4 _ _ (s2 _ _ ha)
    refine ⟨acc, hD4, hlen, hlt, Same.mut (s1.trans (s2.trans s4)) hD, _, upd_same, ?_⟩
    have npD : p ≠ D := fun z => by rw [z, s2 _ _ ha] at hp; cases hp
    rw [List.take_add_one, ht]
    have r4 : Rows H4 (ts.take i) acc := rsame (s2.trans s4) hd
    have r5 : Rows (upd H4 D (.lst (acc ++ [.ref p]))) (ts.take i) acc := rupd hD4 r4
    have last : Rows (upd H4 D (.lst (acc ++ [.ref p]))) [ts[i]] [.ref p] := .cons ⟨p, ys, rfl, ⟨npD, (s1.trans s2).free hp⟩, by rw [upd_ne npD]; exact hy, DvAll.upd (notup_l hD4) (noLA hn _) hyd⟩ .nil
    exact paired_app r5 last
  · have e : i = ts.length := by omega
    subst e
    rw [List.take_length] at hd
    exact .inl ⟨stop H1 s1, done D acc H1 hD s1 ha (rdv hd)⟩
end
theorem paired_imp {α β : Type} {R S : α → β → Prop} (f : ∀ a b, R a b → S a b) {as : List α} {bs : List β} (h : Paired R as bs) : Paired S as bs := by
  induction h with
  | nil => exact .nil
  | cons h1 _ ih => exact .cons (f _ _ h1) ih
def to3 (o : Ofr) : Of3 := ⟨o.b, o.e, o.g⟩
def pnD (q : Int × Int) : PyData := .tuple [.int q.1, .int q.2]
theorem pn_mk {H : Hp} {q : Int × Int} {a : Addr} (h : H a = some (.tup [.int q.1, .int q.2])) : Dv H (pnD q) (.ref a) := ⟨a, _, rfl, h, _, _, rfl, rfl, _, _, rfl, rfl, rfl⟩
theorem pn_of {H : Hp} {q : Int × Int} {v : V} (h : Dv H (pnD q) v) : ∃ a, v = .ref a ∧ H a = some (.tup [.int q.1, .int q.2]) := by
  obtain ⟨a, xs, e, ha, x1, r1, rfl, h1, x2, r2, rfl, h2, h6⟩ := h
  cases h1; cases h2; cases h6
  exact ⟨a, e, ha⟩
def dofr : Ofr := ⟨0, 0, 0, 0, 0⟩
def pnOf (ofs : List Ofr) (n : Nat) : Int × Int := ((ofs.getD n dofr).pot, (ofs.getD n dofr).num)
def spServedBy : Sp := fun vs H Q _ => ∃ u uw ofs wants, vs = [u, .ref uw] ∧ Dv H (.list (ofs.map ofrD)) u ∧ ofs.length ≤ 100000 ∧ (∀ o ∈ ofs, 0 ≤ o.g) ∧ H uw = some (.lst (wants.map nV)) ∧ wants.length ≤ 60 ∧ (∀ w ∈ wants, w ≤ 20) ∧
  (∀ a q rs rows H', H q = none → Same H H' → H' a = some (.tup [.ref q, .non]) → H' q = some (.lst rs) → Paired (fun (r : List Nat) (v : V) => ∃ p ys, v = .ref p ∧ H p = none ∧ H' p = some (.lst ys) ∧ DvAll H' ((r.map (pnOf ofs)).map pnD) ys) rows rs → VR (ofs.map to3) wants rows → Q (.ref a) H') ∧
  ∀ a b q ns hour H', H q = none → Same H H' → H' a = some (.tup [.non, .ref b]) → H' b = some (.tup [nV hour, .ref q]) → H' q = some (.lst (ns.map V.int)) → Lack (ofs.map to3) wants hour ns → Q (.ref a) H'
section
variable {P : Program} {w : World} {K : PySem.W.Frag} {mg : Str → Option Value} {base : Heap} {A : Nat → Addr} {D : Nat → FuncData} {C : Addr} {tk : Tok}
theorem sc_served_by : FnScope ["offers", "wants", "rows", "lack", "offer", "row", "number"] ["offers", "wants"] (defScope (topS 13)) := ⟨rfl, rfl, rfl, by decide +kernel, rfl, by decide +kernel, by decide +kernel⟩
theorem ok_served_by (T : Tx K mg A D C tk) : FnOk P w K mg base CX0 6 (A 13) (D 13) ["offers", "wants"] spServedBy := by
  have G_served : FnOk P w K mg base CX0 5 (A 2) (D 2) _ _ := ok_served T
  refine T.d_served_by.fn.ok sc_served_by (fun vs H Q E h => ?_) (fun cdv A0 outer s H vs Q E hr h => ?_)
  · obtain ⟨u, uw, ofs, wants, rfl, _⟩ := h
    rfl
  · obtain ⟨u, uw, ofs, wants, rfl, hu, hol, hog, huw, hwl, hwm, k1, k2⟩ := h
    obtain ⟨lo, xs, rfl, hlo, hxs⟩ := list_of hu
    refine ⟨_, (pss_cons (ps_asg (pcall T.d_served G_served (hr.mono (by decide)) rfl (pa_cons (pe_lc (own := [("offer", 4)]) rfl sc_served_by.nd (piL K (pv 0)) (blkOk_by (N := ["offers", "wants", "rows", "lack", "offer", "row", "number"]) (sc := defScope (topS 13)) (by decide +kernel)) (fun _ _ _ _ _ => (pg_name (i := 4) sc_served_by.nd rfl (Or.inl rfl))) (fun _ _ _ _ _ => pts_nil) (fun _ _ _ _ _ => (pe_slice (slT K) (pv 4) (po_some pe_int) po_none))) (pa_cons (pv 1) pa_nil))) (pgT K 2 rfl (pgs_cons (pg_name (i := 2) sc_served_by.nd rfl (Or.inl rfl)) (pgs_cons (pg_name (i := 3) sc_served_by.nd rfl (Or.inl rfl)) pgs_nil))))
 (pss_cons (ps_if (pt_cmpR op_isN (pv 2) pe_non (nomark _)) (pss_one (ps_ret (pe_tup (pa_cons pe_non (pa_cons (pv 3) pa_nil))))) pss_nil)
 (pss_one (ps_ret (pe_tup (pa_cons (pe_lc (own := [("row", 5)]) rfl sc_served_by.nd (piL K (pv 2)) (blkOk_by (N := ["offers", "wants", "rows", "lack", "offer", "row", "number"]) (sc := defScope (topS 13)) (by decide +kernel)) (fun _ _ _ _ _ => (pg_name (i := 5) sc_served_by.nd rfl (Or.inl rfl))) (fun _ _ _ _ _ => pts_nil) (fun _ _ _ _ _ => (pe_lc (own := [("number", 6)]) rfl sc_served_by.nd (piL K (pv 5)) (blkOk_by (N := ["offers", "wants", "rows", "lack", "offer", "row", "number"]) (sc := { kind := .function, names := [(".0", .local), ("row", .local), ("offers", .cell)], isGenerator := false, isCoroutine := false }) (by decide +kernel)) (fun _ _ _ _ _ => (pg_name (i := 6) sc_served_by.nd rfl (Or.inl rfl))) (fun _ _ _ _ _ => pts_nil) (fun _ _ _ _ _ => (pe_slice (slT K) (pe_ix (ixL K) (pv 0) (pv 6) (fun _ _ => rfl)) po_none (po_some pe_int)))))) (pa_cons pe_non pa_nil))))))), ?_⟩
    walk_at "go"
    refine ⟨⟨_, SqL.of hlo⟩, ?_⟩
    obtain ⟨g1, g2, g3⟩ := src_l (K := K) (e := ofrD) hlo hxs
    refine lcG (e' := of3D) ofs (fun o => some (to3 o)) (fun t x H => Dv H (ofrD t) x) noOf3 hol g1 g2 g3 ?_ ?_
    · intro o x H1 N M _ sm dx hy hn
      obtain ⟨e, rfl, he⟩ := ofr_of dx
      walk_at "go"
      refine ⟨_, _, rfl, SqT.of he, (fun z => absurd z.1 (by show ¬ (2 = 0); decide)), fun q hq => ?_⟩
      exact hy _ rfl _ _ (Same.new hq) (of3_mk (t := to3 o) upd_same)
    · rw [fm_map]
      intro l3 zs H1 hl3 s1 hzs dzs
      walk_at "go"
      refine ⟨l3, zs, ofs.map to3, uw, wants, rfl, hzs, dzs, by rw [List.length_map]; exact hol, fun o ho => ?_, s1 _ _ huw, hwl, hwm, fun a q rs rows H2 s2 ha hq drs hv => ?_, fun a b q ns hour H2 hq0 s2 ha hb hq hlk => ?_⟩
      · obtain ⟨o', ho', rfl⟩ := List.mem_map.mp ho
        exact hog o' ho'
      · refine ⟨_, _, rfl, SqT.of ha, rfl, ?_⟩
        walk_at "go"
        have hlo2 := s2 _ _ (s1 _ _ hlo)
        have hxs2 := hxs.same (s1.trans s2)
        refine ⟨⟨_, SqL.of hq⟩, ?_⟩
        obtain ⟨f1, f2, f3⟩ := src_l (K := K) (e := rowD) hq drs
        refine lcGLf (e2 := pnD) rows (fun r => r.map (pnOf ofs)) (fun t x H => Dv H (rowD t) x) (fun _ => rfl) (by rw [hv.len]; omega) f1 f2 f3 ?_ ?_
        · intro r x H3 N M hrm s3 dx' hy
          obtain ⟨ar, rfl, har⟩ := row_dv dx'
          walk_at "go"
          refine ⟨⟨_, SqL.of har⟩, ?_⟩
          have dr : DvAll H3 (r.map nD) (r.map nV) := by
            have := DvAll.ints (H := H3) (r.map (fun n : Nat => (n : Int)))
            rw [List.map_map, List.map_map] at this
            exact this
          obtain ⟨j1, j2, j3⟩ := src_l (K := K) (e := nD) har dr
          have hrl : r.length ≤ 100000 := by
            obtain ⟨h, hh⟩ := List.mem_iff_getElem?.mp hrm
            have hlt : h < wants.length := by rw [← hv.len]; exact (List.getElem?_eq_some_iff.mp hh).1
            rw [hv.size h r _ hh (List.getElem?_eq_getElem hlt)]
            exact Nat.le_trans (hwm _ (List.getElem_mem hlt)) (by decide)
          refine lcG (e' := pnD) r (fun n => some (pnOf ofs n)) (fun t x H => Dv H (nD t) x) (fun _ => rfl) hrl j1 j2 j3 ?_ ?_
          · intro n x H4 N' M' hnm s4 dn hy' _
            cases dn
            obtain ⟨h, hh⟩ := List.mem_iff_getElem?.mp hrm
            obtain ⟨o3, ho3, _⟩ := hv.av h r n hh hnm
            have hno : n < ofs.length := by
              have := (List.getElem?_eq_some_iff.mp ho3).1
              rw [List.length_map] at this
              exact this
            obtain ⟨y, hy1, dy⟩ := (hxs2.same (s3.trans s4)).of (List.getElem?_eq_getElem hno)
            obtain ⟨e, rfl, he⟩ := ofr_of dy
            walk_at "go"
            refine ⟨_, _, _, _, rfl, rfl, SqL.of (s4 _ _ (s3 _ _ hlo2)), atI_nat hy1, ?_⟩
            walk_at "go"
            refine ⟨_, _, rfl, SqT.of he, (fun z => absurd z.2 (by show ¬ (2 = 5); decide)), fun q hq => ?_⟩
            refine hy' _ rfl _ _ (Same.new hq) (pn_mk ?_)
            rw [upd_same]
            unfold pnOf
            rw [List.getD_eq_getElem?_getD, List.getElem?_eq_getElem hno]
            rfl
          · rw [fm_map]
            intro q2 ys H4 hq2 s4 hys dys
            exact hy q2 ys H4 hq2 s4 hys dys
        · intro q2 rs2 H3 hq2 s3 hrs2 drs2
          walk_at "go"
          refine ⟨by show 2 ≤ sizeLine; decide, fun a2 ha2 => ?_⟩
          have sa : Same H3 (upd H3 a2 (.tup [.ref q2, .non])) := Same.new ha2
          have s12 := s1.trans s2
          exact k1 a2 q2 rs2 rows _ (s12.free hq2) (s1.trans (s2.trans (s3.trans sa))) upd_same (sa _ _ hrs2) (paired_imp (fun r v ⟨p, ys, e, n, h1, h2⟩ => ⟨p, ys, e, s12.free n, sa _ _ h1, DvAll.same sa h2⟩) drs2) hv
      · refine ⟨_, _, rfl, SqT.of ha, rfl, ?_⟩
        walk_at "go"
        refine ⟨by show 2 ≤ sizeLine; decide, fun a2 ha2 => ?_⟩
        have sa : Same H2 (upd H2 a2 (.tup [.non, .ref b])) := Same.new ha2
        exact k2 a2 b q ns hour _ (s1.free hq0) (s1.trans (s2.trans sa)) upd_same (sa _ _ hb) (sa _ _ hq) hlk
end
end K83
set_option maxRecDepth 100000
set_option maxHeartbeats 4000000
namespace K83
open PySem PySem.Spec PyProof.Rows L2
local macro_rules | `(tactic| walk_at "nz") => `(tactic| dsimp -proj only [L2.start, wipe, List.map_cons, List.map_nil, List.set, List.length, List.replicate, List.cons_append, List.nil_append, Nat.reduceSub, Nat.reduceAdd])
local macro_rules | `(tactic| walk_at "gg") => `(tactic| repeat (first | refine ⟨rfl, ?_⟩ | refine ⟨_, rfl, ?_⟩ | refine ⟨_, _, rfl, ?_⟩ | refine ⟨_, _, rfl, rfl, ?_⟩))
local macro_rules | `(tactic| walk_at "go") => `(tactic| ((try walk_at "nz"); walk_at "gg"; (try walk_at "nz")))
def wantsN (tms : List Tm) (c : Str) : List Nat := (List.range 60).map fun h : Nat => (namesAt tms c (h : Int)).length
theorem wantsN_F (tms : List Tm) (c : Str) : (wantsN tms c).map (fun n : Nat => (n : Int)) = wantsF tms c 60 := by
  unfold wantsN wantsF
  rw [List.map_map]
  rfl
def gOf (p : Pal) (c : Str) : Int := ((p.find c).map (·.gathers)).getD 0
def ofsOf (p : Pal) (pots : List (List Trn)) (c : Str) : List Ofr := offersF (gOf p c) c pots
def rwOf (h : Nat) (z : Str × (Int × Int)) : Rw := ⟨h, z.1, z.2.1, z.2.2⟩
def rowOf (tms : List Tm) (ofs : List Ofr) (c : Str) (q : List Nat × Nat) : List Rw := ((wantF tms c (q.2 : Int)).zip (q.1.map (pnOf ofs))).map (rwOf q.2)
def rowsOf (tms : List Tm) (ofs : List Ofr) (c : Str) (rows : List (List Nat)) : List Rw := rows.zipIdx.flatMap (rowOf tms ofs c)
def allRows (p : Pal) (pots : List (List Trn)) (tms : List Tm) (sv : List (Str × List (List Nat))) : List Rw := sv.flatMap fun z => rowsOf tms (ofsOf p pots z.1) z.1 z.2
theorem VR.take {os : List Of3} {wants : List Nat} {rows : List (List Nat)} (v : VR os wants rows) (k : Nat) : VR os (wants.take k) (rows.take k) where
  len := by rw [List.length_take, List.length_take, v.len]
  nd := fun r hr => v.nd r (List.mem_of_mem_take hr)
  av := fun h r n h1 h2 => by
    rw [List.getElem?_take] at h1
    by_cases e : h < k
    · rw [if_pos e] at h1; exact v.av h r n h1 h2
    · rw [if_neg e] at h1; cases h1
  size := fun h r w h1 h2 => by
    rw [List.getElem?_take] at h1 h2
    by_cases e : h < k
    · rw [if_pos e] at h1 h2; exact v.size h r w h1 h2
    · rw [if_neg e] at h1; cases h1
  cap := fun n o ho => by
    have h1 : hc (rows.take k) n ≤ hc rows n := by
      unfold hc
      exact (List.take_sublist k rows).countP_le
    have h2 := v.cap n o ho
    omega
theorem src_z {K : PySem.W.Frag} {H : Hp} {a b : Addr} {ys : List V} {nms : List Str} {pns : List (Int × Int)} (ha : H a = some (.lst (nms.map V.str))) (hb : H b = some (.lst ys)) (hd : DvAll H (pns.map pnD) ys) (hl : nms.length = pns.length) :
    (∀ i t H1, (nms.zip pns)[i]? = some t → Same H H1 → (Itzs K a b).go i H1) ∧ (∀ i t H1 x H2, (nms.zip pns)[i]? = some t → Same H H1 → (Itzs K a b).yld i H1 x H2 → Same H1 H2 ∧ ∃ T y, x = .ref T ∧ H2 T = some (.tup [.str t.1, y]) ∧ Dv H2 (pnD t.2) y) ∧
      ∀ H1, Same H H1 → (Itzs K a b).stop (nms.zip pns).length H1 := by
  have hyl := hd.lenM
  refine ⟨fun i t H1 h s => ?_, fun i t H1 x H2 h s y => ?_, fun H1 s => ⟨_, _, SqL.of (s _ _ ha), SqL.of (s _ _ hb), by rw [List.length_map, List.length_zip]; omega, by rw [List.length_zip]; omega⟩⟩
  · obtain ⟨h1, h2⟩ := List.getElem?_zip_eq_some.mp h
    obtain ⟨y, hy, _⟩ := hd.of h2
    exact ⟨_, _, V.str t.1, y, SqL.of (s _ _ ha), SqL.of (s _ _ hb), by rw [List.getElem?_map, h1]; rfl, hy⟩
  · obtain ⟨h1, h2⟩ := List.getElem?_zip_eq_some.mp h
    obtain ⟨T, x1, y1, rfl, hT, rfl, hx, hy⟩ := y
    obtain ⟨z, hz, dz⟩ := hd.of h2
    have e1 := hx _ (SqL.of (s _ _ ha))
    rw [List.getElem?_map, h1] at e1
    cases e1
    have e2 := hy _ (SqL.of (s _ _ hb))
    rw [hz] at e2
    cases e2
    exact ⟨Same.new hT, T, y1, rfl, upd_same, dz.same (s.trans (Same.new hT))⟩
/-- an entry of lacks -/
def LkAt (lf lk : Addr) (H : Hp) (e : Nat × Str × List Int) (v : V) : Prop := ∃ t q, v = .ref t ∧ H t = some (.tup [nV e.1, .str e.2.1, .ref q]) ∧ q ≠ lf ∧ q ≠ lk ∧ H q = some (.lst (e.2.2.map V.int))
/-- the rows of one colour -/
def RwAt (lf : Addr) (ofs : List Ofr) (H : Hp) (r : List Nat) (v : V) : Prop := ∃ p ys, v = .ref p ∧ p ≠ lf ∧ H p = some (.lst ys) ∧ DvAll H ((r.map (pnOf ofs)).map pnD) ys
theorem RwAt.upd {lf : Addr} {ofs : List Ofr} {H : Hp} {ys : List V} {o : HO} (hl : H lf = some (.lst ys)) {r : List Nat} {v : V} (h : RwAt lf ofs H r v) : RwAt lf ofs (upd H lf o) r v := by
  obtain ⟨p, zs, e, n, h1, h2⟩ := h
  exact ⟨p, zs, e, n, by rw [upd_ne n]; exact h1, h2.upd (notup_l hl) (noLA (fun _ => rfl) _)⟩
theorem RwAt.same {lf : Addr} {ofs : List Ofr} {H H' : Hp} (s : Same H H') {r : List Nat} {v : V} (h : RwAt lf ofs H r v) : RwAt lf ofs H' r v := by
  obtain ⟨p, zs, e, n, h1, h2⟩ := h
  exact ⟨p, zs, e, n, s _ _ h1, h2.same s⟩
theorem LkAt.same {lf lk : Addr} {H H' : Hp} (s : Same H H') {e : Nat × Str × List Int} {v : V} (h : LkAt lf lk H e v) : LkAt lf lk H' e v := by
  obtain ⟨t, q, e1, h1, n1, n2, h2⟩ := h
  exact ⟨t, q, e1, s _ _ h1, n1, n2, s _ _ h2⟩
theorem LkAt.upd {lf lk a : Addr} {H : Hp} {ys : List V} {o : HO} (ha : a = lf ∨ a = lk) (hl : H a = some (.lst ys)) {e : Nat × Str × List Int} {v : V} (h : LkAt lf lk H e v) : LkAt lf lk (upd H a o) e v := by
  obtain ⟨t, q, e1, h1, n1, n2, h2⟩ := h
  refine ⟨t, q, e1, by rw [upd_ne (ne_of h1 hl (by intro z; cases z))]; exact h1, n1, n2, ?_⟩
  rcases ha with rfl | rfl
  · rw [upd_ne n1]; exact h2
  · rw [upd_ne n2]; exact h2
theorem read_set {K : PySem.W.Frag} {P : Program} {w : World} {H1 : Hp} {lc : Addr} {ks : List Str} {Q : V → Hp → Prop} (hl : H1 lc = some (.lst (ks.map V.str))) (hlen : ks.length ≤ 60)
    (h : ∀ (cs : List Str) (l : Addr) (Hs : Hp), cs.Nodup → (∀ c, c ∈ cs ↔ c ∈ ks) → H1 l = none → Same H1 Hs → Hs l = some (.lst (cs.map V.str)) → Q (.ref l) Hs) : rSetS K P w [.ref lc] H1 fun x H2 => rSortedT P w [x] H2 Q := by
  refine ⟨lc, ks, rfl, SqL.of hl, by show _ < 4096; omega, fun ps n hn hps => ?_⟩
  refine ⟨ps, _, n, rfl, upd_same, by omega, fun cs l hcsn hcsm hl' => ?_⟩
  have s2 : Same H1 (upd H1 ps (SetT P w ps (fun j => decide (j ∈ ks)) n)) := Same.new hps
  exact h cs l _ hcsn (fun c => by rw [hcsm c, decide_eq_true_iff]) (s2.free hl') (Same.new' s2 hl') upd_same
theorem offersF_g {g : Int} {c : Str} {pots : List (List Trn)} {o : Ofr} (h : o ∈ offersF g c pots) : o.g = g := by
  obtain ⟨⟨ts, i⟩, _, h2⟩ := List.mem_flatMap.mp h
  obtain ⟨r, _, h4⟩ := List.mem_filterMap.mp h2
  unfold ofrOf at h4
  by_cases e : r.1.col = c
  · rw [if_pos e] at h4; cases h4; rfl
  · rw [if_neg e] at h4; cases h4
theorem offersF_len (g : Int) (c : Str) (pots : List (List Trn)) (h : ∀ ts ∈ pots, ts.length ≤ 1000) : (offersF g c pots).length ≤ pots.length * 1000 := by
  unfold offersF
  rw [List.length_flatMap]
  have e : pots.zipIdx.length = pots.length := List.length_zipIdx
  rw [← e, ← sum_const 1000 pots.zipIdx]
  refine sum_le_sum fun q hq => ?_
  have h1 := List.length_filterMap_le (ofrOf g c q.2) q.1.zipIdx
  rw [List.length_zipIdx] at h1
  obtain ⟨i, hi⟩ := List.mem_iff_getElem?.mp hq
  obtain ⟨h2, _⟩ := zip_mem (t := q.1) (j := q.2) hi
  have := h q.1 (List.mem_of_getElem? h2)
  show (ofrsOf g c q).length ≤ 1000
  unfold ofrsOf
  omega
def kdOf (e : Nat × Str × List Int) : PyData := .tuple [.int (e.1 : Int), .str e.2.1]
theorem kd_ge {h h' : Nat} {c c' : Str} {n n' : List Int} (hm : PySem.W.dataLt (kdOf (h', c', n')) (kdOf (h, c, n)) = false) : h ≤ h' := by
  refine Nat.le_of_not_lt fun z => ?_
  have : PySem.W.dataLt (kdOf (h', c', n')) (kdOf (h, c, n)) = true := by
    unfold kdOf
    show PySem.W.dataLt (.tuple [.int (h' : Int), .str c']) (.tuple [.int (h : Int), .str c]) = true
    have hh : (h' : Int) < (h : Int) := by omega
    have ne : PyData.eqv (.int (h' : Int)) (.int (h : Int)) = false := by
      simp [PyData.eqv]; omega
    rw [PySem.W.dataLt_tuple]
    rw [PySem.W.dataLt_all_no (by simp [PySem.W.alike]) ne]
    rw [PySem.W.dataLt_int]
    exact decide_eq_true hh
  rw [this] at hm
  cases hm
def hasCol (tms : List Tm) (c : Str) : Prop := ∃ tm ∈ tms, tm.col = c
def spWorked : Sp := fun vs H Q _ => ∃ v u t p pots tms, vs = [v, u, t] ∧ Dv H (palD p) v ∧ Dv H (potsD pots) u ∧ Dv H (tmsD tms) t ∧ POk p ∧ pots.length ≤ 50 ∧ (∀ ts ∈ pots, ts.length ≤ 1000) ∧ tms.length ≤ 20 ∧ (∀ tm ∈ tms, ∃ c, p.find tm.col = some c) ∧
  (∀ a q rs (sv : List (Str × List (List Nat))) H', Same H H' → H' a = some (.tup [.ref q, .non]) → H' q = some (.lst rs) → DvAll H' (((allRows p pots tms sv).mergeSort (PySem.W.dataLe false rwD)).map rwD) rs → (sv.map (·.1)).Nodup → (∀ c, c ∈ sv.map (·.1) ↔ hasCol tms c) →
    (∀ z ∈ sv, VR ((ofsOf p pots z.1).map to3) (wantsN tms z.1) z.2) → Q (.ref a) H') ∧
  ∀ a b q hour c ns H', Same H H' → H' a = some (.tup [.non, .ref b]) → H' b = some (.tup [nV hour, .str c, .ref q]) → H' q = some (.lst (ns.map V.int)) → hasCol tms c → Lack ((ofsOf p pots c).map to3) (wantsN tms c) hour ns →
    (∀ c', hasCol tms c' → ∃ rows, VR ((ofsOf p pots c').map to3) ((wantsN tms c').take hour) rows) → Q (.ref a) H'
section
variable {P : Program} {w : World} {K : PySem.W.Frag} {mg : Str → Option Value} {base : Heap} {A : Nat → Addr} {D : Nat → FuncData} {C : Addr} {tk : Tok}
theorem sc_worked_by : FnScope ["palette", "pots", "teams", "found", "lacks", "colour", "rows", "lack", "hour", "row", "names", "team", "own", "first", "last", "turn"] ["palette", "pots", "teams"] (defScope (topS 15)) := ⟨rfl, rfl, rfl, by decide +kernel, rfl, by decide +kernel, by decide +kernel⟩
theorem ok_worked_by (T : Tx K mg A D C tk) : FnOk P w K mg base CX0 7 (A 15) (D 15) ["palette", "pots", "teams"] spWorked := by
  have G_served_by : FnOk P w K mg base CX0 6 (A 13) (D 13) _ _ := ok_served_by T
  have G_offers_of : FnOk P w K mg base CX0 2 (A 10) (D 10) _ _ := ok_offers_of T
  have G_wants_of : FnOk P w K mg base CX0 2 (A 12) (D 12) _ _ := ok_wants_of T
  have G_wanting_at : FnOk P w K mg base CX0 1 (A 11) (D 11) _ _ := ok_wanting_at T
  have G_hour_and_colour : FnOk P w K mg base CX0 1 (A 14) (D 14) _ _ := ok_hour_and_colour T
  obtain ⟨dsW, vW, bW⟩ := T.b_wants_of
  refine T.d_worked_by.fn.ok sc_worked_by (fun vs H Q E h => ?_) (fun cdv A0 outer s H vs Q E hr h => ?_)
  · obtain ⟨v, u, t, p, pots, tms, rfl, _⟩ := h
    rfl
  · obtain ⟨v, u, t, p, pots, tms, rfl, hp, hu, ht, hpo, hpl, hptl, htl, hcol, k1, k2⟩ := h
    obtain ⟨at_, xt, rfl, hat, hxt⟩ := list_of ht
    refine ⟨_, (pss_cons (ps_set (i := 3) sc_worked_by.nd rfl (Or.inl rfl) (pe_lst pa_nil))
 (pss_cons (ps_set (i := 4) sc_worked_by.nd rfl (Or.inl rfl) (pe_lst pa_nil))
 (pss_cons (ps_for PassesOwn.never rfl (piL K (pe_callB (cr_sortedT rfl) (by rfl) T.sorted (by decide +kernel) (pa_cons (pe_callTy (cr_setS rfl) (by rfl) T.set (by decide +kernel) (pa_cons (pe_lc (own := [("team", 11), ("own", 12), ("first", 13), ("last", 14)]) rfl sc_worked_by.nd (piL K (pv 2)) (blkOk_by (N := ["palette", "pots", "teams", "found", "lacks", "colour", "rows", "lack", "hour", "row", "names", "team", "own", "first", "last", "turn"]) (sc := defScope (topS 15)) (by decide +kernel)) (fun _ _ _ _ _ => (pgT K 4 rfl (pgs_cons (pg_name (i := 11) sc_worked_by.nd rfl (Or.inl rfl)) (pgs_cons (pg_name (i := 12) sc_worked_by.nd rfl (Or.inl rfl)) (pgs_cons (pg_name (i := 13) sc_worked_by.nd rfl (Or.inl rfl)) (pgs_cons (pg_name (i := 14) sc_worked_by.nd rfl (Or.inl rfl)) pgs_nil)))))) (fun _ _ _ _ _ => pts_nil) (fun _ _ _ _ _ => (pv 12))) pa_nil)) pa_nil))) (pg_name (i := 5) sc_worked_by.nd rfl (Or.inl rfl)) (pss_cons (ps_asg (pcall T.d_served_by G_served_by (hr.mono (by decide)) rfl (pa_cons (pcall T.d_offers_of G_offers_of (hr.mono (by decide)) rfl (pa_cons (pv 0) (pa_cons (pv 1) (pa_cons (pv 5) pa_nil)))) (pa_cons (pe_call G_wants_of (hr.mono (by decide)) rfl T.mg_wants_of T.fn_wants_of.kp bW vW pass0 (pa_cons (pv 2) (pa_cons (pv 5) pa_nil))) pa_nil))) (pgT K 2 rfl (pgs_cons (pg_name (i := 6) sc_worked_by.nd rfl (Or.inl rfl)) (pgs_cons (pg_name (i := 7) sc_worked_by.nd rfl (Or.inl rfl)) pgs_nil))))
 (pss_one (ps_if (pt_cmpR op_notN (pv 7) pe_non (nomark _)) (pss_one (ps_expr (pe_bm PySem.F.plainAttrs_list PySem.F.slot_list_append PySem.F.type_list_append mt_append (pv 4) (pa_cons (pe_tup (pa_cons (pe_ix (ixT K) (pv 7) pe_int (fun _ _ => rfl)) (pa_cons (pv 5) (pa_cons (pe_ix (ixT K) (pv 7) pe_int (fun _ _ => rfl)) pa_nil)))) pa_nil)))) (pss_one (ps_for PassesOwn.never rfl (piE K (by rfl) T.enumerate (pa_cons (pv 6) pa_nil)) (pgT K 2 rfl (pgs_cons (pg_name (i := 8) sc_worked_by.nd rfl (Or.inr rfl)) (pgs_cons (pg_name (i := 9) sc_worked_by.nd rfl (Or.inl rfl)) pgs_nil))) (pss_cons (ps_set (i := 10) sc_worked_by.nd rfl (Or.inl rfl) (pcall T.d_wanting_at G_wanting_at (hr.mono (by decide)) rfl (pa_cons (pv 2) (pa_cons (pv 5) (pa_cons (pv 8) pa_nil)))))
 (pss_one (ps_expr (pe_bm PySem.F.plainAttrs_list PySem.F.slot_list_extend PySem.F.type_list_extend mt_extend (pv 3) (pa_cons (pe_lc (own := [("team", 11), ("turn", 15)]) rfl sc_worked_by.nd (piZ K (by rfl) T.zip (pa_cons (pv 10) (pa_cons (pv 9) pa_nil))) (blkOk_by (N := ["palette", "pots", "teams", "found", "lacks", "colour", "rows", "lack", "hour", "row", "names", "team", "own", "first", "last", "turn"]) (sc := defScope (topS 15)) (by decide +kernel)) (fun _ _ _ _ _ => (pgT K 2 rfl (pgs_cons (pg_name (i := 11) sc_worked_by.nd rfl (Or.inl rfl)) (pgs_cons (pg_name (i := 15) sc_worked_by.nd rfl (Or.inl rfl)) pgs_nil)))) (fun _ _ _ _ _ => pts_nil) (fun _ _ _ _ _ => (pe_op (catT K) (pe_tup (pa_cons (pv 8) (pa_cons (pv 11) pa_nil))) (pv 15)))) pa_nil)))))))))))
 (pss_cons (ps_if (pt_cmpR op_gt (pe_callB (lenS K) (by rfl) T.len (by decide +kernel) (pa_cons (pv 4) pa_nil)) pe_int (nomark _)) (pss_one (ps_ret (pe_tup (pa_cons pe_non (pa_cons (pe_callBK (cr_minK G_hour_and_colour (hr.mono (by decide)) T.d_hour_and_colour.binds) (by rfl) T.min (by decide +kernel) (pa_cons (pv 4) pa_nil) (pk_cons (pe_glob rfl T.d_hour_and_colour.mg (relR _)) pk_nil)) pa_nil))))) pss_nil)
 (pss_one (ps_ret (pe_tup (pa_cons (pe_callB (srt_row hr) (by rfl) T.sorted (by decide +kernel) (pa_cons (pv 3) pa_nil)) (pa_cons pe_non pa_nil))))))))), ?_⟩
    refine ⟨Nat.zero_le _, fun lf hlf => ?_⟩
    refine ⟨Nat.zero_le _, fun lk hlk => ?_⟩
    have s0 : Same H (upd (upd H lf (.lst [])) lk (.lst [])) := Same.new' (Same.new hlf) hlk
    have nfk : lf ≠ lk := fun z => by rw [← z, upd_same] at hlk; cases hlk
    have hlkH : H lk = none := by rw [upd_ne nfk.symm] at hlk; exact hlk
    have hf0 : upd (upd H lf (.lst [])) lk (.lst []) lf = some (.lst []) := by rw [upd_ne nfk, upd_same]
    have hk0 : upd (upd H lf (.lst [])) lk (.lst []) lk = some (.lst []) := upd_same
    generalize upd (upd H lf (.lst [])) lk (.lst []) = H0 at s0 hf0 hk0 ⊢
    walk_at "go"
    refine ⟨⟨_, SqL.of (s0 _ _ hat)⟩, ?_⟩
    obtain ⟨g1, g2, g3⟩ := src_l (K := K) (e := tmD) (s0 _ _ hat) (hxt.same s0)
    refine lcG (e' := PyData.str) tms (fun tm => some tm.col) (fun t x H => Dv H (tmD t) x) (fun _ => rfl) (by omega) g1 g2 g3 ?_ ?_
    · intro tm x H1 N M _ sm dx hy hn
      obtain ⟨e, rfl, he⟩ := tm_of dx
      refine ⟨_, _, rfl, SqT.of he, rfl, ?_⟩
      walk_at "go"
      exact hy _ rfl _ _ (Same.refl _) rfl
    · rw [fm_map]
      intro lc cs0 H1 hlc s1 hcs0 dcs0
      have ecs := DvAll.strs' dcs0
      subst ecs
      walk_at "go"
      dsimp -proj only [tNil]
      refine read_set hcs0 (by rw [List.length_map]; omega) fun cs l Hs hcsn hcsm hl s2 hcsl => ?_
      have s3 : Same H0 Hs := s1.trans s2
      have nlf : l ≠ lf := fun z => by rw [z, s1 _ _ hf0] at hl; cases hl
      have nlk : l ≠ lk := fun z => by rw [z, s1 _ _ hk0] at hl; cases hl
      have hcm : ∀ c, c ∈ cs ↔ hasCol tms c := fun c => by
        rw [hcsm c, List.mem_map]
        rfl
      have hcl : cs.length ≤ 20 := by
        have := nodup_len cs (tms.map (·.col)) hcsn fun x hx => by
          have := (hcsm x).mp hx
          simpa using this
        rw [List.length_map] at this
        omega
      let Pv : Nat → L2.St → Hp → Prop := fun i σ H2 => ∃ (z1 z2 z3 z4 z5 z6 z7 z8 z9 z10 z11 : Option V) (fs ks : List V) (sv : List (Str × List (List Nat))) (lks : List (Nat × Str × List Int)),
        σ = [some v, some u, some (.ref at_), some (.ref lf), some (.ref lk), z1, z2, z3, z4, z5, z6, z7, z8, z9, z10, z11] ∧ Same H H2 ∧ H2 l = some (.lst (cs.map V.str)) ∧ H2 lf = some (.lst fs) ∧ DvAll H2 ((allRows p pots tms sv).map rwD) fs ∧ fs.length ≤ i * 1200 ∧
        H2 lk = some (.lst ks) ∧ Paired (LkAt lf lk H2) lks ks ∧ lks.length ≤ i ∧ (lks = [] → sv.map (·.1) = cs.take i) ∧ (∀ c ∈ cs.take i, (∃ rows, (c, rows) ∈ sv) ∨ ∃ h ns, (h, c, ns) ∈ lks) ∧
        (∀ z ∈ sv, z.1 ∈ cs ∧ VR ((ofsOf p pots z.1).map to3) (wantsN tms z.1) z.2) ∧ ∀ e ∈ lks, e.2.1 ∈ cs ∧ Lack ((ofsOf p pots e.2.1).map to3) (wantsN tms e.2.1) e.1 e.2.2
      refine ⟨_, rfl, ⟨_, SqL.of hcsl⟩, for_list (K := K) (a := l) (xs := cs.map V.str) Pv ?_ ?_ ?_ ?_⟩
      · exact ⟨_, _, _, _, _, _, _, _, _, _, _, [], [], [], [], rfl, s0.trans s3, hcsl, s3 _ _ hf0, .nil, Nat.zero_le _, s3 _ _ hk0, .nil, Nat.zero_le _, (fun _ => rfl), (fun _ z => by simp at z), (fun _ z => nomatch z), (fun _ z => nomatch z)⟩
      · rintro i σ H2 _ ⟨_, _, _, _, _, _, _, _, _, _, _, _, _, _, _, _, _, hl2, _⟩
        exact SqL.of hl2
      · rintro i y σ H2 hy ⟨z1, z2, z3, z4, z5, z6, z7, z8, z9, z10, z11, fs, ks, sv, lks, rfl, sH, hl2, hf2, dfs, hfl, hk2, dks, hkl, hnone, hdone, hsv, hlks⟩
        obtain ⟨c, hc, rfl⟩ : ∃ c, cs[i]? = some c ∧ y = .str c := by
          rw [List.getElem?_map] at hy
          cases e : cs[i]? with
          | none => rw [e] at hy; cases hy
          | some c => rw [e] at hy; cases hy; exact ⟨c, rfl, rfl⟩
        have hi : i < cs.length := (List.getElem?_eq_some_iff.mp hc).1
        have hcc : c ∈ cs := List.mem_of_getElem? hc
        obtain ⟨tm0, htm0, htc0⟩ := (hcm c).mp hcc
        obtain ⟨cc, hcf⟩ := hcol tm0 htm0
        rw [htc0] at hcf
        have hg : gOf p c = cc.gathers := by unfold gOf; rw [hcf]; rfl
        have hccp := hpo.col cc (find_name hcf).1
        walk_at "go"
        refine ⟨v, u, p, pots, c, cc, rfl, hp.same sH, hu.same sH, by omega, hptl, hcf, fun lo xo H3 hlo s3 hxo dxo => ?_⟩
        rw [show offersF cc.gathers c pots = ofsOf p pots c by unfold ofsOf; rw [hg]] at dxo
        walk_at "go"
        refine ⟨_, tms, c, 60, rfl, ht.same (sH.trans s3), by omega, by omega, fun uw xw H4 huw s4 hxw dxw => ?_⟩
        have exw : xw = (wantsN tms c).map nV := by
          have := DvAll.ints' dxw
          rw [← wantsN_F, List.map_map] at this
          exact this
        subst exw
        have hol : (ofsOf p pots c).length ≤ 100000 := Nat.le_trans (offersF_len _ _ _ hptl) (by omega)
        have hwl : (wantsN tms c).length = 60 := by unfold wantsN; rw [List.length_map, List.length_range]
        have hwm : ∀ w ∈ wantsN tms c, w ≤ 20 := fun w hw => by
          obtain ⟨h, _, rfl⟩ := List.mem_map.mp hw
          exact Nat.le_trans (List.length_filterMap_le _ _) htl
        have s24 : Same H2 H4 := s3.trans s4
        refine ⟨.ref lo, uw, ofsOf p pots c, wantsN tms c, rfl, list_mk (s4 _ _ hxo) (dxo.same s4), hol, fun o ho => ?_, hxw, by omega, hwm, fun a q rs rows H5 hq s5 ha hqr drs hv => ?_, fun a b q ns hour H5 hq s5 ha hb hqn hlk => ?_⟩
        · rw [offersF_g ho, hg]; omega
        · -- the colour is served
          have s25 := s24.trans s5
          refine ⟨_, _, rfl, SqT.of ha, rfl, ?_⟩
          walk_at "go"
          have hf5 := s25 _ _ hf2
          have nqf : q ≠ lf := fun z => by rw [z, s24 _ _ hf2] at hq; cases hq
          have hrw5 : Paired (RwAt lf (ofsOf p pots c) H5) rows rs := paired_imp (fun r v ⟨pp, ys, e, n, h1, h2⟩ => ⟨pp, ys, e, (fun z => by rw [z, s24 _ _ hf2] at n; cases n), h1, h2⟩) drs
          have hrsl : rs.length = rows.length := hrw5.length.symm
          have hr60 : rows.length = 60 := by rw [hv.len, hwl]
          let Pw : Nat → L2.St → Hp → Prop := fun j σ H6 => ∃ (y3 y4 y5 y6 y7 y8 y9 y10 : Option V) (fs' : List V), σ = [some v, some u, some (.ref at_), some (.ref lf), some (.ref lk), some (.str c), some (.ref q), some .non, y3, y4, y5, y6, y7, y8, y9, y10] ∧
            Same H H6 ∧ H6 l = some (.lst (cs.map V.str)) ∧ H6 lk = some (.lst ks) ∧ Paired (LkAt lf lk H6) lks ks ∧ H6 lf = some (.lst fs') ∧ DvAll H6 ((allRows p pots tms sv ++ (rows.zipIdx.take j).flatMap (rowOf tms (ofsOf p pots c) c)).map rwD) fs' ∧ fs'.length ≤ i * 1200 + j * 20 ∧
            H6 q = some (.lst rs) ∧ Paired (RwAt lf (ofsOf p pots c) H6) rows rs
          refine ⟨q, rs, rfl, SqL.of hqr, forG rs.length Pw ?_ ?_ ?_ ?_⟩
          · refine ⟨_, _, _, _, _, _, _, _, fs, rfl, sH.trans s25, s25 _ _ hl2, s25 _ _ hk2, paired_imp (fun _ _ x => x.same s25) dks, hf5, ?_, by omega, hqr, hrw5⟩
            rw [List.take_zero, List.flatMap_nil, List.append_nil]
            exact dfs.same s25
          · rintro j σ H6 hj ⟨_, _, _, _, _, _, _, _, _, _, _, _, _, _, _, _, _, hq6, _⟩
            exact ⟨rs, _, SqL.of hq6, List.getElem?_eq_getElem hj⟩
          · rintro j x σ H6 H7 hj ⟨y3, y4, y5, y6, y7, y8, y9, y10, fs', rfl, sH6, hl6, hk6, dk6, hf6, df6, hfl6, hq6, hr6⟩ y
            obtain ⟨T0, z, rfl, hT0, rfl, hz⟩ := y
            have hzj := hz rs (SqL.of hq6)
            have hjr : j < rows.length := by omega
            have hrj : rows[j]? = some rows[j] := List.getElem?_eq_getElem hjr
            have s7 : Same H6 (upd H6 T0 (.tup [.int (j : Nat), z])) := Same.new hT0
            obtain ⟨pp, ys, rfl, npf, hpp, dpp⟩ := pair_rel hr6 hrj hzj
            have hT7 : upd H6 T0 (.tup [.int (j : Nat), .ref pp]) T0 = some (.tup [.int (j : Nat), .ref pp]) := upd_same
            generalize upd H6 T0 (.tup [.int (j : Nat), .ref pp]) = H7 at s7 hT7 ⊢
            refine ⟨_, _, rfl, SqT.of hT7, rfl, ?_⟩
            walk_at "go"
            refine ⟨_, tms, c, (j : Int), rfl, ht.same (sH6.trans s7), by omega, fun nm xn H8 hnm s8 hxn dxn => ?_⟩
            have exn := DvAll.strs' dxn
            subst exn
            have s68 := s7.trans s8
            have hf8 := s68 _ _ hf6
            walk_at "go"
            refine ⟨tyL hf8, ?_⟩
            refine ⟨_, rfl, _, rfl, ?_⟩
            have hlen : (wantF tms c (j : Int)).length = (rows[j].map (pnOf (ofsOf p pots c))).length := by
              have h1 : (wantsN tms c)[j]? = some (namesAt tms c (j : Int)).length := by
                unfold wantsN
                rw [List.getElem?_map, List.getElem?_range (by omega)]
                rfl
              rw [List.length_map, hv.size j _ _ hrj h1]
              unfold wantF
              rw [List.length_mergeSort]
            have hr20 : rows[j].length ≤ 20 := by
              have hjw : j < (wantsN tms c).length := by omega
              rw [hv.size j _ _ hrj (List.getElem?_eq_getElem hjw)]
              exact hwm _ (List.getElem_mem hjw)
            obtain ⟨m1, m2, m3⟩ := src_z (K := K) hxn (s68 _ _ hpp) (dpp.same s68) hlen
            refine ⟨nm, pp, _, _, rfl, SqL.of hxn, SqL.of (s68 _ _ hpp), ?_⟩
            refine lcG (e' := rwD) ((wantF tms c (j : Int)).zip (rows[j].map (pnOf (ofsOf p pots c)))) (fun z => some (rwOf j z)) (fun t x H => ∃ T y, x = .ref T ∧ H T = some (.tup [.str t.1, y]) ∧ Dv H (pnD t.2) y) noRw (by rw [List.length_zip, List.length_map]; omega) m1 m2 m3 ?_ ?_
            · rintro ⟨nm1, pn⟩ x H9 N M _ s9 ⟨T1, y1, rfl, hT1, dy1⟩ hy hn
              obtain ⟨e, rfl, he⟩ := pn_of dy1
              refine ⟨_, _, rfl, SqT.of hT1, rfl, ?_⟩
              walk_at "go"
              refine ⟨by show 2 ≤ sizeLine; decide, fun t1 ht1 => ?_⟩
              have st1 : Same H9 (upd H9 t1 (.tup [.int (j : Nat), .str nm1])) := Same.new ht1
              walk_at "go"
              refine ⟨t1, e, _, _, rfl, rfl, SqT.of upd_same, SqT.of (st1 _ _ he), (fun z => nomatch z), by show 4 ≤ sizeLine; decide, (fun z => nomatch z), fun _ t2 ht2 => ?_⟩
              exact hy _ rfl _ _ (Same.new' st1 ht2) (rw_mk (t := rwOf j (nm1, pn)) upd_same)
            · rw [fm_map]
              intro lx xs9 H9 hlx s9 hx9 dx9
              have s69 := s68.trans s9
              have hf9 := s69 _ _ hf6
              have hx9l : xs9.length ≤ 20 := by
                have := dx9.lenM
                rw [List.length_map, List.length_zip, List.length_map] at this
                omega
              refine ⟨lf, lx, fs', xs9, rfl, rfl, hf9, hx9, by rw [sizeLine_eq]; omega, ?_⟩
              refine ⟨_, _, _, _, _, _, _, _, fs' ++ xs9, rfl, Same.mut (sH6.trans s69) hlf, by rw [upd_ne nlf]; exact s69 _ _ hl6, by rw [upd_ne nfk.symm]; exact s69 _ _ hk6, paired_imp (fun _ _ x => (x.same s69).upd (.inl rfl) hf9) dk6, upd_same, ?_, by rw [List.length_append]; omega, by rw [upd_ne nqf]; exact s69 _ _ hq6, paired_imp (fun _ _ x => (x.same s69).upd hf9) hr6⟩
              have hzi : rows.zipIdx[j]? = some (rows[j], j) := by rw [List.getElem?_zipIdx, hrj]; simp
              rw [fl_snoc (rowOf tms (ofsOf p pots c) c) hzi, ← List.append_assoc, List.map_append]
              exact ((df6.same s69).upd (notup_l hf9) (noLA noRw _)).append (dx9.upd (notup_l hf9) (noLA noRw _))
          · rintro σ H6 ⟨y3, y4, y5, y6, y7, y8, y9, y10, fs', rfl, sH6, hl6, hk6, dk6, hf6, df6, hfl6, hq6, hr6⟩
            refine ⟨⟨rs, SqL.of hq6, Nat.le_refl _⟩, ?_⟩
            have hrl60 : rs.length = 60 := by rw [hrsl, hv.len, hwl]
            refine ⟨_, _, _, _, _, _, _, _, _, _, _, fs', ks, sv ++ [(c, rows)], lks, rfl, sH6, hl6, hf6, ?_, by omega, hk6, dk6, by omega, fun he => ?_, fun c' hc' => ?_, fun z hz => ?_, hlks⟩
            · have e1 : allRows p pots tms (sv ++ [(c, rows)]) = allRows p pots tms sv ++ rows.zipIdx.flatMap (rowOf tms (ofsOf p pots c) c) := by
                unfold allRows
                rw [List.flatMap_append]
                simp [rowsOf]
              rw [e1]
              have e2 : rows.zipIdx.take rs.length = rows.zipIdx := List.take_of_length_le (by rw [List.length_zipIdx, hrsl]; exact Nat.le_refl _)
              rw [e2] at df6
              exact df6
            · rw [List.map_append, hnone he, List.take_add_one, hc]
              rfl
            · rw [List.take_add_one, hc] at hc'
              rcases List.mem_append.mp hc' with z | z
              · rcases hdone c' z with ⟨r, hr⟩ | q
                · exact .inl ⟨r, List.mem_append_left _ hr⟩
                · exact .inr q
              · have : c' = c := by simpa using z
                exact .inl ⟨rows, by rw [this]; exact List.mem_append_right _ List.mem_cons_self⟩
            · rcases List.mem_append.mp hz with y | y
              · exact hsv z y
              · rw [List.mem_singleton.mp y]
                exact ⟨hcc, hv⟩
        · -- it is not
          have s25 := s24.trans s5
          refine ⟨_, _, rfl, SqT.of ha, rfl, ?_⟩
          walk_at "go"
          have hk5 := s25 _ _ hk2
          have nqf : q ≠ lf := fun z => by rw [z, s24 _ _ hf2] at hq; cases hq
          have nqk : q ≠ lk := fun z => by rw [z, s24 _ _ hk2] at hq; cases hq
          have nlk2 : l ≠ lk := nlk
          refine ⟨tyL hk5, ?_⟩
          walk_at "go"
          refine ⟨_, _, _, _, rfl, rfl, SqT.of hb, rfl, ?_⟩
          walk_at "go"
          refine ⟨_, _, _, _, rfl, rfl, SqT.of hb, rfl, ?_⟩
          walk_at "go"
          refine ⟨by show 3 ≤ sizeLine; decide, fun tt htt => ?_⟩
          have st : Same H5 (upd H5 tt (.tup [nV hour, .str c, .ref q])) := Same.new htt
          have hk6 := st _ _ hk5
          have hksl : ks.length = lks.length := dks.length.symm
          refine ⟨lk, ks, .ref tt, rfl, rfl, hk6, by rw [sizeLine_eq]; omega, ?_⟩
          have s26 := s25.trans st
          refine ⟨_, _, _, _, _, _, _, _, _, _, _, fs, ks ++ [.ref tt], sv, lks ++ [(hour, c, ns)], rfl, Same.mut (sH.trans s26) hlkH, by rw [upd_ne nlk2]; exact s26 _ _ hl2, by rw [upd_ne nfk]; exact s26 _ _ hf2, (dfs.same s26).upd (notup_l hk6) (noLA noRw _), by omega, upd_same, ?_, by rw [List.length_append]; show lks.length + 1 ≤ _; omega, fun he => by simp at he, fun c' hc' => ?_, hsv, fun e he => ?_⟩
          · exact paired_app (paired_imp (fun _ _ x => (x.same s26).upd (.inr rfl) hk6) dks) (.cons ⟨tt, q, rfl, by rw [upd_ne (ne_of upd_same hk6 (by intro z; cases z))]; exact upd_same, nqf, nqk, by rw [upd_ne nqk]; exact st _ _ hqn⟩ .nil)
          · rw [List.take_add_one, hc] at hc'
            rcases List.mem_append.mp hc' with z | z
            · rcases hdone c' z with q | ⟨h, n, hn⟩
              · exact .inl q
              · exact .inr ⟨h, n, List.mem_append_left _ hn⟩
            · have : c' = c := by simpa using z
              exact .inr ⟨hour, ns, by rw [this]; exact List.mem_append_right _ List.mem_cons_self⟩
          · rcases List.mem_append.mp he with y | y
            · exact hlks e y
            · rw [List.mem_singleton.mp y]
              exact ⟨hcc, hlk⟩
      · rintro σ H2 ⟨z1, z2, z3, z4, z5, z6, z7, z8, z9, z10, z11, fs, ks, sv, lks, rfl, sH, hl2, hf2, dfs, hfl, hk2, dks, hkl, hnone, hdone, hsv, hlks⟩
        rw [List.length_map] at hfl hkl hdone hnone
        walk_at "go"
        refine ⟨_, _, rfl, .inl (SqL.of hk2), ?_⟩
        walk_at "go"
        have hksl : ks.length = lks.length := dks.length.symm
        refine ite2 (fun hq => ?_) (fun hq => ?_)
        · have hpos : 0 < lks.length := by
            have : (0 : Int) < ((ks.length : Nat) : Int) := of_decide_eq_true hq
            omega
          walk_at "go"
          refine ⟨lk, ks, fun i => kdOf (lks.getD i (0, "", [])), rfl, rfl, SqL.of hk2, fun z => by rw [z] at hksl; simp at hksl; omega, fun _ _ => rfl, fun _ z => (by cases z), fun _ => by simp [kdOf, PyData.depth, PyData.depthAll], fun i x H' hx sx Q' hQ' => ?_, fun i x H' hx hmin sx => ?_⟩
          · have hi : i < lks.length := by rw [← hksl]; exact (List.getElem?_eq_some_iff.mp hx).1
            obtain ⟨t, q, rfl, ht, _, _, hqn⟩ := pair_rel dks (List.getElem?_eq_getElem hi) hx
            refine ⟨t, _, _, _, rfl, sx _ _ ht, fun r H'' s d => hQ' r H'' s ?_⟩
            show Dv H'' (kdOf (lks.getD i (0, "", []))) r
            rw [List.getD_eq_getElem?_getD, List.getElem?_eq_getElem hi]
            exact d
          · have hi : i < lks.length := by rw [← hksl]; exact (List.getElem?_eq_some_iff.mp hx).1
            have hgi : lks[i]? = some lks[i] := List.getElem?_eq_getElem hi
            obtain ⟨t, q, rfl, ht, _, _, hqn⟩ := pair_rel dks hgi hx
            obtain ⟨hce, hle⟩ := hlks _ (List.getElem_mem hi)
            refine ⟨by show 2 ≤ sizeLine; decide, fun a ha => ?_⟩
            have sa : Same H' (upd H' a (.tup [.non, .ref t])) := Same.new ha
            refine k2 a t q _ _ _ _ (sH.trans (sx.trans sa)) upd_same (sa _ _ (sx _ _ ht)) (sa _ _ (sx _ _ hqn)) ((hcm _).mp hce) hle fun c' hc' => ?_
            rcases hdone c' (by rw [List.take_length]; exact (hcm c').mpr hc') with ⟨rows, hr⟩ | ⟨h', ns', hn'⟩
            · exact ⟨_, (hsv _ hr).2.take _⟩
            · obtain ⟨_, hl'⟩ := hlks _ hn'
              obtain ⟨rows, hv⟩ := hl'.early
              obtain ⟨j, hj⟩ := List.mem_iff_getElem?.mp hn'
              have hjl := (List.getElem?_eq_some_iff.mp hj).1
              have hm := hmin j (by omega)
              have e1 : lks.getD j (0, "", []) = (h', c', ns') := by rw [List.getD_eq_getElem?_getD, hj]; rfl
              have e2 : lks.getD i (0, "", []) = lks[i] := by rw [List.getD_eq_getElem?_getD, hgi]; rfl
              have hm2 : PySem.W.dataLt (kdOf (lks.getD j (0, "", []))) (kdOf (lks.getD i (0, "", []))) = false := hm
              rw [e1, e2] at hm2
              have hge : lks[i].1 ≤ h' := kd_ge hm2
              have := hv.take lks[i].1
              rw [List.take_take, Nat.min_eq_left hge] at this
              exact ⟨_, this⟩
        · have hz : lks = [] := by
            have : ¬ ((0 : Int) < ((ks.length : Nat) : Int)) := fun z => hq (decide_eq_true z)
            have : lks.length = 0 := by omega
            exact List.eq_nil_of_length_eq_zero this
          have hsvc : sv.map (·.1) = cs := by rw [hnone hz, List.take_length]
          walk_at "go"
          refine ⟨lf, allRows p pots tms sv, fs, rfl, hf2, dfs, fun ys q dq hqn => ?_⟩
          have sq : Same H2 (upd H2 q (.lst ys)) := Same.new hqn
          refine ⟨by show 2 ≤ sizeLine; decide, fun a ha => ?_⟩
          have sa : Same (upd H2 q (.lst ys)) (upd (upd H2 q (.lst ys)) a (.tup [.ref q, .non])) := Same.new ha
          exact k1 a q ys sv _ (sH.trans (sq.trans sa)) upd_same (sa _ _ upd_same) (dq.same (sq.trans sa)) (by rw [hsvc]; exact hcsn) (fun c => by rw [hsvc]; exact hcm c) fun z hz' => (hsv z hz').2
end
end K83
set_option maxRecDepth 100000
set_option maxHeartbeats 4000000
namespace K83
open PySem PySem.Spec PyProof.Rows L2
/-! sorted -/
theorem dle_iff {β : Type} (k : β → PyData) (a b : β) : PySem.W.dataLe false k a b = true ↔ PySem.W.dataLt (k b) (k a) = false := by
  show (!PySem.W.dataLt (k b) (k a)) = true ↔ _
  cases PySem.W.dataLt (k b) (k a) <;> simp
theorem dle_total {β : Type} (k : β → PyData) (a b : β) : (PySem.W.dataLe false k a b || PySem.W.dataLe false k b a) = true := by
  rw [Bool.or_eq_true, dle_iff, dle_iff]
  cases e : PySem.W.dataLt (k b) (k a) with
  | false => exact .inl rfl
  | true =>
    cases e' : PySem.W.dataLt (k a) (k b) with
    | false => exact .inr rfl
    | true => exact absurd ((lex_trans _ _ _ e e').symm.trans (lex_irrefl _)) (by decide)
theorem dle_trans {β : Type} (k : β → PyData) (a b c : β) (h1 : PySem.W.dataLe false k a b = true) (h2 : PySem.W.dataLe false k b c = true) : PySem.W.dataLe false k a c = true := by
  rw [dle_iff] at h1 h2 ⊢
  cases e : PySem.W.dataLt (k c) (k a) with
  | false => rfl
  | true =>
    rcases lex_negTrans _ (PySem.W.keyToks (k b)) _ e with q | q
    · exact absurd (q.symm.trans h2) (by decide)
    · exact absurd (q.symm.trans h1) (by decide)
theorem dle_sorted {β : Type} (k : β → PyData) (l : List β) : (l.mergeSort (PySem.W.dataLe false k)).Pairwise fun a b => PySem.W.dataLe false k a b = true :=
  List.pairwise_mergeSort (dle_trans k) (dle_total k) l
theorem dle_idem {β : Type} (k : β → PyData) (l : List β) : (l.mergeSort (PySem.W.dataLe false k)).mergeSort (PySem.W.dataLe false k) = l.mergeSort (PySem.W.dataLe false k) :=
  List.mergeSort_of_pairwise (dle_sorted k l)
theorem str_anti {a b : Str} (h1 : PySem.W.dataLe false PyData.str a b = true) (h2 : PySem.W.dataLe false PyData.str b a = true) : a = b := by
  have e := PySem.W.dataLe_str (β := Str) id
  have e1 : PySem.W.dataLe false PyData.str a b = decide (a.cps.toList ≤ b.cps.toList) := congrFun (congrFun e a) b
  have e2 : PySem.W.dataLe false PyData.str b a = decide (b.cps.toList ≤ a.cps.toList) := congrFun (congrFun e b) a
  rw [e1] at h1
  rw [e2] at h2
  have q := List.le_antisymm (of_decide_eq_true h1) (of_decide_eq_true h2)
  cases a; cases b
  congr 1
  exact Array.toList_inj.mp q
theorem row_str {a b : Rw} (h : a.hour = b.hour) (q : PySem.W.dataLe false rwD a b = true) : PySem.W.dataLe false PyData.str a.team b.team = true := by
  rw [dle_iff] at q ⊢
  have e0 : PyData.eqv (.int b.hour) (.int a.hour) = true := by simp [PyData.eqv, h]
  have e : PySem.W.dataLt (rwD b) (rwD a) = if PyData.eqv (.str b.team) (.str a.team) = true then PyProof.Rows.lexLt itemOrd (PySem.W.keyToksAll [.int b.pot, .int b.num]) (PySem.W.keyToksAll [.int a.pot, .int a.num]) else PySem.W.dataLt (.str b.team) (.str a.team) := by
    unfold rwD
    rw [PySem.W.dataLt_tuple, PySem.W.dataLt_cons (by simp [PySem.W.alike]), if_pos e0, PySem.W.dataLt_cons (by simp [PySem.W.alike])]
  rw [e] at q
  by_cases e1 : PyData.eqv (.str b.team) (.str a.team) = true
  · have : b.team = a.team := by simpa [PyData.eqv] using e1
    rw [this]
    exact lex_irrefl _
  · rw [if_neg e1] at q
    exact q
theorem names_sorted {R : List Rw} (hR : R.Pairwise fun a b => PySem.W.dataLe false rwD a b = true) (h : Int) : ((R.filter fun x => decide (x.hour = h)).map (·.team)).Pairwise fun a b => PySem.W.dataLe false PyData.str a b = true := by
  rw [List.pairwise_map]
  refine ((hR.filter _).imp_of_mem fun {a b} ha hb q => ?_)
  have h1 := of_decide_eq_true (List.mem_filter.mp ha).2
  have h2 := of_decide_eq_true (List.mem_filter.mp hb).2
  exact row_str (h1.trans h2.symm) q
theorem sorted_eq {l m : List Str} (hl : l.Pairwise fun a b => PySem.W.dataLe false PyData.str a b = true) (p : l.Perm m) : l = m.mergeSort (PySem.W.dataLe false PyData.str) :=
  (p.trans (List.mergeSort_perm m _).symm).eq_of_pairwise (fun a b _ _ h1 h2 => str_anti h1 h2) hl (dle_sorted _ m)
/-! the rows of one hour -/
theorem filt_none (f : List Nat × Nat → List Rw) (hf : ∀ q x, x ∈ f q → x.hour = (q.2 : Int)) : ∀ (rows : List (List Nat)) (k h : Nat), h < k → ((rows.zipIdx k).flatMap f).filter (fun x => decide (x.hour = (h : Int))) = []
  | [], _, _, _ => rfl
  | r :: rows, k, h, hk => by
    rw [List.zipIdx_cons, List.flatMap_cons, List.filter_append, filt_none f hf rows (k + 1) h (by omega), List.append_nil, List.filter_eq_nil_iff]
    intro x hx
    have := hf _ _ hx
    simp only [decide_eq_true_eq]
    omega
theorem filt_zip (f : List Nat × Nat → List Rw) (hf : ∀ q x, x ∈ f q → x.hour = (q.2 : Int)) : ∀ (rows : List (List Nat)) (k h : Nat), k ≤ h → ((rows.zipIdx k).flatMap f).filter (fun x => decide (x.hour = (h : Int))) = (rows[h - k]?.map fun r => f (r, h)).getD []
  | [], _, _, _ => rfl
  | r :: rows, k, h, hk => by
    rw [List.zipIdx_cons, List.flatMap_cons, List.filter_append]
    by_cases e : k = h
    · subst e
      rw [filt_none f hf rows (k + 1) k (by omega), List.append_nil, List.filter_eq_self.mpr, Nat.sub_self]
      · rfl
      · intro x hx
        exact decide_eq_true (hf _ _ hx)
    · rw [filt_zip f hf rows (k + 1) h (by omega), List.filter_eq_nil_iff.mpr, List.nil_append]
      · have : h - k = (h - (k + 1)) + 1 := by omega
        rw [this, List.getElem?_cons_succ]
      · intro x hx
        have := hf _ _ hx
        simp only [decide_eq_true_eq]
        omega
theorem rowOf_hour {tms : List Tm} {ofs : List Ofr} {c : Str} {q : List Nat × Nat} {x : Rw} (h : x ∈ rowOf tms ofs c q) : x.hour = (q.2 : Int) := by
  obtain ⟨z, _, rfl⟩ := List.mem_map.mp h
  rfl
def rowAtH (tms : List Tm) (ofs : List Ofr) (c : Str) (rows : List (List Nat)) (h : Nat) : List Rw := (rows[h]?.map fun r => rowOf tms ofs c (r, h)).getD []
theorem rowsOf_at (tms : List Tm) (ofs : List Ofr) (c : Str) (rows : List (List Nat)) (h : Nat) : (rowsOf tms ofs c rows).filter (fun x => decide (x.hour = (h : Int))) = rowAtH tms ofs c rows h := by
  unfold rowsOf rowAtH
  rw [filt_zip _ (fun q x hx => rowOf_hour hx) rows 0 h (Nat.zero_le _)]
  rfl
theorem allRows_at (p : Pal) (pots : List (List Trn)) (tms : List Tm) (sv : List (Str × List (List Nat))) (h : Nat) : (allRows p pots tms sv).filter (fun x => decide (x.hour = (h : Int))) = sv.flatMap fun z => rowAtH tms (ofsOf p pots z.1) z.1 z.2 h := by
  unfold allRows
  rw [List.filter_flatMap]
  congr 1
  funext z
  exact rowsOf_at _ _ _ _ _
theorem rowAtH_names {tms : List Tm} {ofs : List Ofr} {c : Str} {rows : List (List Nat)} (v : VR (ofs.map to3) (wantsN tms c) rows) {h : Nat} (hh : h < 60) : (rowAtH tms ofs c rows h).map (·.team) = wantF tms c (h : Int) := by
  have hl : h < rows.length := by
    rw [v.len]; unfold wantsN; rw [List.length_map, List.length_range]; exact hh
  have hr : rows[h]? = some rows[h] := List.getElem?_eq_getElem hl
  have hw : (wantsN tms c)[h]? = some (namesAt tms c (h : Int)).length := by
    unfold wantsN
    rw [List.getElem?_map, List.getElem?_range hh]
    rfl
  have hs := v.size h _ _ hr hw
  unfold rowAtH
  rw [hr]
  show ((((wantF tms c (h : Int)).zip (rows[h].map (pnOf ofs))).map (rwOf h)).map (·.team)) = _
  rw [List.map_map]
  show ((wantF tms c (h : Int)).zip (rows[h].map (pnOf ofs))).map Prod.fst = _
  refine List.map_fst_zip ?_
  rw [List.length_map, hs]
  unfold wantF
  rw [List.length_mergeSort]
  exact Nat.le_refl _
/-- the names of the teams that work at the hour -/
def atHour (tms : List Tm) (h : Int) : List Str := tms.filterMap fun tm => if tm.first ≤ h ∧ h < tm.last then some tm.name else none
theorem fm_one {cs : List Str} (hn : cs.Nodup) {c : Str} (hc : c ∈ cs) (g : List Str) : (cs.flatMap fun x => if c = x then g else []) = g := by
  induction cs with
  | nil => exact nomatch hc
  | cons a cs ih =>
    obtain ⟨h1, h2⟩ := List.nodup_cons.mp hn
    rw [List.flatMap_cons]
    by_cases e : c = a
    · subst e
      rw [if_pos rfl]
      have : (cs.flatMap fun x => if c = x then g else []) = [] := by
        rw [List.flatMap_eq_nil_iff]
        intro x hx
        rw [if_neg (fun z => h1 (by rw [z]; exact hx))]
      rw [this, List.append_nil]
    · rw [if_neg e, List.nil_append]
      exact ih h2 ((List.mem_cons.mp hc).resolve_left e)
theorem fm_split {α : Type} (f g : Str → List α) : ∀ cs : List Str, (cs.flatMap fun c => f c ++ g c).Perm (cs.flatMap f ++ cs.flatMap g)
  | [] => .nil
  | c :: cs => by
    rw [List.flatMap_cons, List.flatMap_cons, List.flatMap_cons, List.append_assoc, List.append_assoc]
    refine List.Perm.append_left _ ?_
    refine (List.Perm.append_left _ (fm_split f g cs)).trans ?_
    rw [← List.append_assoc, ← List.append_assoc]
    exact List.Perm.append_right _ List.perm_append_comm
theorem names_perm {cs : List Str} (hn : cs.Nodup) (h : Int) : ∀ {tms : List Tm}, (∀ tm ∈ tms, tm.col ∈ cs) → (cs.flatMap fun c => namesAt tms c h).Perm (atHour tms h)
  | [], _ => by
    have : (cs.flatMap fun c => namesAt [] c h) = [] := by
      rw [List.flatMap_eq_nil_iff]; intro x _; rfl
    rw [this]; exact .nil
  | tm :: tms, hc => by
    have ih := names_perm hn h (tms := tms) fun t ht => hc t (List.mem_cons_of_mem _ ht)
    let g : List Str := if tm.first ≤ h ∧ h < tm.last then [tm.name] else []
    have e1 : ∀ c, namesAt (tm :: tms) c h = (if tm.col = c then g else []) ++ namesAt tms c h := fun c => by
      unfold namesAt
      rw [List.filterMap_cons]
      by_cases a1 : tm.col = c
      · by_cases a2 : tm.first ≤ h ∧ h < tm.last
        · rw [if_pos (show active tm c h from ⟨a1, a2⟩), if_pos a1]
          show _ = (if tm.first ≤ h ∧ h < tm.last then [tm.name] else []) ++ _
          rw [if_pos a2]; rfl
        · rw [if_neg (show ¬ active tm c h from fun z => a2 z.2), if_pos a1]
          show _ = (if tm.first ≤ h ∧ h < tm.last then [tm.name] else []) ++ _
          rw [if_neg a2]; rfl
      · rw [if_neg (show ¬ active tm c h from fun z => a1 z.1), if_neg a1]; rfl
    have e2 : atHour (tm :: tms) h = g ++ atHour tms h := by
      unfold atHour
      rw [List.filterMap_cons]
      by_cases a2 : tm.first ≤ h ∧ h < tm.last
      · rw [if_pos a2]
        show _ = (if tm.first ≤ h ∧ h < tm.last then [tm.name] else []) ++ _
        rw [if_pos a2]; rfl
      · rw [if_neg a2]
        show _ = (if tm.first ≤ h ∧ h < tm.last then [tm.name] else []) ++ _
        rw [if_neg a2]; rfl
    have e3 : (cs.flatMap fun c => namesAt (tm :: tms) c h) = cs.flatMap fun c => (if tm.col = c then g else []) ++ namesAt tms c h := by
      congr 1; funext c; exact e1 c
    rw [e2, e3]
    refine (fm_split _ _ cs).trans ?_
    rw [fm_one hn (hc tm List.mem_cons_self)]
    exact List.Perm.append_left _ ih
/-! what the rows of a day are -/
structure DayR (p : Pal) (pots : List (List Trn)) (tms : List Tm) (sv : List (Str × List (List Nat))) : Prop where
  nd : (sv.map (·.1)).Nodup
  mem : ∀ c, c ∈ sv.map (·.1) ↔ hasCol tms c
  vr : ∀ z ∈ sv, VR ((ofsOf p pots z.1).map to3) (wantsN tms z.1) z.2
theorem fm_perm {α β : Type} {f g : α → List β} : ∀ {l : List α}, (∀ x ∈ l, (f x).Perm (g x)) → (l.flatMap f).Perm (l.flatMap g)
  | [], _ => .nil
  | a :: l, h => by
    rw [List.flatMap_cons, List.flatMap_cons]
    exact (h a List.mem_cons_self).append (fm_perm fun x hx => h x (List.mem_cons_of_mem _ hx))
theorem day_names {p : Pal} {pots : List (List Trn)} {tms : List Tm} {sv : List (Str × List (List Nat))} (d : DayR p pots tms sv) {h : Nat} (hh : h < 60) : (((allRows p pots tms sv).filter fun x => decide (x.hour = (h : Int))).map (·.team)).Perm (atHour tms (h : Int)) := by
  rw [allRows_at, List.map_flatMap]
  refine List.Perm.trans ?_ (names_perm d.nd (h : Int) fun tm ht => (d.mem _).mpr ⟨tm, ht, rfl⟩)
  rw [List.flatMap_map]
  refine fm_perm fun z hz => ?_
  rw [rowAtH_names (d.vr z hz) hh]
  exact List.mergeSort_perm _ _
theorem day_sorted_names {p : Pal} {pots : List (List Trn)} {tms : List Tm} {sv : List (Str × List (List Nat))} (d : DayR p pots tms sv) {h : Nat} (hh : h < 60) :
    ((((allRows p pots tms sv).mergeSort (PySem.W.dataLe false rwD)).filter fun x => decide (x.hour = (h : Int))).map (·.team)) = (atHour tms (h : Int)).mergeSort (PySem.W.dataLe false PyData.str) :=
  sorted_eq (names_sorted (dle_sorted rwD _) (h : Int)) ((((List.mergeSort_perm _ _).filter _).map _).trans (day_names d hh))
end K83
set_option maxRecDepth 100000
set_option maxHeartbeats 4000000
namespace K83
open PySem PySem.Spec PyProof.Rows L2
theorem merge_nd {k : Key} : ∀ {more acc : List (Key × V)}, (more.map (·.1)).Nodup → valV (mergeK acc more) k = (valV more k).or (valV acc k)
  | [], acc, _ => by rfl
  | m :: more, acc, h => by
    obtain ⟨h1, h2⟩ := List.nodup_cons.mp h
    have e : mergeK acc (m :: more) = mergeK (putK acc m.1 m.2) more := rfl
    rw [e, merge_nd h2, valV_put]
    by_cases q : m.1 = k
    · rw [valV_pos q, if_pos q.symm]
      have : valV more k = none := by
        unfold valV
        rw [Option.map_eq_none_iff, List.find?_eq_none]
        intro x hx
        rw [decide_eq_true_eq]
        intro z
        exact h1 (List.mem_map.mpr ⟨x, hx, z.trans q.symm⟩)
      rw [this]; rfl
    · rw [valV_neg q, if_neg (fun z => q z.symm)]
theorem valV_mem {k : Key} {v : V} : ∀ {kvs : List (Key × V)}, (kvs.map (·.1)).Nodup → (k, v) ∈ kvs → valV kvs k = some v
  | m :: kvs, h, hm => by
    obtain ⟨h1, h2⟩ := List.nodup_cons.mp h
    rcases List.mem_cons.mp hm with rfl | q
    · exact valV_pos rfl
    · rw [valV_neg (fun z => h1 (List.mem_map.mpr ⟨_, q, z.symm⟩))]
      exact valV_mem h2 q
theorem merge_mem {k : Key} {v : V} {kvs : List (Key × V)} (h : (kvs.map (·.1)).Nodup) (hm : (k, v) ∈ kvs) : valV (mergeK [] kvs) k = some v := by
  rw [merge_nd h, valV_mem h hm]; rfl
/-! offers -/
theorem zip_pw {α : Type} (l : List α) : l.zipIdx.Pairwise fun a b => a.2 < b.2 := by
  have h : (l.zipIdx.map Prod.snd).Pairwise (· < ·) := by
    rw [List.zipIdx_map_snd]
    exact List.pairwise_lt_range'
  exact List.pairwise_map.mp h
theorem offers_mem {g : Int} {c : Str} {pots : List (List Trn)} {o : Ofr} (h : o ∈ offersF g c pots) : ∃ i j ts t, pots[i]? = some ts ∧ ts[j]? = some t ∧ t.col = c ∧ o = ⟨(i : Nat), (j : Nat), t.b, t.e, g⟩ := by
  obtain ⟨⟨ts, i⟩, h1, h2⟩ := List.mem_flatMap.mp h
  obtain ⟨⟨t, j⟩, h3, h4⟩ := List.mem_filterMap.mp h2
  obtain ⟨k, hk⟩ := List.mem_iff_getElem?.mp h1
  obtain ⟨k2, hk2⟩ := List.mem_iff_getElem?.mp h3
  obtain ⟨e1, rfl⟩ := zip_mem hk
  obtain ⟨e2, rfl⟩ := zip_mem hk2
  unfold ofrOf at h4
  by_cases e : t.col = c
  · rw [if_pos e] at h4
    cases h4
    exact ⟨i, j, ts, t, e1, e2, e, rfl⟩
  · rw [if_neg e] at h4; cases h4
theorem offers_in {g : Int} {c : Str} {pots : List (List Trn)} {i j : Nat} {ts : List Trn} {t : Trn} (h1 : pots[i]? = some ts) (h2 : ts[j]? = some t) (hc : t.col = c) : (⟨(i : Nat), (j : Nat), t.b, t.e, g⟩ : Ofr) ∈ offersF g c pots := by
  refine List.mem_flatMap.mpr ⟨(ts, i), List.mem_iff_getElem?.mpr ⟨i, by rw [List.getElem?_zipIdx, h1]; simp⟩, List.mem_filterMap.mpr ⟨(t, j), List.mem_iff_getElem?.mpr ⟨j, by rw [List.getElem?_zipIdx, h2]; simp⟩, ?_⟩⟩
  unfold ofrOf
  rw [if_pos hc]
theorem offers_pw (g : Int) (c : Str) (pots : List (List Trn)) : (offersF g c pots).Pairwise fun a b => (a.pot, a.num) ≠ (b.pot, b.num) := by
  unfold offersF
  rw [List.pairwise_flatMap]
  have hm : ∀ (q : List Trn × Nat) (o : Ofr), o ∈ ofrsOf g c q → o.pot = (q.2 : Int) := fun q o ho => by
    obtain ⟨r, _, h4⟩ := List.mem_filterMap.mp ho
    unfold ofrOf at h4
    by_cases e : r.1.col = c
    · rw [if_pos e] at h4; cases h4; rfl
    · rw [if_neg e] at h4; cases h4
  refine ⟨fun q _ => ?_, (zip_pw pots).imp fun {a b} hab x hx y hy z => ?_⟩
  · unfold ofrsOf
    rw [List.pairwise_filterMap]
    refine (zip_pw q.1).imp fun {a b} hab x hx y hy z => ?_
    unfold ofrOf at hx hy
    by_cases e1 : a.1.col = c
    · rw [if_pos e1] at hx
      by_cases e2 : b.1.col = c
      · rw [if_pos e2] at hy
        cases hx; cases hy
        have := congrArg Prod.snd z
        simp only at this
        omega
      · rw [if_neg e2] at hy; cases hy
    · rw [if_neg e1] at hx; cases hx
  · have e1 := hm a x hx
    have e2 := hm b y hy
    have := congrArg Prod.fst z
    simp only at this
    omega
theorem pnOf_at {ofs : List Ofr} {n : Nat} {o : Ofr} (h : ofs[n]? = some o) : pnOf ofs n = (o.pot, o.num) := by
  unfold pnOf
  rw [List.getD_eq_getElem?_getD, h]
  rfl
theorem pnOf_inj {g : Int} {c : Str} {pots : List (List Trn)} {n m : Nat} (hn : n < (offersF g c pots).length) (hm : m < (offersF g c pots).length) (e : pnOf (offersF g c pots) n = pnOf (offersF g c pots) m) : n = m := by
  have pw := offers_pw g c pots
  rw [pnOf_at (List.getElem?_eq_getElem hn), pnOf_at (List.getElem?_eq_getElem hm)] at e
  rw [List.pairwise_iff_getElem] at pw
  rcases Nat.lt_trichotomy n m with q | q | q
  · exact absurd e (pw n m hn hm q)
  · exact q
  · exact absurd e.symm (pw m n hm hn q)
/-! what is worked at an hour -/
theorem work_at {p : Pal} {ts : List Trn} (o : PotOk p ts) {j : Nat} {t : Trn} (ht : ts[j]? = some t) {h : Int} (h1 : t.b ≤ h) (h2 : h < t.e) : workAt ts h = some (t, j) := by
  refine find_hit (i := j) (fun i q hi hq => ?_) (by rw [List.getElem?_zipIdx, ht]; simp) (by show (decide (t.b ≤ h) && decide (h < t.e)) = true; rw [decide_eq_true h1, decide_eq_true h2]; rfl)
  obtain ⟨t', i'⟩ := q
  obtain ⟨e1, rfl⟩ := zip_mem hq
  have q1 := o.lt e1 ht hi
  have q2 := o.tb (List.mem_of_getElem? ht)
  show (decide (t'.b ≤ h) && decide (h < t'.e)) = false
  rw [decide_eq_false (show ¬ (h < t'.e) by omega), Bool.and_false]
theorem now_in {p : Pal} {pots : List (List Trn)} {i j : Nat} {ts : List Trn} {t : Trn} (ok : PotOk p ts) (hp : pots[i]? = some ts) (ht : ts[j]? = some t) {h : Int} (h1 : t.b ≤ h) (h2 : h < t.e) : (⟨(i : Nat), (j : Nat), t.col⟩ : Nw) ∈ nowF pots h := by
  refine List.mem_filterMap.mpr ⟨(ts, i), List.mem_iff_getElem?.mpr ⟨i, by rw [List.getElem?_zipIdx, hp]; simp⟩, ?_⟩
  unfold nowOf
  rw [work_at ok ht h1 h2]
  rfl
theorem now_mem {pots : List (List Trn)} {h : Int} {q : Nw} (hq : q ∈ nowF pots h) : ∃ i j ts t, pots[i]? = some ts ∧ ts[j]? = some t ∧ t.b ≤ h ∧ h < t.e ∧ q = ⟨(i : Nat), (j : Nat), t.col⟩ := by
  obtain ⟨⟨ts, i⟩, h1, h2⟩ := List.mem_filterMap.mp hq
  obtain ⟨k, hk⟩ := List.mem_iff_getElem?.mp h1
  obtain ⟨e1, rfl⟩ := zip_mem hk
  unfold nowOf at h2
  cases e : workAt ts h with
  | none => rw [show workAt (ts, i).1 h = none from e] at h2; cases h2
  | some z =>
    obtain ⟨t, j⟩ := z
    rw [show workAt (ts, i).1 h = some (t, j) from e] at h2
    cases h2
    have m1 := List.mem_of_find?_eq_some e
    have m2 := List.find?_some e
    obtain ⟨k2, hk2⟩ := List.mem_iff_getElem?.mp m1
    obtain ⟨e2, rfl⟩ := zip_mem hk2
    have m3 : (decide (t.b ≤ h) && decide (h < t.e)) = true := m2
    rw [Bool.and_eq_true, decide_eq_true_eq, decide_eq_true_eq] at m3
    exact ⟨i, j, ts, t, e1, e2, m3.1, m3.2, rfl⟩
theorem now_pw (pots : List (List Trn)) (h : Int) : (nowF pots h).Pairwise fun a b => a.pot ≠ b.pot := by
  unfold nowF
  rw [List.pairwise_filterMap]
  refine (zip_pw pots).imp fun {a b} hab x hx y hy z => ?_
  unfold nowOf at hx hy
  obtain ⟨u, _, rfl⟩ := Option.map_eq_some_iff.mp hx
  obtain ⟨v, _, rfl⟩ := Option.map_eq_some_iff.mp hy
  simp only at z
  omega
/-! rows -/
def colOf (tms : List Tm) (nm : Str) : Str := ((tms.find? fun tm => decide (tm.name = nm)).map (·.col)).getD ""
theorem colOf_at {tms : List Tm} (nd : (tms.map (·.name)).Nodup) {tm : Tm} (h : tm ∈ tms) : colOf tms tm.name = tm.col := by
  unfold colOf
  induction tms with
  | nil => exact nomatch h
  | cons a tms ih =>
    obtain ⟨h1, h2⟩ := List.nodup_cons.mp nd
    rw [List.find?_cons]
    by_cases e : a.name = tm.name
    · rw [decide_eq_true e]
      rcases List.mem_cons.mp h with rfl | q
      · rfl
      · exact absurd (List.mem_map.mpr ⟨tm, q, e.symm⟩) h1
    · rw [decide_eq_false e]
      rcases List.mem_cons.mp h with rfl | q
      · exact absurd rfl e
      · exact ih h2 q
def turnOf (tms : List Tm) (x : Rw) : Int × Int × Str := (x.pot, x.num, colOf tms x.team)
theorem row_in {tms : List Tm} {ofs : List Ofr} {c : Str} {q : List Nat × Nat} {x : Rw} (h : x ∈ rowOf tms ofs c q) : ∃ tm n, tm ∈ tms ∧ active tm c (q.2 : Int) ∧ x.team = tm.name ∧ n ∈ q.1 ∧ (x.pot, x.num) = pnOf ofs n ∧ x.hour = (q.2 : Int) := by
  obtain ⟨⟨nm, pn⟩, hz, rfl⟩ := List.mem_map.mp h
  obtain ⟨h1, h2⟩ := List.of_mem_zip hz
  obtain ⟨n, hn, rfl⟩ := List.mem_map.mp h2
  unfold wantF at h1
  rw [List.mem_mergeSort] at h1
  obtain ⟨tm, ht, he⟩ := List.mem_filterMap.mp h1
  by_cases a : active tm c (q.2 : Int)
  · rw [if_pos a] at he
    cases he
    exact ⟨tm, n, ht, a, rfl, hn, rfl, rfl⟩
  · rw [if_neg a] at he; cases he
theorem row_col {tms : List Tm} (nd : (tms.map (·.name)).Nodup) {ofs : List Ofr} {c : Str} {q : List Nat × Nat} {x : Rw} (h : x ∈ rowOf tms ofs c q) : colOf tms x.team = c := by
  obtain ⟨tm, n, ht, a, e, _⟩ := row_in h
  rw [e, colOf_at nd ht]
  exact a.1
theorem rows_in {tms : List Tm} {ofs : List Ofr} {c : Str} {rows : List (List Nat)} {x : Rw} (h : x ∈ rowsOf tms ofs c rows) : ∃ r j, rows[j]? = some r ∧ x ∈ rowOf tms ofs c (r, j) := by
  obtain ⟨⟨r, i⟩, h1, h2⟩ := List.mem_flatMap.mp h
  obtain ⟨k, hk⟩ := List.mem_iff_getElem?.mp h1
  obtain ⟨e, rfl⟩ := zip_mem hk
  exact ⟨r, i, e, h2⟩
theorem all_in {p : Pal} {pots : List (List Trn)} {tms : List Tm} {sv : List (Str × List (List Nat))} {x : Rw} (h : x ∈ allRows p pots tms sv) : ∃ z r j, z ∈ sv ∧ z.2[j]? = some r ∧ x ∈ rowOf tms (ofsOf p pots z.1) z.1 (r, j) := by
  obtain ⟨z, hz, h2⟩ := List.mem_flatMap.mp h
  obtain ⟨r, j, h3, h4⟩ := rows_in h2
  exact ⟨z, r, j, hz, h3, h4⟩
theorem day_now {p : Pal} {pots : List (List Trn)} {tms : List Tm} {sv : List (Str × List (List Nat))} (d : DayR p pots tms sv) (hok : ∀ ts ∈ pots, PotOk p ts) (nd : (tms.map (·.name)).Nodup) {x : Rw} (h : x ∈ allRows p pots tms sv) :
    (⟨x.pot, x.num, colOf tms x.team⟩ : Nw) ∈ nowF pots x.hour ∧ ∃ tm ∈ tms, x.team = tm.name ∧ colOf tms x.team = tm.col := by
  obtain ⟨z, r, j, hz, hr, hx⟩ := all_in h
  obtain ⟨tm, n, ht, a, e1, hn, e2, e3⟩ := row_in hx
  have ec := row_col nd hx
  refine ⟨?_, tm, ht, e1, by rw [ec]; exact a.1.symm⟩
  obtain ⟨o3, ho, h1, h2⟩ := (d.vr z hz).av j r n hr hn
  rw [List.getElem?_map] at ho
  obtain ⟨o, ho', rfl⟩ := Option.map_eq_some_iff.mp ho
  clear ho
  obtain ⟨i, k, ts, t, g1, g2, g3, rfl⟩ := offers_mem (List.mem_of_getElem? ho')
  rw [pnOf_at ho'] at e2
  have q1 := congrArg Prod.fst e2
  have q2 := congrArg Prod.snd e2
  simp only at q1 q2
  rw [ec, e3, q1, q2, ← g3]
  exact now_in (hok ts (List.mem_of_getElem? g1)) g1 g2 h1 h2
theorem sum_one {α : Type} (key : α → Str) (f : α → Nat) (c : Str) (B : Nat) : ∀ {l : List α}, (l.map key).Nodup → (∀ z ∈ l, key z ≠ c → f z = 0) → (∀ z ∈ l, key z = c → f z ≤ B) → (l.map f).sum ≤ B
  | [], _, _, _ => Nat.zero_le _
  | a :: l, nd, h0, h1 => by
    obtain ⟨n1, n2⟩ := List.nodup_cons.mp nd
    rw [List.map_cons, List.sum_cons]
    by_cases e : key a = c
    · have : (l.map f).sum = 0 := by
        have : ∀ z ∈ l, f z ≤ (fun _ => 0) z := fun z hz => Nat.le_of_eq (h0 z (List.mem_cons_of_mem _ hz) fun q => n1 (List.mem_map.mpr ⟨z, hz, q.trans e.symm⟩))
        have := sum_le_sum this
        rw [sum_const] at this
        omega
      rw [this]
      exact h1 a List.mem_cons_self e
    · rw [h0 a List.mem_cons_self e, Nat.zero_add]
      exact sum_one key f c B n2 (fun z hz => h0 z (List.mem_cons_of_mem _ hz)) fun z hz => h1 z (List.mem_cons_of_mem _ hz)
theorem zsum (pr : List Nat → Bool) : ∀ (rows : List (List Nat)) (k : Nat), ((rows.zipIdx k).map fun q => if pr q.1 = true then 1 else 0).sum = rows.countP pr
  | [], _ => rfl
  | r :: rows, k => by
    rw [List.zipIdx_cons, List.map_cons, List.sum_cons, zsum pr rows (k + 1), List.countP_cons]
    exact Nat.add_comm _ _
theorem zip_countP {ns : List Str} {ps : List (Int × Int)} {h : Nat} {f : Rw → Bool} {T : Int × Int} (hf : ∀ nm pn, f (rwOf h (nm, pn)) = true → pn = T) : ((ns.zip ps).map (rwOf h)).countP f ≤ ps.countP fun q => decide (q = T) := by
  induction ns generalizing ps with
  | nil => rw [List.zip_nil_left]; exact Nat.zero_le _
  | cons n ns ih =>
    cases ps with
    | nil => rw [List.zip_nil_right]; exact Nat.zero_le _
    | cons q ps =>
      rw [List.zip_cons_cons, List.map_cons, List.countP_cons, List.countP_cons]
      have := ih (ps := ps)
      by_cases e : f (rwOf h (n, q)) = true
      · rw [if_pos e, decide_eq_true (hf n q e)]
        simp only [if_true]
        omega
      · rw [if_neg e]
        omega
theorem day_count {p : Pal} {pots : List (List Trn)} {tms : List Tm} {sv : List (Str × List (List Nat))} (d : DayR p pots tms sv) (nd : (tms.map (·.name)).Nodup) (T : Int × Int × Str) (hg : 0 ≤ gOf p T.2.2) :
    (((allRows p pots tms sv).countP fun x => decide (turnOf tms x = T) : Nat) : Int) ≤ gOf p T.2.2 := by
  obtain ⟨a, b, c⟩ := T
  have key : (allRows p pots tms sv).countP (fun x => decide (turnOf tms x = (a, b, c))) ≤ (gOf p c).toNat := by
    unfold allRows
    rw [List.countP_flatMap]
    refine sum_one (·.1) _ c _ d.nd (fun z hz hc => ?_) fun z hz hc => ?_
    · show List.countP _ (rowsOf tms (ofsOf p pots z.1) z.1 z.2) = 0
      rw [List.countP_eq_zero]
      intro x hx
      obtain ⟨r, j, _, hx'⟩ := rows_in hx
      have := row_col nd hx'
      rw [decide_eq_true_eq]
      intro q
      have q2 : colOf tms x.team = c := congrArg (fun t => t.2.2) q
      exact hc (this.symm.trans q2)
    · show List.countP _ (rowsOf tms (ofsOf p pots z.1) z.1 z.2) ≤ _
      have v := d.vr z hz
      generalize hofs : ofsOf p pots z.1 = ofs at v
      have hbound : ∀ (j : Nat) (r : List Nat), z.2[j]? = some r → ∀ n ∈ r, n < ofs.length := fun j r hr n hn => by
        obtain ⟨o3, ho, _⟩ := v.av j r n hr hn
        have := (List.getElem?_eq_some_iff.mp ho).1
        rwa [List.length_map] at this
      have hinj : ∀ n m, n < ofs.length → m < ofs.length → pnOf ofs n = pnOf ofs m → n = m := fun n m h1 h2 e => by
        subst hofs
        exact pnOf_inj h1 h2 e
      unfold rowsOf
      rw [List.countP_flatMap]
      by_cases hn0 : ∃ n0, n0 < ofs.length ∧ pnOf ofs n0 = (a, b)
      · obtain ⟨n0, hl, e0⟩ := hn0
        refine Nat.le_trans (sum_le_sum (g := fun q : List Nat × Nat => if decide (n0 ∈ q.1) = true then 1 else 0) fun q hq => ?_) ?_
        · obtain ⟨r, j⟩ := q
          obtain ⟨k, hk⟩ := List.mem_iff_getElem?.mp hq
          obtain ⟨e, rfl⟩ := zip_mem hk
          show List.countP _ (rowOf tms ofs z.1 (r, j)) ≤ _
          unfold rowOf
          refine Nat.le_trans (zip_countP (T := (a, b)) fun nm pn hh => ?_) ?_
          · have := of_decide_eq_true hh
            exact Prod.ext (congrArg (fun t => t.1) this) (congrArg (fun t => t.2.1) this)
          · rw [List.countP_map]
            have hnd := v.nd r (List.mem_of_getElem? e)
            have hb := hbound j r e
            have e1 : r.countP ((fun q => decide (q = (a, b))) ∘ pnOf ofs) = r.countP (fun n => n == n0) := by
              refine List.countP_congr fun n hn => ?_
              show decide (pnOf ofs n = (a, b)) = true ↔ (n == n0) = true
              rw [decide_eq_true_eq, beq_iff_eq]
              exact ⟨fun y => hinj n n0 (hb n hn) hl (y.trans e0.symm), fun y => by rw [y]; exact e0⟩
            rw [e1]
            show r.count n0 ≤ _
            by_cases m : n0 ∈ r
            · rw [if_pos (decide_eq_true m)]
              exact List.nodup_iff_count.mp hnd n0
            · rw [List.count_eq_zero.mpr m]
              exact Nat.zero_le _
        · rw [zsum (fun r => decide (n0 ∈ r)) z.2 0]
          obtain ⟨o, ho⟩ : ∃ o, ofs[n0]? = some o := ⟨_, List.getElem?_eq_getElem hl⟩
          have := v.cap n0 (to3 o) (by rw [List.getElem?_map, ho]; rfl)
          have hgo : o.g = gOf p c := by
            subst hofs
            rw [← hc]
            exact offersF_g (List.mem_of_getElem? ho)
          have e3 : (to3 o).g = gOf p c := hgo
          rw [e3] at this
          unfold K83.hc at this
          omega
      · have : ∀ q ∈ z.2.zipIdx, (List.countP (fun x => decide (turnOf tms x = (a, b, c))) ∘ rowOf tms ofs z.1) q ≤ (fun _ => 0) q := fun q hq => by
          obtain ⟨r, j⟩ := q
          obtain ⟨k, hk⟩ := List.mem_iff_getElem?.mp hq
          obtain ⟨e, rfl⟩ := zip_mem hk
          show List.countP _ (rowOf tms ofs z.1 (r, j)) ≤ 0
          rw [Nat.le_zero, List.countP_eq_zero]
          intro x hx
          rw [decide_eq_true_eq]
          intro y
          obtain ⟨tm, n, _, _, _, hn, e2, _⟩ := row_in hx
          refine hn0 ⟨n, hbound j r e n hn, ?_⟩
          rw [← e2]
          exact Prod.ext (congrArg (fun t => t.1) y) (congrArg (fun t => t.2.1) y)
        have := sum_le_sum this
        rw [sum_const] at this
        omega
  have h2 : (gOf p c).toNat = gOf p c := Int.toNat_of_nonneg hg
  show _ ≤ gOf p c
  omega
end K83
set_option maxRecDepth 100000
set_option maxHeartbeats 4000000
namespace K83
open PySem PySem.Spec PyProof.Rows L2
theorem day_hour {p : Pal} {pots : List (List Trn)} {tms : List Tm} {sv : List (Str × List (List Nat))} (d : DayR p pots tms sv) {x : Rw} (h : x ∈ allRows p pots tms sv) : 0 ≤ x.hour ∧ x.hour < 60 := by
  obtain ⟨z, r, j, hz, hr, hx⟩ := all_in h
  obtain ⟨tm, n, ht, a, e1, hn, e2, e3⟩ := row_in hx
  have hl := (List.getElem?_eq_some_iff.mp hr).1
  rw [(d.vr z hz).len] at hl
  unfold wantsN at hl
  rw [List.length_map, List.length_range] at hl
  rw [e3]
  simp only
  omega
theorem rng_count (n : Nat) : ∀ (a b : Int), 0 ≤ a → a ≤ b → b ≤ (n : Int) → ((List.range n).countP fun h : Nat => decide (a ≤ (h : Int) ∧ (h : Int) < b) : Int) = b - a := by
  induction n with
  | zero => intro a b h1 h2 h3; simp only [List.range_zero, List.countP_nil]; omega
  | succ n ih =>
    intro a b h1 h2 h3
    rw [List.range_succ, List.countP_append, List.countP_singleton]
    by_cases e : b ≤ (n : Int)
    · have := ih a b h1 h2 e
      rw [if_neg (by rw [decide_eq_true_eq]; omega)]
      omega
    · by_cases e2 : a ≤ (n : Int)
      · have := ih a n h1 e2 (Int.le_refl _)
        have e3 : (List.range n).countP (fun h : Nat => decide (a ≤ (h : Int) ∧ (h : Int) < b)) = (List.range n).countP fun h : Nat => decide (a ≤ (h : Int) ∧ (h : Int) < (n : Int)) := by
          refine List.countP_congr fun h hh => ?_
          rw [decide_eq_true_eq, decide_eq_true_eq]
          have := List.mem_range.mp hh
          omega
        rw [e3, if_pos (by rw [decide_eq_true_eq]; omega)]
        omega
      · have e3 : (List.range n).countP (fun h : Nat => decide (a ≤ (h : Int) ∧ (h : Int) < b)) = 0 := by
          rw [List.countP_eq_zero]
          intro h hh
          rw [decide_eq_true_eq]
          have := List.mem_range.mp hh
          omega
        rw [e3, if_neg (by rw [decide_eq_true_eq]; omega)]
        omega
theorem by_hours : ∀ {l : List Rw}, (∀ x ∈ l, 0 ≤ x.hour ∧ x.hour < 60) → l.length = ((List.range 60).map fun h : Nat => (l.filter fun x => decide (x.hour = (h : Int))).length).sum := fun {l} hl => by
  have e : ((List.range 60).map fun h : Nat => (l.filter fun x => decide (x.hour = (h : Int))).length) = (List.range 60).map fun h : Nat => l.countP ((fun (h : Nat) (x : Rw) => decide (x.hour = (h : Int))) h) := by
    refine List.map_congr_left fun h _ => ?_
    rw [List.countP_eq_length_filter]
  rw [e, sum_swap (fun (h : Nat) (x : Rw) => decide (x.hour = (h : Int)))]
  have e2 : (l.map fun y => (List.range 60).countP fun x : Nat => decide (y.hour = (x : Int))) = l.map fun _ => 1 := by
    refine List.map_congr_left fun y hy => ?_
    obtain ⟨h1, h2⟩ := hl y hy
    have := rng_count 60 y.hour (y.hour + 1) h1 (by omega) (by omega)
    have e3 : (List.range 60).countP (fun x : Nat => decide (y.hour = (x : Int))) = (List.range 60).countP fun h : Nat => decide (y.hour ≤ (h : Int) ∧ (h : Int) < y.hour + 1) := by
      refine List.countP_congr fun h _ => ?_
      rw [decide_eq_true_eq, decide_eq_true_eq]
      omega
    rw [e3]
    omega
  rw [e2, sum_const, Nat.mul_one]
/-- a team's hours as they are drawn -/
def TmOk (tms : List Tm) : Prop := ∀ tm ∈ tms, 0 ≤ tm.first ∧ tm.first ≤ tm.last ∧ tm.last ≤ 60
theorem at_len (tms : List Tm) (h : Int) : (atHour tms h).length = tms.countP fun tm => decide (tm.first ≤ h ∧ h < tm.last) := by
  unfold atHour
  induction tms with
  | nil => rfl
  | cons a tms ih =>
    rw [List.filterMap_cons, List.countP_cons]
    by_cases e : a.first ≤ h ∧ h < a.last
    · rw [if_pos e, if_pos (decide_eq_true e)]
      show List.length (_ :: _) = _
      rw [List.length_cons, ih]
    · rw [if_neg e, if_neg (by rw [decide_eq_true_eq]; exact e)]
      exact ih
theorem day_len {p : Pal} {pots : List (List Trn)} {tms : List Tm} {sv : List (Str × List (List Nat))} (d : DayR p pots tms sv) (ok : TmOk tms) : (((allRows p pots tms sv).length : Nat) : Int) = (tms.map fun tm => tm.last - tm.first).sum := by
  rw [by_hours fun x hx => day_hour d hx]
  have e : ((List.range 60).map fun h : Nat => ((allRows p pots tms sv).filter fun x => decide (x.hour = (h : Int))).length) = (List.range 60).map fun h : Nat => tms.countP ((fun (h : Nat) (tm : Tm) => decide (tm.first ≤ (h : Int) ∧ (h : Int) < tm.last)) h) := by
    refine List.map_congr_left fun h hh => ?_
    have := (day_names d (List.mem_range.mp hh)).length_eq
    rw [List.length_map] at this
    rw [this, at_len]
  rw [e, sum_swap (fun (h : Nat) (tm : Tm) => decide (tm.first ≤ (h : Int) ∧ (h : Int) < tm.last))]
  clear e d
  induction tms with
  | nil => rfl
  | cons a tms ih =>
    rw [List.map_cons, List.sum_cons, List.map_cons, List.sum_cons, ← ih fun tm h => ok tm (List.mem_cons_of_mem _ h)]
    obtain ⟨h1, h2, h3⟩ := ok a List.mem_cons_self
    have := rng_count 60 a.first a.last h1 h2 h3
    omega
/-- no turn is worked twice in one hour -/
theorem day_turns {p : Pal} {pots : List (List Trn)} {tms : List Tm} {sv : List (Str × List (List Nat))} (d : DayR p pots tms sv) (nd : (tms.map (·.name)).Nodup) (h : Nat) :
    (((allRows p pots tms sv).filter fun x => decide (x.hour = (h : Int))).Pairwise fun a b => turnOf tms a ≠ turnOf tms b) := by
  rw [allRows_at, List.pairwise_flatMap]
  have hcol : ∀ z ∈ sv, ∀ x ∈ rowAtH tms (ofsOf p pots z.1) z.1 z.2 h, colOf tms x.team = z.1 := fun z hz x hx => by
    unfold rowAtH at hx
    cases e : z.2[h]? with
    | none => rw [e] at hx; exact nomatch hx
    | some r => rw [e] at hx; exact row_col nd (q := (r, h)) hx
  refine ⟨fun z hz => ?_, ?_⟩
  · have v := d.vr z hz
    unfold rowAtH
    cases e : z.2[h]? with
    | none => exact List.Pairwise.nil
    | some r =>
      show (((wantF tms z.1 (h : Int)).zip (r.map (pnOf (ofsOf p pots z.1)))).map (rwOf h)).Pairwise _
      rw [List.pairwise_map]
      have hr : (r.map (pnOf (ofsOf p pots z.1))).Pairwise (· ≠ ·) := by
        rw [List.pairwise_map]
        refine (v.nd r (List.mem_of_getElem? e)).imp_of_mem fun {n m} hn hm hnm q => hnm ?_
        have b : ∀ k ∈ r, k < (ofsOf p pots z.1).length := fun k hk => by
          obtain ⟨o3, ho, _⟩ := v.av h r k e hk
          have := (List.getElem?_eq_some_iff.mp ho).1
          rwa [List.length_map] at this
        exact pnOf_inj (b n hn) (b m hm) q
      have key : ∀ (ns : List Str) (ps : List (Int × Int)), ps.Pairwise (· ≠ ·) → (ns.zip ps).Pairwise fun a b => turnOf tms (rwOf h a) ≠ turnOf tms (rwOf h b) := by
        intro ns
        induction ns with
        | nil => intro ps _; rw [List.zip_nil_left]; exact List.Pairwise.nil
        | cons n ns ih =>
          intro ps hp
          cases ps with
          | nil => rw [List.zip_nil_right]; exact List.Pairwise.nil
          | cons q ps =>
            rw [List.zip_cons_cons]
            obtain ⟨p1, p2⟩ := List.pairwise_cons.mp hp
            refine List.pairwise_cons.mpr ⟨fun b hb y => ?_, ih ps p2⟩
            obtain ⟨nm, pn⟩ := b
            have hb2 := (List.of_mem_zip hb).2
            refine p1 pn hb2 ?_
            exact Prod.ext (congrArg (fun t => t.1) y) (congrArg (fun t => t.2.1) y)
      exact key _ _ hr
  · refine (List.pairwise_map.mp d.nd).imp_of_mem fun {z1 z2} h1 h2 hne x hx y hy q => hne ?_
    rw [← hcol z1 h1 x hx, ← hcol z2 h2 y hy]
    exact congrArg (fun t => t.2.2) q
end K83
set_option maxRecDepth 100000
set_option maxHeartbeats 4000000
namespace K83
open PySem PySem.Spec PyProof.Rows L2
theorem sh_all : ∀ {ds : List PyData}, (∀ d ∈ ds, PyData.canLay0 d = true ∧ d.depth ≤ 2) → PyData.canLayAll0 ds = true ∧ PyData.depthAll ds ≤ 2
  | [], _ => ⟨rfl, Nat.zero_le _⟩
  | d :: ds, h => by
    obtain ⟨h1, h2⟩ := sh_all fun x hx => h x (List.mem_cons_of_mem _ hx)
    obtain ⟨h3, h4⟩ := h d List.mem_cons_self
    refine ⟨by rw [PyData.canLayAll0, h1, h3]; rfl, ?_⟩
    rw [PyData.depthAll]
    exact Nat.max_le.mpr ⟨h4, h2⟩
theorem sh_list {ds : List PyData} (h : ∀ d ∈ ds, PyData.canLay0 d = true ∧ d.depth ≤ 2) : SeqAt.shaped (.list ds) = true := by
  obtain ⟨h1, h2⟩ := sh_all h
  unfold SeqAt.shaped
  rw [PyData.canLay0, h1, PyData.depth, Bool.true_and, decide_eq_true_eq]
  omega
theorem lay_rw {r : Rw} (h : sOk r.team) : PyData.canLay0 (rwD r) = true ∧ (rwD r).depth ≤ 2 := by
  simp [rwD, PyData.canLay0, PyData.canLayAll0, PyData.depth, PyData.depthAll, show PyData.strOk r.team = true from h]
theorem lay_nw {q : Nw} (h : sOk q.col) : PyData.canLay0 (nwD q) = true ∧ (nwD q).depth ≤ 2 := by
  simp [nwD, PyData.canLay0, PyData.canLayAll0, PyData.depth, PyData.depthAll, show PyData.strOk q.col = true from h]
theorem lay_str {x : Str} (h : sOk x) : PyData.canLay0 (.str x) = true ∧ (PyData.str x).depth ≤ 2 := by
  simp [PyData.canLay0, PyData.depth, show PyData.strOk x = true from h]
theorem sh_refl {d : PyData} (h : SeqAt.shaped d = true) : PyData.eqv d d = true := by
  unfold SeqAt.shaped at h
  rw [Bool.and_eq_true] at h
  exact PySem.SeqAt.eqv_refl d h.1
theorem sh_rows {R : List Rw} (h : ∀ r ∈ R, sOk r.team) : SeqAt.shaped (.list (R.map rwD)) = true := sh_list fun d hd => by
  obtain ⟨r, hr, rfl⟩ := List.mem_map.mp hd
  exact lay_rw (h r hr)
theorem sh_nows {R : List Nw} (h : ∀ r ∈ R, sOk r.col) : SeqAt.shaped (.list (R.map nwD)) = true := sh_list fun d hd => by
  obtain ⟨r, hr, rfl⟩ := List.mem_map.mp hd
  exact lay_nw (h r hr)
theorem sh_strs {R : List Str} (h : ∀ r ∈ R, sOk r) : SeqAt.shaped (.list (R.map .str)) = true := sh_list fun d hd => by
  obtain ⟨r, hr, rfl⟩ := List.mem_map.mp hd
  exact lay_str (h r hr)
theorem sh_nw {q : Nw} (h : sOk q.col) : SeqAt.shaped (nwD q) = true := by
  obtain ⟨h1, h2⟩ := lay_nw h
  unfold SeqAt.shaped
  rw [h1, Bool.true_and, decide_eq_true_eq]
  omega
theorem eqv_nw (a b : Nw) : PyData.eqv (nwD a) (nwD b) = true ↔ a = b := by
  obtain ⟨a1, a2, a3⟩ := a
  obtain ⟨b1, b2, b3⟩ := b
  simp [nwD, PyData.eqv, PyData.eqvAll]
/-- a key and its datum, as a pair -/
def kvD (q : Str × Str) : PyData := .tuple [.str q.1, .str q.2]
def kiD (q : Str × Int) : PyData := .tuple [.str q.1, .int q.2]
theorem kv_mk {H : Hp} {q : Str × Str} {a : Addr} (h : H a = some (.tup [.str q.1, .str q.2])) : Dv H (kvD q) (.ref a) := ⟨a, _, rfl, h, _, _, rfl, rfl, _, _, rfl, rfl, rfl⟩
theorem kv_of {H : Hp} {q : Str × Str} {v : V} (h : Dv H (kvD q) v) : ∃ a, v = .ref a ∧ H a = some (.tup [.str q.1, .str q.2]) := by
  obtain ⟨a, xs, e, ha, x1, r1, rfl, h1, x2, r2, rfl, h2, h6⟩ := h
  cases h1; cases h2; cases h6
  exact ⟨a, e, ha⟩
theorem ki_mk {H : Hp} {q : Str × Int} {a : Addr} (h : H a = some (.tup [.str q.1, .int q.2])) : Dv H (kiD q) (.ref a) := ⟨a, _, rfl, h, _, _, rfl, rfl, _, _, rfl, rfl, rfl⟩
theorem ki_of {H : Hp} {q : Str × Int} {v : V} (h : Dv H (kiD q) v) : ∃ a, v = .ref a ∧ H a = some (.tup [.str q.1, .int q.2]) := by
  obtain ⟨a, xs, e, ha, x1, r1, rfl, h1, x2, r2, rfl, h2, h6⟩ := h
  cases h1; cases h2; cases h6
  exact ⟨a, e, ha⟩
def kvE (q : Str × Str) : Key × V := (.inr q.1, .str q.2)
def kiE (q : Str × Int) : Key × V := (.inr q.1, .int q.2)
theorem kvs_of {K : PySem.W.Frag} {H : Hp} : ∀ {qs : List (Str × Str)} {ys : List V}, DvAll H (qs.map kvD) ys → ∃ ps : List Addr, ys = ps.map V.ref ∧ Paired (fun p (kv : Key × V) => SqT K H p [kV kv.1, kv.2]) ps (qs.map kvE)
  | [], ys, h => by cases h; exact ⟨[], rfl, .nil⟩
  | q :: qs, ys, h => by
    obtain ⟨x, r, rfl, h1, h2⟩ := h
    obtain ⟨a, rfl, ha⟩ := kv_of h1
    obtain ⟨ps, rfl, hp⟩ := kvs_of (K := K) h2
    exact ⟨a :: ps, rfl, .cons (SqT.of ha) hp⟩
theorem kis_of {K : PySem.W.Frag} {H : Hp} : ∀ {qs : List (Str × Int)} {ys : List V}, DvAll H (qs.map kiD) ys → ∃ ps : List Addr, ys = ps.map V.ref ∧ Paired (fun p (kv : Key × V) => SqT K H p [kV kv.1, kv.2]) ps (qs.map kiE)
  | [], ys, h => by cases h; exact ⟨[], rfl, .nil⟩
  | q :: qs, ys, h => by
    obtain ⟨x, r, rfl, h1, h2⟩ := h
    obtain ⟨a, rfl, ha⟩ := ki_of h1
    obtain ⟨ps, rfl, hp⟩ := kis_of (K := K) h2
    exact ⟨a :: ps, rfl, .cons (SqT.of ha) hp⟩
/-- the colours and the gathers, as the law keeps them -/
def colsE (tms : List Tm) : List (Key × V) := mergeK [] ((tms.map fun tm => (tm.name, tm.col)).map kvE)
def gathE (p : Pal) : List (Key × V) := mergeK [] ((p.cs.map fun c => (c.name, c.gathers)).map kiE)
theorem cols_at {tms : List Tm} (nd : (tms.map (·.name)).Nodup) {tm : Tm} (h : tm ∈ tms) : valV (colsE tms) (.inr tm.name) = some (.str tm.col) := by
  refine merge_mem ?_ (List.mem_map.mpr ⟨(tm.name, tm.col), List.mem_map.mpr ⟨tm, h, rfl⟩, rfl⟩)
  rw [List.map_map, List.map_map, List.Nodup, List.pairwise_map]
  exact (List.pairwise_map.mp nd).imp fun {a b} q z => q (Sum.inr.inj z)
theorem gath_at {p : Pal} (o : POk p) {x : Str} {c : Col} (h : p.find x = some c) : valV (gathE p) (.inr x) = some (.int c.gathers) := by
  obtain ⟨h1, h2⟩ := find_name h
  refine merge_mem ?_ (List.mem_map.mpr ⟨(c.name, c.gathers), List.mem_map.mpr ⟨c, h1, rfl⟩, by rw [← h2]; rfl⟩)
  rw [List.map_map, List.map_map, List.Nodup, List.pairwise_map]
  exact (List.pairwise_map.mp o.nd).imp fun {a b} q z => q (Sum.inr.inj z)
/-! the turns' counts -/
def kk (t : Int × Int × Str) : List Key := [.inl t.1, .inl t.2.1, .inr t.2.2]
theorem kk_inj {a b : Int × Int × Str} (h : kk a = kk b) : a = b := by
  obtain ⟨a1, a2, a3⟩ := a
  obtain ⟨b1, b2, b3⟩ := b
  simp only [kk, List.cons.injEq, Sum.inl.injEq, Sum.inr.injEq, and_true] at h
  rw [h.1, h.2.1, h.2.2]
/-- what is left, after the rows of done -/
def LeftAt (p : Pal) (tms : List Tm) (done : List Rw) (kvs : List (List Key × V)) : Prop :=
  (∀ T, (∃ c, p.find T.2.2 = some c) → valV kvs (kk T) = if done.countP (fun x => decide (turnOf tms x = T)) = 0 then none else some (.int (gOf p T.2.2 - ((done.countP (fun x => decide (turnOf tms x = T)) : Nat) : Int)))) ∧
  ∀ e ∈ kvs, ∃ T, e.1 = kk T ∧ e.2 = .int (gOf p T.2.2 - ((done.countP (fun x => decide (turnOf tms x = T)) : Nat) : Int)) ∧ ∃ c, p.find T.2.2 = some c
theorem put_mem {κ : Type} [DecidableEq κ] {kvs : List (κ × V)} {k : κ} {v : V} {e : κ × V} (h : e ∈ putK kvs k v) : e = (k, v) ∨ (e ∈ kvs ∧ e.1 ≠ k) := by
  unfold putK at h
  by_cases a : (kvs.any fun kv => decide (kv.1 = k)) = true
  · rw [if_pos a] at h
    obtain ⟨x, hx, rfl⟩ := List.mem_map.mp h
    by_cases q : x.1 = k
    · rw [if_pos q, ← q]; exact .inl rfl
    · rw [if_neg q]; exact .inr ⟨hx, q⟩
  · rw [if_neg a] at h
    rcases List.mem_append.mp h with q | q
    · refine .inr ⟨q, fun z => a ?_⟩
      rw [List.any_eq_true]
      exact ⟨e, q, decide_eq_true z⟩
    · exact .inl (List.mem_singleton.mp q)
theorem put_len {κ : Type} [DecidableEq κ] (kvs : List (κ × V)) (k : κ) (v : V) : (putK kvs k v).length ≤ kvs.length + 1 := by
  unfold putK
  by_cases a : (kvs.any fun kv => decide (kv.1 = k)) = true
  · rw [if_pos a, List.length_map]; omega
  · rw [if_neg a, List.length_append]; exact Nat.le_refl _
theorem LeftAt.put {p : Pal} {tms : List Tm} {done : List Rw} {kvs : List (List Key × V)} (l : LeftAt p tms done kvs) {x : Rw} {c : Col} (hc : p.find (turnOf tms x).2.2 = some c) :
    ∃ m : Int, (valV kvs (kk (turnOf tms x))).getD (.int c.gathers) = .int m ∧ LeftAt p tms (done ++ [x]) (putK kvs (kk (turnOf tms x)) (.int (m - 1))) := by
  have hg : gOf p (turnOf tms x).2.2 = c.gathers := by unfold gOf; rw [hc]; rfl
  have key : ∀ T, (done ++ [x]).countP (fun y => decide (turnOf tms y = T)) = done.countP (fun y => decide (turnOf tms y = T)) + if turnOf tms x = T then 1 else 0 := fun T => by
    rw [List.countP_append, List.countP_singleton]
    by_cases e : turnOf tms x = T
    · rw [if_pos (decide_eq_true e), if_pos e]
    · rw [if_neg (by rw [decide_eq_true_eq]; exact e), if_neg e]
  refine ⟨gOf p (turnOf tms x).2.2 - ((done.countP (fun y => decide (turnOf tms y = turnOf tms x)) : Nat) : Int), ?_, fun T hT => ?_, fun e he => ?_⟩
  · rw [l.1 _ ⟨c, hc⟩]
    by_cases z : done.countP (fun y => decide (turnOf tms y = turnOf tms x)) = 0
    · rw [if_pos z, z, hg]
      show V.int c.gathers = _
      congr 1
      omega
    · rw [if_neg z]; rfl
  · rw [valV_put, key]
    by_cases e : turnOf tms x = T
    · subst e
      rw [if_pos rfl, if_pos rfl, if_neg (by omega)]
      congr 2
      omega
    · rw [if_neg (fun z => e (kk_inj z).symm), if_neg e, l.1 T hT]
      rfl
  · rcases put_mem he with rfl | ⟨q, hne⟩
    · refine ⟨turnOf tms x, rfl, ?_, c, hc⟩
      rw [key, if_pos rfl]
      show V.int _ = V.int _
      congr 1
      omega
    · obtain ⟨T, e1, e2, e3⟩ := l.2 e q
      refine ⟨T, e1, ?_, e3⟩
      rw [key, if_neg (fun z => hne (by rw [e1, z])), e2]
      rfl
end K83
set_option maxRecDepth 100000
set_option maxHeartbeats 4000000
namespace K83
open PySem PySem.Spec PyProof.Rows L2
theorem LeftAt.nil (p : Pal) (tms : List Tm) : LeftAt p tms [] [] := ⟨fun T _ => by rw [List.countP_nil, if_pos rfl]; rfl, fun e he => nomatch he⟩
theorem LeftAt.cong {p : Pal} {tms : List Tm} {d1 d2 : List Rw} {kvs : List (List Key × V)} (l : LeftAt p tms d1 kvs) (h : ∀ f : Rw → Bool, d1.countP f = d2.countP f) : LeftAt p tms d2 kvs := by
  refine ⟨fun T hT => ?_, fun e he => ?_⟩
  · rw [← h]; exact l.1 T hT
  · obtain ⟨T, e1, e2, e3⟩ := l.2 e he
    exact ⟨T, e1, by rw [← h]; exact e2, e3⟩
theorem filt_lt (f : Rw → Bool) (i : Int) (R : List Rw) : ((R.filter fun x => decide (x.hour < i)) ++ R.filter fun x => decide (x.hour = i)).countP f = (R.filter fun x => decide (x.hour < i + 1)).countP f := by
  rw [List.countP_append]
  induction R with
  | nil => rfl
  | cons x R ih =>
    rw [List.filter_cons, List.filter_cons, List.filter_cons]
    by_cases h1 : x.hour < i
    · rw [if_pos (decide_eq_true h1), if_neg (by rw [decide_eq_true_eq]; omega), if_pos (decide_eq_true (show x.hour < i + 1 by omega)), List.countP_cons, List.countP_cons]
      omega
    · by_cases h2 : x.hour = i
      · rw [if_neg (by rw [decide_eq_true_eq]; exact h1), if_pos (decide_eq_true h2), if_pos (decide_eq_true (show x.hour < i + 1 by omega)), List.countP_cons, List.countP_cons]
        omega
      · rw [if_neg (by rw [decide_eq_true_eq]; exact h1), if_neg (by rw [decide_eq_true_eq]; exact h2), if_neg (by rw [decide_eq_true_eq]; omega)]
        exact ih
theorem filt_ltl (i : Int) (R : List Rw) : ((R.filter fun x => decide (x.hour < i)) ++ R.filter fun x => decide (x.hour = i)).length = (R.filter fun x => decide (x.hour < i + 1)).length := by
  have := filt_lt (fun _ => true) i R
  rwa [List.countP_true] at this
theorem filt_all {R : List Rw} (h : ∀ x ∈ R, x.hour < 60) : (R.filter fun x => decide (x.hour < 60)) = R := List.filter_eq_self.mpr fun x hx => decide_eq_true (h x hx)
theorem filt_zero {R : List Rw} (h : ∀ x ∈ R, 0 ≤ x.hour) : (R.filter fun x => decide (x.hour < 0)) = [] := List.filter_eq_nil_iff.mpr fun x hx => by
  have := h x hx
  rw [decide_eq_true_eq]; omega
/-! sums -/
theorem sum_nn {β : Type} (G : β → Int) : ∀ m : List β, (∀ b ∈ m, 0 ≤ G b) → 0 ≤ (m.map G).sum
  | [], _ => Int.le_refl _
  | b :: m, h => by
    rw [List.map_cons, List.sum_cons]
    have h1 := h b List.mem_cons_self
    have h2 := sum_nn G m fun x hx => h x (List.mem_cons_of_mem _ hx)
    omega
theorem sum_inj {α β κ : Type} (ka : α → κ) (kb : β → κ) (F : α → Int) (G : β → Int) : ∀ (l : List α) (m : List β), (∀ b ∈ m, 0 ≤ G b) → (l.map ka).Nodup → (∀ a ∈ l, F a ≤ 0 ∨ ∃ b ∈ m, kb b = ka a ∧ F a ≤ G b) → (l.map F).sum ≤ (m.map G).sum
  | [], m, hG, _, _ => by
    rw [List.map_nil, List.sum_nil]
    exact sum_nn G m hG
  | a :: l, m, hG, nd, h => by
    rw [List.map_cons] at nd
    obtain ⟨n1, n2⟩ := List.nodup_cons.mp nd
    rw [List.map_cons, List.sum_cons]
    rcases h a List.mem_cons_self with h0 | ⟨b, hb, e, hle⟩
    · have := sum_inj ka kb F G l m hG n2 fun x hx => h x (List.mem_cons_of_mem _ hx)
      omega
    · obtain ⟨s, t, rfl⟩ := List.append_of_mem hb
      have := sum_inj ka kb F G l (s ++ t) (fun x hx => hG x (by
        rcases List.mem_append.mp hx with q | q
        · exact List.mem_append_left _ q
        · exact List.mem_append_right _ (List.mem_cons_of_mem _ q))) n2 fun x hx => by
          rcases h x (List.mem_cons_of_mem _ hx) with q | ⟨b', hb', e', hle'⟩
          · exact .inl q
          · refine .inr ⟨b', ?_, e', hle'⟩
            rcases List.mem_append.mp hb' with q | q
            · exact List.mem_append_left _ q
            · rcases List.mem_cons.mp q with q | q
              · subst q
                exact absurd (List.mem_map.mpr ⟨x, hx, e'.symm.trans e⟩) n1
              · exact List.mem_append_right _ q
      rw [List.map_append, List.sum_append] at this ⊢
      rw [List.map_cons, List.sum_cons]
      omega
/-! the teams till an hour -/
def mn (i j : Int) : Int := if j < i then j else i
def early1 (hour : Nat) (tm : Tm) : Option Tm := if tm.first < (hour : Int) then some ⟨tm.name, tm.col, tm.first, mn tm.last (hour : Int)⟩ else none
def earlyF (hour : Nat) (tms : List Tm) : List Tm := tms.filterMap (early1 hour)
theorem early_mem {hour : Nat} {tms : List Tm} {x : Tm} (h : x ∈ earlyF hour tms) : ∃ tm ∈ tms, tm.first < (hour : Int) ∧ x = ⟨tm.name, tm.col, tm.first, mn tm.last (hour : Int)⟩ := by
  obtain ⟨tm, h1, h2⟩ := List.mem_filterMap.mp h
  unfold early1 at h2
  by_cases e : tm.first < (hour : Int)
  · rw [if_pos e] at h2; cases h2
    exact ⟨tm, h1, e, rfl⟩
  · rw [if_neg e] at h2; cases h2
theorem early_names (c : Str) (hour k : Nat) (tms : List Tm) : namesAt (earlyF hour tms) c (k : Int) = if k < hour then namesAt tms c (k : Int) else [] := by
  induction tms with
  | nil => by_cases e : k < hour <;> simp [earlyF, namesAt, e]
  | cons tm tms ih =>
    have e1 : namesAt (tm :: tms) c (k : Int) = (if active tm c (k : Int) then [tm.name] else []) ++ namesAt tms c (k : Int) := by
      unfold namesAt
      rw [List.filterMap_cons]
      by_cases a : active tm c (k : Int)
      · rw [if_pos a, if_pos a]; rfl
      · rw [if_neg a, if_neg a]; rfl
    have e2 : namesAt (earlyF hour (tm :: tms)) c (k : Int) = (if k < hour ∧ active tm c (k : Int) then [tm.name] else []) ++ namesAt (earlyF hour tms) c (k : Int) := by
      unfold earlyF
      rw [List.filterMap_cons]
      by_cases a : tm.first < (hour : Int)
      · have e3 : early1 hour tm = some ⟨tm.name, tm.col, tm.first, mn tm.last (hour : Int)⟩ := if_pos a
        rw [e3]
        show namesAt (_ :: _) c (k : Int) = _
        unfold namesAt
        rw [List.filterMap_cons]
        by_cases b : k < hour ∧ active tm c (k : Int)
        · rw [if_pos b]
          have : active ⟨tm.name, tm.col, tm.first, mn tm.last (hour : Int)⟩ c (k : Int) := ⟨b.2.1, b.2.2.1, by
            show (k : Int) < mn tm.last (hour : Int)
            have := b.2.2.2
            unfold mn
            by_cases q : (hour : Int) < tm.last
            · rw [if_pos q]; omega
            · rw [if_neg q]; exact this⟩
          rw [if_pos this]; rfl
        · rw [if_neg b]
          have : ¬ active ⟨tm.name, tm.col, tm.first, mn tm.last (hour : Int)⟩ c (k : Int) := fun z => b (by
            obtain ⟨z1, z2, z3⟩ := z
            have z3' : (k : Int) < mn tm.last (hour : Int) := z3
            unfold mn at z3'
            by_cases q : (hour : Int) < tm.last
            · rw [if_pos q] at z3'; exact ⟨by omega, z1, z2, by omega⟩
            · rw [if_neg q] at z3'; exact ⟨by omega, z1, z2, z3'⟩)
          rw [if_neg this]; rfl
      · have e3 : early1 hour tm = none := if_neg a
        rw [e3, if_neg (fun z => a (by have := z.2.2.1; omega))]; rfl
    rw [e1, e2, ih]
    by_cases e : k < hour
    · rw [if_pos e, if_pos e]
      congr 1
      by_cases a : active tm c (k : Int)
      · rw [if_pos a, if_pos ⟨e, a⟩]
      · rw [if_neg a, if_neg fun z => a z.2]
    · rw [if_neg e, if_neg e, if_neg fun z => e z.1]; rfl
theorem wantsN_at {tms : List Tm} {c : Str} {h : Nat} (hh : h < 60) : (wantsN tms c)[h]? = some (namesAt tms c (h : Int)).length := by
  unfold wantsN
  rw [List.getElem?_map, List.getElem?_range hh]
  rfl
theorem wantsN_len (tms : List Tm) (c : Str) : (wantsN tms c).length = 60 := by
  unfold wantsN
  rw [List.length_map, List.length_range]
theorem VR.early {os : List Of3} {tms : List Tm} {c : Str} {hour : Nat} {rows : List (List Nat)} (v : VR os ((wantsN tms c).take hour) rows) (hh : hour ≤ 60) : VR os (wantsN (earlyF hour tms) c) (rows ++ List.replicate (60 - hour) []) := by
  have hl : rows.length = hour := by rw [v.len, List.length_take, wantsN_len]; omega
  have get : ∀ (h : Nat) (r : List Nat), (rows ++ List.replicate (60 - hour) [])[h]? = some r → (h < hour ∧ rows[h]? = some r) ∨ (¬ h < hour ∧ r = []) := fun h r hr => by
    by_cases e : h < hour
    · rw [List.getElem?_append_left (by omega)] at hr; exact .inl ⟨e, hr⟩
    · rw [List.getElem?_append_right (by omega)] at hr
      exact .inr ⟨e, (List.mem_replicate.mp (List.mem_of_getElem? hr)).2⟩
  refine ⟨by rw [List.length_append, List.length_replicate, wantsN_len]; omega, fun r hr => ?_, fun h r n h1 h2 => ?_, fun h r w h1 h2 => ?_, fun n o ho => ?_⟩
  · rcases List.mem_append.mp hr with q | q
    · exact v.nd r q
    · rw [(List.mem_replicate.mp q).2]; exact List.nodup_nil
  · rcases get h r h1 with q | q
    · exact v.av h r n q.2 h2
    · rw [q.2] at h2; exact nomatch h2
  · have h60 : h < 60 := by
      have := (List.getElem?_eq_some_iff.mp h2).1
      rwa [wantsN_len] at this
    rw [wantsN_at h60, early_names] at h2
    rcases get h r h1 with q | q
    · rw [if_pos q.1] at h2
      exact v.size h r w q.2 (by rw [List.getElem?_take, if_pos q.1, wantsN_at h60]; exact h2)
    · rw [if_neg q.1] at h2
      cases h2
      rw [q.2]; rfl
  · have := v.cap n o ho
    have e : hc (rows ++ List.replicate (60 - hour) []) n = hc rows n := by
      unfold hc
      have hz : (List.replicate (60 - hour) ([] : List Nat)).countP (fun r => decide (n ∈ r)) = 0 := List.countP_eq_zero.mpr fun x hx => by
        rw [(List.mem_replicate.mp hx).2]
        simp
      rw [List.countP_append, hz, Nat.add_zero]
    rw [e]; exact this
theorem Lack.no {os : List Of3} {wants : List Nat} {hour : Nat} {ns : List Int} {rows : List (List Nat)} (l : Lack os wants hour ns) (v : VR os wants rows) : False := by
  have h1 := hall v l.up fun k hk => by
    have := l.rng k hk
    have := l.lt
    omega
  have := l.less
  omega
theorem early_nd {hour : Nat} : ∀ {tms : List Tm}, ((earlyF hour tms).map (·.name)).Sublist (tms.map (·.name))
  | [] => List.Sublist.slnil
  | tm :: tms => by
    unfold earlyF
    rw [List.filterMap_cons]
    by_cases a : tm.first < (hour : Int)
    · have e3 : early1 hour tm = some ⟨tm.name, tm.col, tm.first, mn tm.last (hour : Int)⟩ := if_pos a
      rw [e3]
      exact early_nd.cons₂ _
    · have e3 : early1 hour tm = none := if_neg a
      rw [e3]
      exact early_nd.cons _
theorem early_ok {hour : Nat} {tms : List Tm} (h : TmOk tms) (hh : hour ≤ 60) : TmOk (earlyF hour tms) := fun x hx => by
  obtain ⟨tm, h1, h2, rfl⟩ := early_mem hx
  obtain ⟨q1, q2, q3⟩ := h tm h1
  refine ⟨q1, ?_, ?_⟩
  · show tm.first ≤ mn tm.last (hour : Int)
    unfold mn
    by_cases q : (hour : Int) < tm.last
    · rw [if_pos q]; omega
    · rw [if_neg q]; exact q2
  · show mn tm.last (hour : Int) ≤ 60
    unfold mn
    by_cases q : (hour : Int) < tm.last
    · rw [if_pos q]; omega
    · rw [if_neg q]; exact q3
theorem early_len (hour : Nat) (tms : List Tm) : (earlyF hour tms).length ≤ tms.length := List.length_filterMap_le _ _
/-! the counts of what lacks -/
def isQ (i j : Int) (c : Str) (q : Nw) : Bool := decide (q.pot = i) && decide (q.num = j) && decide (q.col = c)
theorem isQ_iff {i j : Int} {c : Str} {q : Nw} : isQ i j c q = true ↔ q = ⟨i, j, c⟩ := by
  obtain ⟨a, b, d⟩ := q
  unfold isQ
  rw [Bool.and_eq_true, Bool.and_eq_true, decide_eq_true_eq, decide_eq_true_eq, decide_eq_true_eq]
  constructor
  · rintro ⟨⟨rfl, rfl⟩, rfl⟩; rfl
  · intro h; cases h; exact ⟨⟨rfl, rfl⟩, rfl⟩
def cntC (pots : List (List Trn)) (c : Str) (done : List Int) (i j : Int) : Nat := done.countP fun k => (nowF pots k).any (isQ i j c)
/-- the counts, after the hours done and the rows pre of the next one -/
def CntAt (pots : List (List Trn)) (c : Str) (done : List Int) (pre : List Nw) (kvs : List (List Key × V)) : Prop :=
  (kvs.map (·.1)).Nodup ∧ ∀ e ∈ kvs, ∃ i j m : Int, e.1 = [.inl i, .inl j] ∧ e.2 = .int m ∧ m ≤ (cntC pots c done i j : Int) + if pre.any (isQ i j c) = true then 1 else 0
theorem put_nd {κ : Type} [DecidableEq κ] {kvs : List (κ × V)} (h : (kvs.map (·.1)).Nodup) (k : κ) (v : V) : ((putK kvs k v).map (·.1)).Nodup := by
  unfold putK
  by_cases a : (kvs.any fun kv => decide (kv.1 = k)) = true
  · rw [if_pos a, List.map_map]
    have : (kvs.map ((fun x => x.1) ∘ fun kv => if kv.1 = k then (kv.1, v) else kv)) = kvs.map (·.1) := by
      refine List.map_congr_left fun x _ => ?_
      show (if x.1 = k then (x.1, v) else x).1 = x.1
      by_cases q : x.1 = k
      · rw [if_pos q]
      · rw [if_neg q]
    rw [this]; exact h
  · rw [if_neg a, List.map_append]
    refine List.nodup_append.mpr ⟨h, by simp, fun x hx y hy z => a ?_⟩
    obtain ⟨e, he, rfl⟩ := List.mem_map.mp hx
    have hy' : y = k := by simpa using hy
    rw [List.any_eq_true]
    exact ⟨e, he, decide_eq_true (z.trans hy')⟩
theorem valV_in {κ : Type} [DecidableEq κ] {k : κ} {v : V} : ∀ {kvs : List (κ × V)}, valV kvs k = some v → (k, v) ∈ kvs := fun {kvs} h => by
  unfold valV at h
  obtain ⟨x, h1, h2⟩ := Option.map_eq_some_iff.mp h
  have := List.find?_some h1
  have e : x.1 = k := by simpa using this
  have m := List.mem_of_find?_eq_some h1
  rw [← e, ← h2]
  exact m
theorem CntAt.put {pots : List (List Trn)} {c : Str} {done : List Int} {pre : List Nw} {kvs : List (List Key × V)} (l : CntAt pots c done pre kvs) {q : Nw} (hq : ∀ x ∈ pre, x.pot ≠ q.pot) :
    ∃ m : Int, (valV kvs [.inl q.pot, .inl q.num]).getD (.int 0) = .int m ∧ CntAt pots c done (pre ++ [q]) (putK kvs [.inl q.pot, .inl q.num] (.int (m + if q.col = c then 1 else 0))) := by
  have hno : pre.any (isQ q.pot q.num c) = false := by
    rw [List.any_eq_false]
    intro x hx z
    rw [isQ_iff] at z
    exact hq x hx (by rw [z])
  obtain ⟨m, hm, hle⟩ : ∃ m : Int, (valV kvs [.inl q.pot, .inl q.num]).getD (.int 0) = .int m ∧ m ≤ (cntC pots c done q.pot q.num : Int) := by
    cases e : valV kvs [.inl q.pot, .inl q.num] with
    | none => exact ⟨0, rfl, by omega⟩
    | some v =>
      obtain ⟨i, j, m, e1, e2, e3⟩ := l.2 _ (valV_in e)
      have h1 : ([.inl q.pot, .inl q.num] : List Key) = [.inl i, .inl j] := e1
      simp only [List.cons.injEq, Sum.inl.injEq, and_true] at h1
      obtain ⟨rfl, rfl⟩ := h1
      rw [hno] at e3
      have h2 : v = .int m := e2
      refine ⟨m, by rw [h2]; rfl, ?_⟩
      simpa using e3
  refine ⟨m, hm, put_nd l.1 _ _, fun e he => ?_⟩
  rcases put_mem he with rfl | ⟨h1, h2⟩
  · refine ⟨q.pot, q.num, _, rfl, rfl, ?_⟩
    rw [List.any_append, hno, Bool.false_or, List.any_cons, List.any_nil, Bool.or_false]
    by_cases z : q.col = c
    · have : isQ q.pot q.num c q = true := isQ_iff.mpr (by cases q; cases z; rfl)
      rw [if_pos z, if_pos this]; omega
    · rw [if_neg z]
      have : (0 : Int) ≤ if isQ q.pot q.num c q = true then 1 else 0 := by split <;> omega
      omega
  · obtain ⟨i, j, m', e1, e2, e3⟩ := l.2 e h1
    refine ⟨i, j, m', e1, e2, Int.le_trans e3 ?_⟩
    rw [List.any_append]
    by_cases z : pre.any (isQ i j c) = true
    · rw [z, Bool.true_or]; exact Int.le_refl _
    · have : pre.any (isQ i j c) = false := by simpa using z
      rw [this, Bool.false_or]
      have : (0 : Int) ≤ if ([q].any (isQ i j c)) = true then 1 else 0 := by split <;> omega
      simp only [Bool.false_eq_true, if_false]
      omega
theorem CntAt.turn {pots : List (List Trn)} {c : Str} {done : List Int} {k : Int} {kvs : List (List Key × V)} (l : CntAt pots c done (nowF pots k) kvs) : CntAt pots c (done ++ [k]) [] kvs := by
  refine ⟨l.1, fun e he => ?_⟩
  obtain ⟨i, j, m, e1, e2, e3⟩ := l.2 e he
  refine ⟨i, j, m, e1, e2, ?_⟩
  have : (cntC pots c (done ++ [k]) i j : Int) = (cntC pots c done i j : Int) + if (nowF pots k).any (isQ i j c) = true then 1 else 0 := by
    unfold cntC
    rw [List.countP_append, List.countP_singleton]
    by_cases z : (nowF pots k).any (isQ i j c) = true
    · rw [if_pos z, if_pos z]; rfl
    · rw [if_neg z, if_neg z]; rfl
  rw [this]
  simp only [List.any_nil, Bool.false_eq_true, if_false]
  omega
theorem CntAt.nil (pots : List (List Trn)) (c : Str) : CntAt pots c [] [] [] := ⟨List.nodup_nil, fun e he => nomatch he⟩
def valI : V → Int
  | .int i => i
  | _ => 0
theorem CntAt.room {p : Pal} {pots : List (List Trn)} {c : Str} {ns : List Int} {kvs : List (List Key × V)} (l : CntAt pots c ns [] kvs) (g0 : 0 ≤ gOf p c) : (kvs.map fun e => mn (gOf p c) (valI e.2)).sum ≤ roomI ((ofsOf p pots c).map to3) ns := by
  unfold roomI
  rw [List.map_map]
  refine sum_inj (fun e => e.1) (fun o : Ofr => [.inl o.pot, .inl o.num]) (fun e => mn (gOf p c) (valI e.2)) (roomOf ns ∘ to3) kvs _ (fun o ho => ?_) l.1 fun e he => ?_
  · show 0 ≤ min (to3 o).g _
    have : (to3 o).g = gOf p c := offersF_g ho
    rw [this]; omega
  · obtain ⟨i, j, m, e1, e2, e3⟩ := l.2 e he
    have e4 : m ≤ (cntC pots c ns i j : Int) := by simpa using e3
    show mn (gOf p c) (valI e.2) ≤ 0 ∨ _
    rw [e2, show valI (.int m) = m from rfl]
    have hmn : mn (gOf p c) m ≤ m ∧ mn (gOf p c) m ≤ gOf p c := by unfold mn; split <;> omega
    by_cases z : cntC pots c ns i j = 0
    · exact .inl (by omega)
    · have hpos : 0 < cntC pots c ns i j := Nat.pos_of_ne_zero z
      obtain ⟨k, hk, hany⟩ := List.countP_pos_iff.mp hpos
      obtain ⟨q, hq, hq2⟩ := List.any_eq_true.mp hany
      rw [isQ_iff] at hq2
      obtain ⟨i', j', ts, t, g1, g2, g3, g4, g5⟩ := now_mem hq
      rw [hq2] at g5
      have ei : i = (i' : Int) := congrArg Nw.pot g5
      have ej : j = (j' : Int) := congrArg Nw.num g5
      have ec : c = t.col := congrArg Nw.col g5
      refine .inr ⟨_, offers_in (g := gOf p c) g1 g2 ec.symm, by rw [e1, ei, ej], ?_⟩
      have hcnt : cntC pots c ns i j ≤ ns.countP (workB (to3 ⟨(i' : Nat), (j' : Nat), t.b, t.e, gOf p c⟩)) := by
        refine List.countP_mono_left fun k' _ hk' => ?_
        obtain ⟨q', hq', hq2'⟩ := List.any_eq_true.mp hk'
        rw [isQ_iff] at hq2'
        obtain ⟨i2, j2, ts2, t2, f1, f2, f3, f4, f5⟩ := now_mem hq'
        rw [hq2'] at f5
        have ei2 : i = (i2 : Int) := congrArg Nw.pot f5
        have ej2 : j = (j2 : Int) := congrArg Nw.num f5
        have hi : i2 = i' := by omega
        have hj : j2 = j' := by omega
        subst hi hj
        rw [g1] at f1
        cases f1
        rw [g2] at f2
        cases f2
        show (decide (t.b ≤ k') && decide (k' < t.e)) = true
        rw [decide_eq_true f3, decide_eq_true f4]; rfl
      show mn (gOf p c) m ≤ min (gOf p c) _
      omega
/-! teams with a turn of their own -/
def Own1 (p : Pal) (pots : List (List Trn)) (tm : Tm) (q : Nat × Nat) : Prop := ∃ ts t, pots[q.1]? = some ts ∧ ts[q.2]? = some t ∧ t.col = tm.col ∧ t.b ≤ tm.first ∧ tm.last ≤ t.e ∧ tm.last - tm.first ≤ gOf p tm.col
def OwnT (p : Pal) (pots : List (List Trn)) (tms : List Tm) : Prop := ∃ qs : List (Nat × Nat), qs.Nodup ∧ Paired (Own1 p pots) tms qs
theorem paired_zip {α β : Type} {R : α → β → Prop} {as : List α} {bs : List β} (h : Paired R as bs) : (as.zip bs).map (·.1) = as ∧ (as.zip bs).map (·.2) = bs ∧ ∀ z ∈ as.zip bs, R z.1 z.2 := by
  induction h with
  | nil => exact ⟨rfl, rfl, fun z hz => nomatch hz⟩
  | cons h1 _ ih =>
    refine ⟨by rw [List.zip_cons_cons, List.map_cons, ih.1], by rw [List.zip_cons_cons, List.map_cons, ih.2.1], fun z hz => ?_⟩
    rw [List.zip_cons_cons] at hz
    rcases List.mem_cons.mp hz with rfl | q
    · exact h1
    · exact ih.2.2 z q
theorem names_cnt (tms : List Tm) (c : Str) (h : Int) : (namesAt tms c h).length = tms.countP fun tm => decide (active tm c h) := by
  unfold namesAt
  induction tms with
  | nil => rfl
  | cons a tms ih =>
    rw [List.filterMap_cons, List.countP_cons]
    by_cases e : active a c h
    · rw [if_pos e, if_pos (decide_eq_true e)]
      show List.length (_ :: _) = _
      rw [List.length_cons, ih]
    · rw [if_neg e, if_neg (by rw [decide_eq_true_eq]; exact e)]
      exact ih
theorem wantS_names {tms : List Tm} {c : Str} {ns : List Int} (rng : ∀ k ∈ ns, 0 ≤ k ∧ k < 60) : wantS (wantsN tms c) ns = (ns.map fun k => (namesAt tms c k).length).sum := by
  unfold wantS
  congr 1
  refine List.map_congr_left fun k hk => ?_
  have := rng k hk
  rw [List.getD_eq_getElem?_getD, wantsN_at (by omega)]
  show (namesAt tms c ((k.toNat : Nat) : Int)).length = _
  rw [Int.toNat_of_nonneg this.1]
theorem cnt_range {ns : List Int} (up : ns.Pairwise (· < ·)) (a b : Int) (h : a ≤ b) : ((ns.countP fun k => decide (a ≤ k ∧ k < b) : Nat) : Int) ≤ b - a := by
  rw [List.countP_eq_length_filter]
  have hn : (ns.filter fun k => decide (a ≤ k ∧ k < b)).Nodup := (up.imp fun h => by omega : ns.Nodup).filter _
  have := nodup_len ((ns.filter fun k => decide (a ≤ k ∧ k < b)).map fun k => (k - a).toNat) (List.range (b - a).toNat) (by
    unfold List.Nodup
    rw [List.pairwise_map]
    refine hn.imp_of_mem fun {x y} hx hy hxy z => hxy ?_
    have h1 := of_decide_eq_true (List.mem_filter.mp hx).2
    have h2 := of_decide_eq_true (List.mem_filter.mp hy).2
    omega) fun x hx => by
      obtain ⟨k, hk, rfl⟩ := List.mem_map.mp hx
      have h1 := of_decide_eq_true (List.mem_filter.mp hk).2
      rw [List.mem_range]
      omega
  rw [List.length_map, List.length_range] at this
  omega
theorem OwnT.no {p : Pal} {pots : List (List Trn)} {tms : List Tm} (o : OwnT p pots tms) (ok : TmOk tms) {c : Str} (g0 : 0 ≤ gOf p c) {hour : Nat} {ns : List Int} (l : Lack ((ofsOf p pots c).map to3) (wantsN tms c) hour ns) : False := by
  obtain ⟨qs, nd, pr⟩ := o
  obtain ⟨z1, z2, z3⟩ := paired_zip pr
  have lt60 : hour < 60 := by have := l.lt; rwa [wantsN_len] at this
  have key : (wantS (wantsN tms c) ns : Int) ≤ roomI ((ofsOf p pots c).map to3) ns := by
    rw [wantS_names fun k hk => by have := l.rng k hk; omega]
    have e : (ns.map fun k => (namesAt tms c k).length) = ns.map fun k => tms.countP ((fun (k : Int) (tm : Tm) => decide (active tm c k)) k) := List.map_congr_left fun k _ => names_cnt tms c k
    rw [e, sum_swap (fun (k : Int) (tm : Tm) => decide (active tm c k))]
    have e2 : (((tms.map fun tm => ns.countP fun k => decide (active tm c k)).sum : Nat) : Int) = ((tms.zip qs).map fun z => ((ns.countP fun k => decide (active z.1 c k) : Nat) : Int)).sum := by
      have : (tms.zip qs).map (fun z => ((ns.countP fun k => decide (active z.1 c k) : Nat) : Int)) = tms.map fun tm => ((ns.countP fun k => decide (active tm c k) : Nat) : Int) := by
        conv => rhs; rw [← z1]
        rw [List.map_map]; rfl
      rw [this]
      clear this z1 z2 z3 pr nd ok l e
      induction tms with
      | nil => rfl
      | cons a tms ih => rw [List.map_cons, List.sum_cons, List.map_cons, List.sum_cons, ← ih]; omega
    rw [e2]
    unfold roomI
    rw [List.map_map]
    refine sum_inj (fun z : Tm × (Nat × Nat) => (((z.2.1 : Nat) : Int), ((z.2.2 : Nat) : Int))) (fun o : Ofr => (o.pot, o.num)) _ (roomOf ns ∘ to3) _ _ (fun o ho => ?_) ?_ fun z hz => ?_
    · show 0 ≤ min (to3 o).g _
      have : (to3 o).g = gOf p c := offersF_g ho
      rw [this]; omega
    · have : (tms.zip qs).map (fun z : Tm × (Nat × Nat) => (((z.2.1 : Nat) : Int), ((z.2.2 : Nat) : Int))) = qs.map fun q => (((q.1 : Nat) : Int), ((q.2 : Nat) : Int)) := by
        conv => rhs; rw [← z2]
        rw [List.map_map]; rfl
      rw [this]
      unfold List.Nodup
      rw [List.pairwise_map]
      refine nd.imp fun {a b} hab z => hab ?_
      have h1 := congrArg Prod.fst z
      have h2 := congrArg Prod.snd z
      simp only at h1 h2
      exact Prod.ext (by omega) (by omega)
    · obtain ⟨tm, q⟩ := z
      obtain ⟨ts, t, h1, h2, h3, h4, h5, h6⟩ := z3 _ hz
      have htm : tm ∈ tms := (List.of_mem_zip hz).1
      by_cases ec : tm.col = c
      · refine .inr ⟨_, offers_in (g := gOf p c) h1 h2 (h3.trans ec), rfl, ?_⟩
        have hr := ok tm htm
        show ((ns.countP fun k => decide (active tm c k) : Nat) : Int) ≤ min (gOf p c) ((ns.countP (workB (to3 ⟨((q.1 : Nat) : Int), ((q.2 : Nat) : Int), t.b, t.e, gOf p c⟩)) : Nat) : Int)
        have c1 : (ns.countP fun k => decide (active tm c k)) ≤ ns.countP fun k => decide (tm.first ≤ k ∧ k < tm.last) := List.countP_mono_left fun k _ hk => by
          rw [decide_eq_true_eq] at hk ⊢; exact hk.2
        have c2 := cnt_range l.up tm.first tm.last hr.2.1
        have c3 : (ns.countP fun k => decide (active tm c k)) ≤ ns.countP (workB (to3 ⟨((q.1 : Nat) : Int), ((q.2 : Nat) : Int), t.b, t.e, gOf p c⟩)) := List.countP_mono_left fun k _ hk => by
          rw [decide_eq_true_eq] at hk
          show (decide (t.b ≤ k) && decide (k < t.e)) = true
          have := hk.2
          have k1 : tm.first ≤ k := this.1
          have k2 : k < tm.last := this.2
          have h4' : t.b ≤ tm.first := h4
          have h5' : tm.last ≤ t.e := h5
          rw [decide_eq_true (show t.b ≤ k by omega), decide_eq_true (show k < t.e by omega)]; rfl
        have h6' : tm.last - tm.first ≤ gOf p tm.col := h6
        rw [ec] at h6'
        omega
      · refine .inl ?_
        have : (ns.countP fun k => decide (active tm c k)) = 0 := by
          rw [List.countP_eq_zero]
          intro k _
          rw [decide_eq_true_eq]
          exact fun z => ec z.1
        show ((ns.countP fun k => decide (active tm c k) : Nat) : Int) ≤ 0
        omega
  have := l.less
  omega
end K83
set_option maxRecDepth 100000
set_option maxHeartbeats 4000000
namespace K83
open PySem PySem.Spec PyProof.Rows L2
local macro_rules | `(tactic| walk_at "nz") => `(tactic| dsimp -proj only [L2.start, wipe, List.map_cons, List.map_nil, List.set, List.length, List.replicate, List.cons_append, List.nil_append, Nat.reduceSub, Nat.reduceAdd])
local macro_rules | `(tactic| walk_at "gg") => `(tactic| repeat (first | refine ⟨rfl, ?_⟩ | refine ⟨_, rfl, ?_⟩ | refine ⟨_, _, rfl, ?_⟩ | refine ⟨_, _, rfl, rfl, ?_⟩))
local macro_rules | `(tactic| walk_at "go") => `(tactic| ((try walk_at "nz"); walk_at "gg"; (try walk_at "nz")))
/-- teams as they are drawn -/
structure TmsOk (p : Pal) (tms : List Tm) : Prop where
  len : tms.length ≤ 20
  nd : (tms.map (·.name)).Nodup
  col : ∀ tm ∈ tms, ∃ c, p.find tm.col = some c
  name : ∀ tm ∈ tms, sOk tm.name
  hrs : TmOk tms
def dayRows (p : Pal) (pots : List (List Trn)) (tms : List Tm) (sv : List (Str × List (List Nat))) : List Rw := (allRows p pots tms sv).mergeSort (PySem.W.dataLe false rwD)
def spWalked : Sp := fun vs H Q _ => ∃ v u t a rs p pots tms sv, vs = [v, u, t, .ref a] ∧ Dv H (palD p) v ∧ Dv H (potsD pots) u ∧ Dv H (tmsD tms) t ∧ H a = some (.lst rs) ∧ DvAll H ((dayRows p pots tms sv).map rwD) rs ∧ POk p ∧ pots.length ≤ 1000 ∧ (∀ ts ∈ pots, PotOk p ts) ∧ TmsOk p tms ∧ DayR p pots tms sv ∧
  ∀ H', Same H H' → Q (.bl true) H'
theorem rem_at {q : Nw} {nws : List Nw} (h : q ∈ nws) : ∃ j, (nws.map nwD)[j]? = some (nwD q) ∧ (∀ (m : Nat) (z' : PyData), m < j → (nws.map nwD)[m]? = some z' → PyData.eqv z' (nwD q) = false) ∧ ∀ y ∈ nws, y ≠ q → y ∈ nws.eraseIdx j := by
  have hex : ∃ x ∈ nws, PyData.eqv (nwD x) (nwD q) = true := ⟨q, h, (eqv_nw q q).mpr rfl⟩
  have hl := List.findIdx_lt_length_of_exists (p := fun x => PyData.eqv (nwD x) (nwD q)) hex
  have hat : nws[nws.findIdx fun x => PyData.eqv (nwD x) (nwD q)] = q := (eqv_nw _ _).mp (List.findIdx_getElem (p := fun x => PyData.eqv (nwD x) (nwD q)) (w := hl))
  refine ⟨nws.findIdx fun x => PyData.eqv (nwD x) (nwD q), by rw [List.getElem?_map, List.getElem?_eq_getElem hl, hat]; rfl, fun m z' hm hz => ?_, fun y hy hne => ?_⟩
  · have := List.not_of_lt_findIdx hm
    rw [List.getElem?_map, List.getElem?_eq_getElem (Nat.lt_trans hm hl)] at hz
    cases hz
    exact this
  · obtain ⟨i, hi⟩ := List.mem_iff_getElem?.mp hy
    refine List.mem_eraseIdx_iff_getElem?.mpr ⟨i, fun z => hne ?_, hi⟩
    rw [z, List.getElem?_eq_getElem hl, hat] at hi
    exact (Option.some.inj hi).symm
theorem DvAll.erase {H : Hp} : ∀ {ds : List PyData} {xs : List V} (j : Nat), DvAll H ds xs → DvAll H (ds.eraseIdx j) (xs.eraseIdx j)
  | [], xs, j, h => by cases h; exact rfl
  | d :: ds, xs, 0, h => by
    obtain ⟨x, r, rfl, _, h2⟩ := h
    exact h2
  | d :: ds, xs, j + 1, h => by
    obtain ⟨x, r, rfl, h1, h2⟩ := h
    exact ⟨x, r.eraseIdx j, rfl, h1, DvAll.erase j h2⟩
theorem erase_map {α β : Type} (f : α → β) : ∀ (l : List α) (j : Nat), (l.map f).eraseIdx j = (l.eraseIdx j).map f
  | [], _ => rfl
  | a :: l, 0 => rfl
  | a :: l, j + 1 => by
    show f a :: (l.map f).eraseIdx j = f a :: (l.eraseIdx j).map f
    rw [erase_map f l j]
theorem DvAll.bools' {H : Hp} : ∀ {ns : List Bool} {xs : List V}, DvAll H (ns.map .bool) xs → xs = ns.map V.bl
  | [], _, h => h
  | n :: ns, _, h => by
    obtain ⟨x, r, rfl, h1, h2⟩ := h
    cases h1
    rw [DvAll.bools' h2] <;> rfl
theorem src_v {H : Hp} {d : Addr} {o : Obj} {kvs : List (List Key × V)} (h : H d = some (.frz o (.dT kvs))) : (∀ i t H1, kvs[i]? = some t → Same H H1 → (Itdt d o kvs).go i H1) ∧ (∀ i t H1 x H2, kvs[i]? = some t → Same H H1 → (Itdt d o kvs).yld i H1 x H2 → Same H1 H2 ∧ x = t.2) ∧ ∀ H1, Same H H1 → (Itdt d o kvs).stop kvs.length H1 := by
  refine ⟨fun i t H1 e s => ⟨s _ _ h, (List.getElem?_eq_some_iff.mp e).1⟩, fun i t H1 x H2 e s y => ?_, fun H1 s => ⟨s _ _ h, Nat.le_refl _⟩⟩
  obtain ⟨rfl, k, hk⟩ := y
  rw [e] at hk
  cases hk
  exact ⟨Same.refl _, rfl⟩
section
variable {P : Program} {w : World} {K : PySem.W.Frag} {mg : Str → Option Value} {base : Heap} {A : Nat → Addr} {D : Nat → FuncData} {C : Addr} {tk : Tok}
theorem sc__law_walked : FnScope ["_law_palette_here", "_law_pots_here", "_law_teams", "_law_rows", "_law_left", "_law_colours", "_law_gathers", "_law_hour", "_law_here", "_law_now", "_law_team_here", "_law_when", "_law_pot_here", "_law_number", "_law_turn", "_law_row", "_law_many", "_law_own", "_law_first", "_law_last"] ["_law_palette_here", "_law_pots_here", "_law_teams", "_law_rows"] (defScope (topS 43)) := ⟨rfl, rfl, rfl, by decide +kernel, rfl, by decide +kernel, by decide +kernel⟩
theorem ok_walked (T : Tx K mg A D C tk) : FnOk P w K mg base CX0 7 (A 43) (D 43) ["_law_palette_here", "_law_pots_here", "_law_teams", "_law_rows"] spWalked := by
  have G__law_worked_now : FnOk P w K mg base CX0 6 (A 42) (D 42) _ _ := ok_now T
  refine T.d__law_walked.fn.ok sc__law_walked (fun vs H Q E h => ?_) (fun cdv A0 outer s H vs Q E hr h => ?_)
  · obtain ⟨v, u, t, a, rs, p, pots, tms, sv, rfl, _⟩ := h
    rfl
  · obtain ⟨v, u, t, a, rs, p, pots, tms, sv, rfl, hp, hu, ht, ha, drs, hpo, hpl, hok, htm, hd, k⟩ := h
    obtain ⟨at_, xt, rfl, hat, hxt⟩ := list_of ht
    refine ⟨_, (pss_cons (ps_par (i := 4) (j := 5) rfl sc__law_walked.nd rfl rfl (by decide) rfl rfl (pa_cons pe_dnewT (pa_cons (pe_callTy (call_dictP rfl) (by rfl) T.dict (by decide +kernel) (pa_cons (pe_lc (own := [("_law_row", 15)]) rfl sc__law_walked.nd (piL K (pv 2)) (blkOk_by (N := ["_law_palette_here", "_law_pots_here", "_law_teams", "_law_rows", "_law_left", "_law_colours", "_law_gathers", "_law_hour", "_law_here", "_law_now", "_law_team_here", "_law_when", "_law_pot_here", "_law_number", "_law_turn", "_law_row", "_law_many", "_law_own", "_law_first", "_law_last"]) (sc := defScope (topS 43)) (by decide +kernel)) (fun _ _ _ _ _ => (pg_name (i := 15) sc__law_walked.nd rfl (Or.inl rfl))) (fun _ _ _ _ _ => pts_nil) (fun _ _ _ _ _ => (pe_slice (slT K) (pv 15) po_none (po_some pe_int)))) pa_nil)) pa_nil)) (by rfl))
 (pss_cons (ps_set (i := 6) sc__law_walked.nd rfl (Or.inl rfl) (pe_callTy (call_dictP rfl) (by rfl) T.dict (by decide +kernel) (pa_cons (pe_lc (own := [("_law_row", 15)]) rfl sc__law_walked.nd (piT K (pe_ix (ixT K) (pv 0) pe_int (fun _ _ => rfl))) (blkOk_by (N := ["_law_palette_here", "_law_pots_here", "_law_teams", "_law_rows", "_law_left", "_law_colours", "_law_gathers", "_law_hour", "_law_here", "_law_now", "_law_team_here", "_law_when", "_law_pot_here", "_law_number", "_law_turn", "_law_row", "_law_many", "_law_own", "_law_first", "_law_last"]) (sc := defScope (topS 43)) (by decide +kernel)) (fun _ _ _ _ _ => (pg_name (i := 15) sc__law_walked.nd rfl (Or.inl rfl))) (fun _ _ _ _ _ => pts_nil) (fun _ _ _ _ _ => (pe_tup (pa_cons (pe_ix (ixT K) (pv 15) pe_int (fun _ _ => rfl)) (pa_cons (pe_ix (ixT K) (pv 15) pe_int (fun _ _ => rfl)) pa_nil))))) pa_nil)))
 (pss_cons (ps_if (pt_cmpR (neDt K hr.units) (pv 3) (pe_callB (srt_row hr) (by rfl) T.sorted (by decide +kernel) (pa_cons (pv 3) pa_nil)) (nomark _)) (pss_one (ps_ret pe_bl)) pss_nil)
 (pss_cons (ps_for PassesOwn.never rfl (pi_range1 (by rfl) T.range (pa_cons pe_int pa_nil)) (pg_name (i := 7) sc__law_walked.nd rfl (Or.inr rfl)) (pss_cons (ps_par (i := 8) (j := 9) rfl sc__law_walked.nd rfl rfl (by decide) rfl rfl (pa_cons (pe_lc (own := [("_law_row", 15)]) rfl sc__law_walked.nd (piL K (pv 3)) (blkOk_by (N := ["_law_palette_here", "_law_pots_here", "_law_teams", "_law_rows", "_law_left", "_law_colours", "_law_gathers", "_law_hour", "_law_here", "_law_now", "_law_team_here", "_law_when", "_law_pot_here", "_law_number", "_law_turn", "_law_row", "_law_many", "_law_own", "_law_first", "_law_last"]) (sc := defScope (topS 43)) (by decide +kernel)) (fun _ _ _ _ _ => (pg_name (i := 15) sc__law_walked.nd rfl (Or.inl rfl))) (fun _ _ _ _ _ => (pts_one (pt_cmpR op_eq (pe_ix (ixT K) (pv 15) pe_int (fun _ _ => rfl)) (pv 7) (nomark _)))) (fun _ _ _ _ _ => (pv 15))) (pa_cons (pcall T.d__law_worked_now G__law_worked_now (hr.mono (by decide)) rfl (pa_cons (pv 0) (pa_cons (pv 1) (pa_cons (pv 7) pa_nil)))) pa_nil)) (by rfl))
 (pss_cons (ps_if (pt_cmpR (neDt K hr.units) (pe_lc (own := [("_law_row", 15)]) rfl sc__law_walked.nd (piL K (pv 8)) (blkOk_by (N := ["_law_palette_here", "_law_pots_here", "_law_teams", "_law_rows", "_law_left", "_law_colours", "_law_gathers", "_law_hour", "_law_here", "_law_now", "_law_team_here", "_law_when", "_law_pot_here", "_law_number", "_law_turn", "_law_row", "_law_many", "_law_own", "_law_first", "_law_last"]) (sc := defScope (topS 43)) (by decide +kernel)) (fun _ _ _ _ _ => (pg_name (i := 15) sc__law_walked.nd rfl (Or.inl rfl))) (fun _ _ _ _ _ => pts_nil) (fun _ _ _ _ _ => (pe_ix (ixT K) (pv 15) pe_int (fun _ _ => rfl)))) (pe_callB (srt_str hr) (by rfl) T.sorted (by decide +kernel) (pa_cons (pe_lc (own := [("_law_team_here", 10), ("_law_own", 17), ("_law_first", 18), ("_law_last", 19)]) rfl sc__law_walked.nd (piL K (pv 2)) (blkOk_by (N := ["_law_palette_here", "_law_pots_here", "_law_teams", "_law_rows", "_law_left", "_law_colours", "_law_gathers", "_law_hour", "_law_here", "_law_now", "_law_team_here", "_law_when", "_law_pot_here", "_law_number", "_law_turn", "_law_row", "_law_many", "_law_own", "_law_first", "_law_last"]) (sc := defScope (topS 43)) (by decide +kernel)) (fun _ _ _ _ _ => (pgT K 4 rfl (pgs_cons (pg_name (i := 10) sc__law_walked.nd rfl (Or.inl rfl)) (pgs_cons (pg_name (i := 17) sc__law_walked.nd rfl (Or.inl rfl)) (pgs_cons (pg_name (i := 18) sc__law_walked.nd rfl (Or.inl rfl)) (pgs_cons (pg_name (i := 19) sc__law_walked.nd rfl (Or.inl rfl)) pgs_nil)))))) (fun _ _ _ _ _ => (pts_one (pt_chain op_le op_lt (pv 18) (pv 7) (pv 19)))) (fun _ _ _ _ _ => (pv 10))) pa_nil)) (nomark _)) (pss_one (ps_ret pe_bl)) pss_nil)
 (pss_one (ps_for PassesOwn.never rfl (piL K (pv 8)) (pgT K 4 rfl (pgs_cons (pg_name (i := 11) sc__law_walked.nd rfl (Or.inl rfl)) (pgs_cons (pg_name (i := 10) sc__law_walked.nd rfl (Or.inl rfl)) (pgs_cons (pg_name (i := 12) sc__law_walked.nd rfl (Or.inl rfl)) (pgs_cons (pg_name (i := 13) sc__law_walked.nd rfl (Or.inl rfl)) pgs_nil))))) (pss_cons (ps_set (i := 14) sc__law_walked.nd rfl (Or.inl rfl) (pe_tup (pa_cons (pv 12) (pa_cons (pv 13) (pa_cons (pe_dget (hu_of hr) (pv 5) (pv 10) (fun _ _ => rfl)) pa_nil)))))
 (pss_cons (ps_if (pt_cmpR (ninDt K (hu65 hr)) (pv 14) (pv 9) rfl) (pss_one (ps_ret pe_bl)) pss_nil)
 (pss_cons (ps_expr (pe_bm PySem.F.plainAttrs_list PySem.F.slot_list_remove PySem.F.type_list_remove (mt_remD (hu65 hr)) (pv 9) (pa_cons (pv 14) pa_nil)))
 (pss_one (ps_dput (hu_of hr) (pv 4) (pv 14) (pe_op op_sub (pe_dget2 (hu_of hr) (pv 4) (pv 14) (pe_dget (hu_of hr) (pv 6) (pe_dget (hu_of hr) (pv 5) (pv 10) (fun _ _ => rfl)) (fun _ _ => rfl)) ⟨rfl, rfl, rfl, rfl⟩) pe_int) rfl))))))))))
 (pss_cons (ps_if (pt_cmpR op_ne (pe_callB (lenS K) (by rfl) T.len (by decide +kernel) (pa_cons (pv 3) pa_nil)) (pe_callB (sumI K) (by rfl) T.sum (by decide +kernel) (pa_cons (pe_lc (own := [("_law_team_here", 10), ("_law_own", 17), ("_law_first", 18), ("_law_last", 19)]) rfl sc__law_walked.nd (piL K (pv 2)) (blkOk_by (N := ["_law_palette_here", "_law_pots_here", "_law_teams", "_law_rows", "_law_left", "_law_colours", "_law_gathers", "_law_hour", "_law_here", "_law_now", "_law_team_here", "_law_when", "_law_pot_here", "_law_number", "_law_turn", "_law_row", "_law_many", "_law_own", "_law_first", "_law_last"]) (sc := defScope (topS 43)) (by decide +kernel)) (fun _ _ _ _ _ => (pgT K 4 rfl (pgs_cons (pg_name (i := 10) sc__law_walked.nd rfl (Or.inl rfl)) (pgs_cons (pg_name (i := 17) sc__law_walked.nd rfl (Or.inl rfl)) (pgs_cons (pg_name (i := 18) sc__law_walked.nd rfl (Or.inl rfl)) (pgs_cons (pg_name (i := 19) sc__law_walked.nd rfl (Or.inl rfl)) pgs_nil)))))) (fun _ _ _ _ _ => pts_nil) (fun _ _ _ _ _ => (pe_op op_sub (pv 19) (pv 18)))) pa_nil)) (nomark _)) (pss_one (ps_ret pe_bl)) pss_nil)
 (pss_one (ps_ret (pe_callB (allB K) (by rfl) T.all (by decide +kernel) (pa_cons (pe_lock (pe_lc (own := [("_law_many", 16)]) rfl sc__law_walked.nd (pi_valuesT (pv 4)) (blkOk_by (N := ["_law_palette_here", "_law_pots_here", "_law_teams", "_law_rows", "_law_left", "_law_colours", "_law_gathers", "_law_hour", "_law_here", "_law_now", "_law_team_here", "_law_when", "_law_pot_here", "_law_number", "_law_turn", "_law_row", "_law_many", "_law_own", "_law_first", "_law_last"]) (sc := defScope (topS 43)) (by decide +kernel)) (fun _ _ _ _ _ => (pg_name (i := 16) sc__law_walked.nd rfl (Or.inl rfl))) (fun _ _ _ _ _ => pts_nil) (fun _ _ _ _ _ => (pe_cmpR op_ge (pv 16) pe_int (nomark _))))) pa_nil))))))))), ?_⟩
    refine fun lf hlf => ?_
    have s0 : Same H (upd H lf (.dT [])) := Same.new hlf
    have hl0 : upd H lf (.dT []) lf = some (.dT []) := upd_same
    generalize upd H lf (.dT []) = H0 at s0 hl0 ⊢
    walk_at "go"
    refine ⟨⟨_, SqL.of (s0 _ _ hat)⟩, ?_⟩
    obtain ⟨g1, g2, g3⟩ := src_l (K := K) (e := tmD) (s0 _ _ hat) (hxt.same s0)
    refine lcG (e' := kvD) tms (fun tm => some (tm.name, tm.col)) (fun t x H => Dv H (tmD t) x) (fun _ => rfl) (by have := htm.len; omega) g1 g2 g3 ?_ ?_
    · intro tm x H1 N M _ sm dx hy hn
      obtain ⟨e, rfl, he⟩ := tm_of dx
      walk_at "go"
      refine ⟨e, _, rfl, SqT.of he, (by show ¬(HT.sIx 4 0 none = 0 ∧ HT.sIx 4 4 (some 2) = 4); decide), fun q hq => ?_⟩
      exact hy _ rfl _ _ (Same.new hq) (kv_mk (by rw [upd_same]; rfl))
    · rw [fm_map]
      intro lc cs0 H1 hlc s1 hcs0 dcs0
      obtain ⟨ps, rfl, hps⟩ := kvs_of (K := K) dcs0
      walk_at "go"
      refine ⟨lc, ps, _, rfl, SqL.of hcs0, hps, fun cd hcd => ?_⟩
      have hlcd : lf ≠ cd := fun z => by rw [← z, s1 _ _ hl0] at hcd; cases hcd
      have hcdH : H cd = none := (s0.trans s1).free hcd
      have FF : ∀ o, Same H0 (upd H1 cd o) ∧ (upd H1 cd o) lf = some (.dT []) ∧ upd H1 cd o cd = some o := fun o => ⟨Same.new' s1 hcd, by rw [upd_ne hlcd]; exact s1 _ _ hl0, upd_same⟩
      obtain ⟨s2, hl2, hc2⟩ := FF (.dK (mergeK [] ((tms.map fun tm => (tm.name, tm.col)).map kvE)))
      generalize upd H1 cd (.dK (mergeK [] ((tms.map fun tm => (tm.name, tm.col)).map kvE))) = H2 at s2 hl2 hc2 ⊢
      have hc2' : H2 cd = some (.dK (colsE tms)) := hc2
      clear hc2 FF
      have sH2 := s0.trans s2
      obtain ⟨pa, pb, pd, xs, ys, rfl, hpa, hpb, hbs, hpd, hds⟩ := pal_of hp
      walk_at "go"
      refine ⟨_, _, _, _, rfl, rfl, SqT.of (sH2 _ _ hpa), rfl, _, rfl, ⟨_, SqT.of (sH2 _ _ hpb)⟩, ?_⟩
      obtain ⟨m1, m2, m3⟩ := src_t (K := K) (e := colD) (sH2 _ _ hpb) (hbs.same sH2)
      refine lcG (e' := kiD) p.cs (fun c => some (c.name, c.gathers)) (fun t x H => Dv H (colD t) x) (fun _ => rfl) (by have := hpo.len; omega) m1 m2 m3 ?_ ?_
      · intro c x H3 N M _ sm dx hy hn
        obtain ⟨e, rfl, he⟩ := col_of dx
        walk_at "go"
        refine ⟨_, _, _, _, rfl, rfl, SqT.of he, rfl, ?_⟩
        walk_at "go"
        refine ⟨_, _, _, _, rfl, rfl, SqT.of he, rfl, ?_⟩
        refine ⟨by show 2 ≤ sizeLine; decide, fun q hq => ?_⟩
        exact hy _ rfl _ _ (Same.new hq) (ki_mk (by rw [upd_same]))
      rw [fm_map]
      intro lc2 cs2 H3 hlc2 s3 hcs2 dcs2
      obtain ⟨ps2, rfl, hps2⟩ := kis_of (K := K) dcs2
      walk_at "go"
      refine ⟨lc2, ps2, _, rfl, SqL.of hcs2, hps2, fun gd hgd => ?_⟩
      have hlgd : lf ≠ gd := fun z => by rw [← z, s3 _ _ hl2] at hgd; cases hgd
      have hcgd : cd ≠ gd := fun z => by rw [← z, s3 _ _ hc2'] at hgd; cases hgd
      have FF : ∀ o, Same H2 (upd H3 gd o) ∧ upd H3 gd o gd = some o := fun o => ⟨Same.new' s3 hgd, upd_same⟩
      obtain ⟨s4, hg4⟩ := FF (.dK (mergeK [] ((p.cs.map fun c => (c.name, c.gathers)).map kiE)))
      generalize upd H3 gd (.dK (mergeK [] ((p.cs.map fun c => (c.name, c.gathers)).map kiE))) = H4 at s4 hg4 ⊢
      have hg4' : H4 gd = some (.dK (gathE p)) := hg4
      clear hg4 FF
      have hc4 := s4 _ _ hc2'
      have hl4 := s4 _ _ hl2
      have sH4 := sH2.trans s4
      have dR4 := drs.same sH4
      walk_at "go"
      dsimp -proj only [tNil]
      have hRn : ∀ r ∈ dayRows p pots tms sv, sOk r.team := fun r hr => by
        unfold dayRows at hr
        rw [List.mem_mergeSort] at hr
        obtain ⟨_, tm, htm', e, _⟩ := day_now hd hok htm.nd hr
        rw [e]; exact htm.name tm htm'
      have hsh := sh_rows hRn
      refine ⟨a, dayRows p pots tms sv, rs, rfl, sH4 _ _ ha, dR4, fun ys q dq hq => ?_⟩
      have eidem : (dayRows p pots tms sv).mergeSort (PySem.W.dataLe false rwD) = dayRows p pots tms sv := dle_idem rwD _
      rw [eidem] at dq
      have s5 : Same H4 (upd H4 q (.lst ys)) := Same.new hq
      refine ⟨_, _, Dv.dp (list_mk (s5 _ _ (sH4 _ _ ha)) (dR4.same s5)), Dv.dp (list_mk upd_same (dq.same s5)), hsh, hsh, ?_⟩
      rw [sh_refl hsh]
      generalize upd H4 q (.lst ys) = H5 at s5 ⊢
      have sH5 := sH4.trans s5
      have hc5 := s5 _ _ hc4
      have hg5 := s5 _ _ hg4'
      have hl5 := s5 _ _ hl4
      have hpd5 : Dv H5 (palD p) (.ref pa) := hp.same sH5
      clear dR4 hl4 hg4' hc4 sH4 s5 dq hq
      walk_at "go"
      let R := dayRows p pots tms sv
      have hRmem : ∀ x ∈ R, x ∈ allRows p pots tms sv := fun x hx => by
        have hx' : x ∈ (allRows p pots tms sv).mergeSort (PySem.W.dataLe false rwD) := hx
        rwa [List.mem_mergeSort] at hx'
      have hRh : ∀ x ∈ R, 0 ≤ x.hour ∧ x.hour < 60 := fun x hx => day_hour hd (hRmem x hx)
      have hRlen : (R.length : Int) = (tms.map fun tm => tm.last - tm.first).sum := by
        have h1 := day_len hd htm.hrs
        have h2 : R.length = (allRows p pots tms sv).length := List.length_mergeSort _
        rw [h2]; exact h1
      have hRl : R.length ≤ 1200 := by
        have h2 : (tms.map fun tm => tm.last - tm.first).sum ≤ 60 * (tms.length : Int) := by
          have hh := htm.hrs
          clear hRlen hxt hd k ht
          have : ∀ l : List Tm, (∀ tm ∈ l, 0 ≤ tm.first ∧ tm.first ≤ tm.last ∧ tm.last ≤ 60) → (l.map fun tm => tm.last - tm.first).sum ≤ 60 * (l.length : Int) := by
            intro l
            induction l with
            | nil => intro _; exact Int.le_refl _
            | cons a l ih =>
              intro hl
              have h1 := hl a List.mem_cons_self
              have h2 := ih fun x hx => hl x (List.mem_cons_of_mem _ hx)
              rw [List.map_cons, List.sum_cons, List.length_cons]
              omega
          exact this tms hh
        have := htm.len
        omega
      let Pv : Nat → L2.St → Hp → Prop := fun i σ H6 => ∃ (z7 z8 z9 z10 z11 z12 z13 z14 z15 z16 z17 z18 z19 : Option V) (kvs : List (List Key × V)), σ = [some (.ref pa), some u, some (.ref at_), some (.ref a), some (.ref lf), some (.ref cd), some (.ref gd), z7, z8, z9, z10, z11, z12, z13, z14, z15, z16, z17, z18, z19] ∧
        Same H H6 ∧ H6 cd = some (.dK (colsE tms)) ∧ H6 gd = some (.dK (gathE p)) ∧ H6 lf = some (.dT kvs) ∧ LeftAt p tms (R.filter fun x => decide (x.hour < (i : Int))) kvs ∧ kvs.length ≤ (R.filter fun x => decide (x.hour < (i : Int))).length
      refine ⟨by decide, by decide, forG 60 Pv ?_ ?_ ?_ ?_⟩
      · refine ⟨_, _, _, _, _, _, _, _, _, _, _, _, _, _, rfl, sH5, hc5, hg5, hl5, ?_, Nat.zero_le _⟩
        have e0 : (R.filter fun x => decide (x.hour < ((0 : Nat) : Int))) = [] := filt_zero fun x hx => (hRh x hx).1
        rw [e0]
        exact LeftAt.nil _ _
      · rintro i σ H6 hi _
        exact hi
      · rintro i x σ H6 H7 hi ⟨z7, z8, z9, z10, z11, z12, z13, z14, z15, z16, z17, z18, z19, kvs, rfl, s6, hc6, hg6, hl6, hL, hkl⟩ y
        obtain ⟨rfl, rfl⟩ := y
        rw [Int.zero_add]
        walk_at "go"
        have hR6 := drs.same s6
        refine ⟨⟨_, SqL.of (s6 _ _ ha)⟩, ?_⟩
        obtain ⟨m1, m2, m3⟩ := src_l (K := K) (e := rwD) (s6 _ _ ha) hR6
        refine lcG (e' := rwD) R (fun r => if r.hour = (i : Int) then some r else none) (fun t x H => Dv H (rwD t) x) noRw (by omega) m1 m2 m3 ?_ ?_
        · intro r x H8 N M _ sm dx hy hn
          obtain ⟨e, rfl, he⟩ := rw_of dx
          walk_at "go"
          refine ⟨_, _, _, _, rfl, rfl, SqT.of he, rfl, ?_⟩
          walk_at "go"
          refine ite2 (fun q => ?_) (fun q => ?_)
          · have e1 : r.hour = (i : Int) := by simpa using q
            walk_at "go"
            exact hy _ (if_pos e1) _ _ (Same.refl _) dx
          · have e1 : ¬ r.hour = (i : Int) := by simpa using q
            exact hn (if_neg e1) _ (Same.refl _)
        rw [fm_filter]
        intro lh hh H8 hlh s8 hhh dhh
        walk_at "go"
        dsimp -proj only [tNil]
        have sH8 := s6.trans s8
        refine ⟨.ref pa, u, p, pots, (i : Int), rfl, hp.same sH8, hu.same sH8, hpl, hok, fun nw ns H9 hnw s9 hns dns => ?_⟩
        walk_at "go"
        have hh9 := s9 _ _ hhh
        have dh9 := dhh.same s9
        have sH9 := sH8.trans s9
        let here := R.filter fun x => decide (x.hour = (i : Int))
        have hhl : here.length ≤ R.length := List.length_filter_le _ _
        have hhR : ∀ x ∈ here, x ∈ R := fun x hx => (List.mem_filter.mp hx).1
        refine ⟨⟨_, SqL.of hh9⟩, ?_⟩
        obtain ⟨n1, n2, n3⟩ := src_l (K := K) (e := rwD) (ts := here) hh9 dh9
        refine lcG (e' := PyData.str) here (fun r => some r.team) (fun t x H => Dv H (rwD t) x) (fun _ => rfl) (by omega) n1 n2 n3 ?_ ?_
        · intro r x Ha N M _ sm dx hy hn
          obtain ⟨e, rfl, he⟩ := rw_of dx
          walk_at "go"
          refine ⟨_, _, _, _, rfl, rfl, SqT.of he, rfl, ?_⟩
          exact hy _ rfl _ _ (Same.refl _) rfl
        rw [fm_map]
        intro la as Ha hla sa has das
        walk_at "go"
        have sHa := sH9.trans sa
        refine ⟨⟨_, SqL.of (sHa _ _ hat)⟩, ?_⟩
        obtain ⟨t1, t2, t3⟩ := src_l (K := K) (e := tmD) (sHa _ _ hat) (hxt.same sHa)
        refine lcG (e' := PyData.str) tms (fun tm => if tm.first ≤ (i : Int) ∧ (i : Int) < tm.last then some tm.name else none) (fun t x H => Dv H (tmD t) x) (fun _ => rfl) (by have := htm.len; omega) t1 t2 t3 ?_ ?_
        · intro tm x Hb N M _ sm dx hy hn
          obtain ⟨e, rfl, he⟩ := tm_of dx
          refine ⟨_, _, rfl, SqT.of he, rfl, ?_⟩
          walk_at "go"
          refine ite2 (fun q1 => ?_) (fun q1 => ?_)
          · walk_at "go"
            refine ite2 (fun q2 => ?_) (fun q2 => ?_)
            · walk_at "go"
              exact hy _ (if_pos ⟨of_decide_eq_true q1, of_decide_eq_true q2⟩) _ _ (Same.refl _) rfl
            · exact hn (if_neg fun z => q2 (decide_eq_true z.2)) _ (Same.refl _)
          · refine ⟨_, rfl, iteF ?_⟩
            exact hn (if_neg fun z => q1 (decide_eq_true z.1)) _ (Same.refl _)
        intro lb bs Hb hlb sb hbs db
        have db' : DvAll Hb ((atHour tms (i : Int)).map PyData.str) bs := db
        clear db
        walk_at "go"
        dsimp -proj only [tNil]
        refine ⟨lb, atHour tms (i : Int), bs, rfl, hbs, db', fun zs p2 dz hp2 => ?_⟩
        have enames := day_sorted_names hd hi
        have hshn : SeqAt.shaped (.list ((here.map (·.team)).map .str)) = true := sh_strs fun x hx => by
          obtain ⟨r, hr, rfl⟩ := List.mem_map.mp hx
          exact hRn r (hhR r hr)
        have sc : Same Hb (upd Hb p2 (.lst zs)) := Same.new hp2
        rw [← enames] at dz
        have ee : PyData.eqv (.list ((here.map (·.team)).map .str)) (.list ((here.map (·.team)).map .str)) = true := sh_refl hshn
        refine ⟨.list ((here.map (·.team)).map .str), .list ((here.map (·.team)).map .str), Dv.dp (list_mk (sc _ _ (sb _ _ has)) (das.same (sb.trans sc))), Dv.dp (list_mk upd_same (dz.same sc)), hshn, hshn, ?_⟩
        rw [ee]
        refine ⟨_, rfl, iteF ?_⟩
        generalize hHc : upd Hb p2 (.lst zs) = Hc at sc ⊢
        have s9c := sa.trans (sb.trans sc)
        have sHc := sH9.trans s9c
        have s6c := s8.trans (s9.trans s9c)
        have hh10 := s9c _ _ hh9
        have dh10 := dh9.same s9c
        have hn10 := s9c _ _ hns
        have dn10 := dns.same s9c
        have hc10 := s6c _ _ hc6
        have hg10 := s6c _ _ hg6
        have hl10 := s6c _ _ hl6
        have nlnw : nw ≠ lf := fun z => by rw [z, s8 _ _ hl6] at hnw; cases hnw
        have nwcd : nw ≠ cd := fun z => by rw [z, s8 _ _ hc6] at hnw; cases hnw
        have nwgd : nw ≠ gd := fun z => by rw [z, s8 _ _ hg6] at hnw; cases hnw
        have nwlh : nw ≠ lh := fun z => by rw [z, hhh] at hnw; cases hnw
        have hnwH : H nw = none := sH8.free hnw
        walk_at "go"
        let nwOf : Rw → Nw := fun x => ⟨x.pot, x.num, colOf tms x.team⟩
        let done : Nat → List Rw := fun j => (R.filter fun x => decide (x.hour < (i : Int))) ++ here.take j
        let Pw : Nat → L2.St → Hp → Prop := fun j σ H6 => ∃ (y10 y11 y12 y13 y14 y15 y16 y17 y18 y19 : Option V) (kvs : List (List Key × V)) (nws : List Nw) (ns : List V), σ = [some (.ref pa), some u, some (.ref at_), some (.ref a), some (.ref lf), some (.ref cd), some (.ref gd), some (.int (i : Int)), some (.ref lh), some (.ref nw), y10, y11, y12, y13, y14, y15, y16, y17, y18, y19] ∧
          Same H H6 ∧ H6 cd = some (.dK (colsE tms)) ∧ H6 gd = some (.dK (gathE p)) ∧ H6 lf = some (.dT kvs) ∧ LeftAt p tms (done j) kvs ∧ kvs.length ≤ (done j).length ∧
          H6 lh = some (.lst hh) ∧ DvAll H6 (here.map rwD) hh ∧ H6 nw = some (.lst ns) ∧ DvAll H6 (nws.map nwD) ns ∧ (∀ x ∈ here.drop j, nwOf x ∈ nws) ∧ ∀ q ∈ nws, sOk q.col
        have hhlen : hh.length = here.length := by have := dh10.lenM; exact this
        refine ⟨⟨_, SqL.of hh10⟩, forG here.length Pw ?_ ?_ ?_ ?_⟩
        · refine ⟨_, _, _, _, _, _, _, _, _, _, kvs, nowF pots (i : Int), ns, rfl, sHc, hc10, hg10, hl10, ?_, ?_, hh10, dh10, hn10, dn10, ?_, ?_⟩
          · show LeftAt p tms (_ ++ here.take 0) kvs
            rw [List.take_zero, List.append_nil]; exact hL
          · show kvs.length ≤ (_ ++ here.take 0).length
            rw [List.take_zero, List.append_nil]; exact hkl
          · intro x hx
            rw [List.drop_zero] at hx
            have h1 := (day_now hd hok htm.nd (hRmem x (hhR x hx))).1
            have h2 : x.hour = (i : Int) := of_decide_eq_true (List.mem_filter.mp hx).2
            rw [h2] at h1
            exact h1
          · intro q hq
            obtain ⟨i', j', ts, tt, f1, f2, f3, f4, f5⟩ := now_mem hq
            obtain ⟨cc, hcc, _⟩ := (hok ts (List.mem_of_getElem? f1)).col tt (List.mem_of_getElem? f2)
            rw [f5]
            exact hpo.ok hcc
        · rintro j σ H6 hj ⟨y10, y11, y12, y13, y14, y15, y16, y17, y18, y19, kvs, nws, ns, rfl, t6, hc6, hg6, hl6, hL, hkl, hh6, dh6, hn6, dn6, hin, hsk⟩
          obtain ⟨r1, r2, r3⟩ := src_l (K := K) (e := rwD) (ts := here) hh6 dh6
          exact r1 j _ H6 (List.getElem?_eq_getElem hj) (Same.refl _)
        · rintro j x σ H6 H7 hj ⟨y10, y11, y12, y13, y14, y15, y16, y17, y18, y19, kvs, nws, ns, rfl, t6, hc6, hg6, hl6, hL, hkl, hh6, dh6, hn6, dn6, hin, hsk⟩ y
          obtain ⟨r1, r2, r3⟩ := src_l (K := K) (e := rwD) (ts := here) hh6 dh6
          have hjg : here[j]? = some here[j] := List.getElem?_eq_getElem hj
          obtain ⟨s7, dx⟩ := r2 j _ H6 x H7 hjg (Same.refl _) y
          obtain ⟨e, rfl, he⟩ := rw_of dx
          generalize hr0 : here[j] = r at hjg he dx
          have hrh : r ∈ here := List.mem_of_getElem? hjg
          have hrR : r ∈ allRows p pots tms sv := by
            have := hhR r hrh
            unfold R dayRows at this
            rwa [List.mem_mergeSort] at this
          obtain ⟨_, tm, htm', etm, ecol⟩ := day_now hd hok htm.nd hrR
          obtain ⟨cc, hcc⟩ := htm.col tm htm'
          refine ⟨_, _, rfl, SqT.of he, rfl, ?_⟩
          walk_at "go"
          refine ⟨cd, .str tm.col, rfl, ?_, ?_⟩
          · rw [etm]
            have := DGet.k (k := .inr tm.name) (s7 _ _ hc6)
            rw [cols_at htm.nd htm'] at this
            exact this
          walk_at "go"
          dsimp -proj only [tNil]
          refine ⟨by show 3 ≤ sizeLine; decide, fun tt htt => ?_⟩
          have st : Same H7 (upd H7 tt (.tup [.int r.pot, .int r.num, .str tm.col])) := Same.new htt
          have htt8 : upd H7 tt (.tup [.int r.pot, .int r.num, .str tm.col]) tt = some (.tup [.int r.pot, .int r.num, .str tm.col]) := upd_same
          generalize upd H7 tt (.tup [.int r.pot, .int r.num, .str tm.col]) = H8 at st htt8 ⊢
          have s68 := s7.trans st
          let q0 : Nw := ⟨r.pot, r.num, tm.col⟩
          have hq0 : q0 ∈ nws := by
            have := hin r (List.mem_iff_getElem?.mpr ⟨0, by rw [List.getElem?_drop]; exact hjg⟩)
            have e0 : nwOf r = q0 := by show (⟨r.pot, r.num, colOf tms r.team⟩ : Nw) = ⟨r.pot, r.num, tm.col⟩; rw [ecol]
            rwa [e0] at this
          have hshq : SeqAt.shaped (nwD q0) = true := sh_nw (hpo.ok hcc)
          have hshl : SeqAt.shaped (.list (nws.map nwD)) = true := sh_nows hsk
          walk_at "go"
          refine ⟨nwD q0, nws.map nwD, Dv.dp (nw_mk htt8), Dv.dp (list_mk (s68 _ _ hn6) (dn6.same s68)), hshq, hshl, ?_⟩
          have hany : ((nws.map nwD).any fun z => PyData.eqv z (nwD q0)) = true := List.any_eq_true.mpr ⟨nwD q0, List.mem_map.mpr ⟨q0, hq0, rfl⟩, (eqv_nw q0 q0).mpr rfl⟩
          rw [hany]
          refine ⟨_, rfl, iteF ?_⟩
          walk_at "go"
          have hn8 := s68 _ _ hn6
          refine ⟨tyL hn8, ?_⟩
          walk_at "go"
          obtain ⟨jq, w1, w2, w3⟩ := rem_at hq0
          have dn8 := dn6.same s68
          refine ⟨nw, .ref tt, nwD q0, ns, nws.map nwD, jq, nwD q0, rfl, rfl, hn8, dn8, nw_mk htt8, (sh_all fun d hd => by obtain ⟨x, hx, rfl⟩ := List.mem_map.mp hd; exact lay_nw (hsk x hx)).1, hshq, w1, (eqv_nw q0 q0).mpr rfl, w2, ?_⟩
          walk_at "go"
          have hl9 : upd H8 nw (.lst (ns.eraseIdx jq)) lf = some (.dT kvs) := by rw [upd_ne nlnw.symm]; exact s68 _ _ hl6
          have hc9 : upd H8 nw (.lst (ns.eraseIdx jq)) cd = some (.dK (colsE tms)) := by rw [upd_ne nwcd.symm]; exact s68 _ _ hc6
          have hg9 : upd H8 nw (.lst (ns.eraseIdx jq)) gd = some (.dK (gathE p)) := by rw [upd_ne nwgd.symm]; exact s68 _ _ hg6
          have hlh9 : upd H8 nw (.lst (ns.eraseIdx jq)) lh = some (.lst hh) := by rw [upd_ne nwlh.symm]; exact s68 _ _ hh6
          have htt9 : upd H8 nw (.lst (ns.eraseIdx jq)) tt = some (.tup [.int r.pot, .int r.num, .str tm.col]) := by rw [upd_ne (ne_of htt8 hn8 (by intro z; cases z))]; exact htt8
          have hn9 : upd H8 nw (.lst (ns.eraseIdx jq)) nw = some (.lst (ns.eraseIdx jq)) := upd_same
          have dh9' : DvAll (upd H8 nw (.lst (ns.eraseIdx jq))) (here.map rwD) hh := (dh6.same s68).upd (notup_l hn8) (noLA noRw _)
          have dn9 : DvAll (upd H8 nw (.lst (ns.eraseIdx jq))) ((nws.eraseIdx jq).map nwD) (ns.eraseIdx jq) := by
            have := (dn8.upd (o := .lst (ns.eraseIdx jq)) (notup_l hn8) (noLA noNw _)).erase jq
            rwa [erase_map] at this
          have sH9' : Same H (upd H8 nw (.lst (ns.eraseIdx jq))) := Same.mut (t6.trans s68) hnwH
          generalize upd H8 nw (.lst (ns.eraseIdx jq)) = H9 at hl9 hc9 hg9 hlh9 htt9 hn9 dh9' dn9 sH9' ⊢
          refine ⟨.inr ⟨kvs, .inl hl9⟩, ?_⟩
          walk_at "go"
          refine ⟨cd, .str tm.col, rfl, ?_, ?_⟩
          · rw [etm]
            have := DGet.k (k := .inr tm.name) hc9
            rw [cols_at htm.nd htm'] at this
            exact this
          refine ⟨gd, .int cc.gathers, rfl, ?_, ?_⟩
          · have := DGet.k (k := .inr tm.col) hg9
            rw [gath_at hpo hcc] at this
            exact this
          have eT : turnOf tms r = (r.pot, r.num, tm.col) := by unfold turnOf; rw [ecol]
          obtain ⟨m, hm, hL'⟩ := hL.put (x := r) (c := cc) (by rw [eT]; exact hcc)
          rw [eT] at hm hL'
          refine ⟨valV kvs (kk (r.pot, r.num, tm.col)), DGet.t (k := kk (r.pot, r.num, tm.col)) hl9 htt9, ?_⟩
          rw [hm]
          walk_at "go"
          have hdl : kvs.length < sizeLine := by
            have h1 : (done j).length ≤ R.length + here.length := by
              show (_ ++ here.take j).length ≤ _
              rw [List.length_append, List.length_take]
              have := List.length_filter_le (fun x : Rw => decide (x.hour < (i : Int))) R
              omega
            rw [sizeLine_eq]; omega
          refine ⟨lf, _, rfl, DPut.t (k := kk (r.pot, r.num, tm.col)) hl9 htt9 hdl, ?_⟩
          have edone : done (j + 1) = done j ++ [r] := by
            show _ ++ here.take (j + 1) = (_ ++ here.take j) ++ [r]
            rw [List.take_add_one, hjg, List.append_assoc]; rfl
          have lflh : lh ≠ lf := ne_of hlh9 hl9 (by intro z; cases z)
          refine ⟨_, _, _, _, _, _, _, _, _, _, _, nws.eraseIdx jq, ns.eraseIdx jq, rfl, Same.mut sH9' hlf, by rw [upd_ne hlcd.symm]; exact hc9, by rw [upd_ne hlgd.symm]; exact hg9, upd_same, ?_, ?_, by rw [upd_ne lflh]; exact hlh9, ?_, by rw [upd_ne nlnw]; exact hn9, ?_, ?_, ?_⟩
          · rw [edone]; exact hL'
          · rw [edone, List.length_append]
            have := put_len kvs (kk (r.pot, r.num, tm.col)) (.int (m - 1))
            show _ ≤ (done j).length + 1
            omega
          · exact dh9'.updO (fun _ z => by rw [hl9] at z; cases z) (fun _ z => by rw [hl9] at z; cases z)
          · exact dn9.updO (fun _ z => by rw [hl9] at z; cases z) (fun _ z => by rw [hl9] at z; cases z)
          · intro x hx
            have hx' : x ∈ here.drop j := by
              rw [← List.drop_drop] at hx
              exact List.mem_of_mem_drop hx
            refine w3 _ (hin x hx') fun z => ?_
            obtain ⟨k1, hk1⟩ := List.mem_iff_getElem?.mp hx
            rw [List.getElem?_drop] at hk1
            have hpw : here.Pairwise fun a b => turnOf tms a ≠ turnOf tms b := by
              have pm : here.Perm ((allRows p pots tms sv).filter fun x => decide (x.hour = (i : Int))) := (List.mergeSort_perm _ _).filter _
              exact (pm.pairwise_iff (fun {a b} h z => h z.symm)).mpr (day_turns hd htm.nd i)
            rw [List.pairwise_iff_getElem] at hpw
            have hl1 := (List.getElem?_eq_some_iff.mp hk1).1
            have q1 := hpw j (j + 1 + k1) hj hl1 (by omega)
            have q2 : here[j + 1 + k1] = x := by
              rw [List.getElem?_eq_getElem hl1] at hk1
              exact Option.some.inj hk1
            rw [hr0, q2] at q1
            refine q1 ?_
            have z' : (⟨x.pot, x.num, colOf tms x.team⟩ : Nw) = ⟨r.pot, r.num, tm.col⟩ := z
            have u1 : x.pot = r.pot := congrArg Nw.pot z'
            have u2 : x.num = r.num := congrArg Nw.num z'
            have u3 : colOf tms x.team = tm.col := congrArg Nw.col z'
            show (r.pot, r.num, colOf tms r.team) = (x.pot, x.num, colOf tms x.team)
            rw [u1, u2, u3, ecol]
          · intro q hq
            exact hsk q (List.mem_of_mem_eraseIdx hq)
        · rintro σ H6 ⟨y10, y11, y12, y13, y14, y15, y16, y17, y18, y19, kvs, nws, ns, rfl, t6, hc6, hg6, hl6, hL, hkl, hh6, dh6, hn6, dn6, hin, hsk⟩
          obtain ⟨r1, r2, r3⟩ := src_l (K := K) (e := rwD) (ts := here) hh6 dh6
          have ed : done here.length = (R.filter fun x => decide (x.hour < (i : Int))) ++ here := by
            show _ ++ here.take here.length = _
            rw [List.take_length]
          have ei : ((i + 1 : Nat) : Int) = (i : Int) + 1 := by omega
          refine ⟨r3 H6 (Same.refl _), _, _, _, _, _, _, _, _, _, _, _, _, _, kvs, rfl, t6, hc6, hg6, hl6, ?_, ?_⟩
          · rw [ed] at hL
            rw [ei]
            exact hL.cong fun f => filt_lt f (i : Int) R
          · rw [ed] at hkl
            rw [ei, ← filt_ltl]
            exact hkl
      · rintro σ H6 ⟨z7, z8, z9, z10, z11, z12, z13, z14, z15, z16, z17, z18, z19, kvs, rfl, s6, hc6, hg6, hl6, hL, hkl⟩
        refine ⟨Nat.le_refl _, ?_⟩
        have eall : (R.filter fun x => decide (x.hour < ((60 : Nat) : Int))) = R := filt_all fun x hx => (hRh x hx).2
        rw [eall] at hL hkl
        have hR6 := drs.same s6
        walk_at "go"
        refine ⟨a, _, rfl, .inl (SqL.of (s6 _ _ ha)), ?_⟩
        walk_at "go"
        refine ⟨⟨_, SqL.of (s6 _ _ hat)⟩, ?_⟩
        obtain ⟨t1, t2, t3⟩ := src_l (K := K) (e := tmD) (s6 _ _ hat) (hxt.same s6)
        refine lcG (e' := PyData.int) tms (fun tm => some (tm.last - tm.first)) (fun t x H => Dv H (tmD t) x) (fun _ => rfl) (by have := htm.len; omega) t1 t2 t3 ?_ ?_
        · intro tm x Hb N M _ sm dx hy hn
          obtain ⟨e, rfl, he⟩ := tm_of dx
          refine ⟨_, _, rfl, SqT.of he, rfl, ?_⟩
          walk_at "go"
          exact hy _ rfl _ _ (Same.refl _) rfl
        rw [fm_map]
        intro la as Ha hla sa has das
        have eas := DvAll.ints' das
        subst eas
        have ersl : rs.length = R.length := drs.lenM
        refine ⟨la, _, rfl, SqL.of has, rfl, _, rfl, ?_⟩
        refine ite2 (fun q => ?_) (fun q => ?_)
        · exfalso
          have e : V.int (rs.length : Int) = V.int (tms.map fun tm => tm.last - tm.first).sum := by rw [ersl, hRlen]
          rw [e] at q
          simp at q
        have la1 : Ha lf = some (.dT kvs) := sa _ _ hl6
        have sHa : Same H Ha := s6.trans sa
        refine ⟨lf, .dT kvs, la1, trivial, fun od => ?_⟩
        refine ⟨_, rfl, lf, od, kvs, rfl, upd_same, ?_⟩
        obtain ⟨v1, v2, v3⟩ := src_v (H := upd Ha lf (.frz od (.dT kvs))) (d := lf) (o := od) (kvs := kvs) upd_same
        refine lcG (e' := PyData.bool) kvs (fun e => some (decide (0 ≤ valI e.2))) (fun t x _ => x = t.2) (fun _ => rfl) (by omega) v1 v2 v3 ?_ ?_
        · intro e x Hb N M he sm dx hy hn
          subst dx
          obtain ⟨T0, e1, e2, e3⟩ := hL.2 e he
          rw [e2] at hy ⊢
          walk_at "go"
          exact hy _ rfl _ _ (Same.refl _) rfl
        · rw [fm_map]
          intro lb bs Hb hlb sb hbs dbs
          have ebs := DvAll.bools' dbs
          subst ebs
          have hfz : Hb lf = some (.frz od (.dT kvs)) := sb _ _ upd_same
          have nlb : lb ≠ lf := ne_of hbs hfz (by intro z; cases z)
          refine ⟨hfz, ?_⟩
          have sEnd : Same H (upd Hb lf (.dT kvs)) := fun a' o' e' => by
            have na : a' ≠ lf := ne_of_none e' hlf
            rw [upd_ne na]
            exact sb _ _ (by rw [upd_ne na]; exact sHa _ _ e')
          refine ⟨lb, _, rfl, SqL.of (by rw [upd_ne nlb]; exact hbs), ?_⟩
          have eall2 : ((kvs.map fun e => decide (0 ≤ valI e.2)).all id) = true := by
            rw [List.all_map, List.all_eq_true]
            intro e he
            obtain ⟨T0, e1, e2, cc, hcc⟩ := hL.2 e he
            have hgg := (hpo.col cc (find_name hcc).1).2.2.2.1
            have hgo : gOf p T0.2.2 = cc.gathers := by unfold gOf; rw [hcc]; rfl
            have hct := day_count hd htm.nd T0 (by omega)
            have hperm : R.countP (fun x => decide (turnOf tms x = T0)) = (allRows p pots tms sv).countP (fun x => decide (turnOf tms x = T0)) := (List.mergeSort_perm _ _).countP_eq _
            show decide (0 ≤ valI e.2) = true
            rw [e2, hperm]
            exact decide_eq_true (show 0 ≤ gOf p T0.2.2 - _ by omega)
          rw [eall2]
          exact k _ sEnd
end
end K83
set_option maxRecDepth 100000
set_option maxHeartbeats 4000000
namespace K83
open PySem PySem.Spec PyProof.Rows L2
local macro_rules | `(tactic| walk_at "nz") => `(tactic| dsimp -proj only [L2.start, wipe, List.map_cons, List.map_nil, List.set, List.length, List.replicate, List.cons_append, List.nil_append, Nat.reduceSub, Nat.reduceAdd])
local macro_rules | `(tactic| walk_at "gg") => `(tactic| repeat (first | refine ⟨rfl, ?_⟩ | refine ⟨_, rfl, ?_⟩ | refine ⟨_, _, rfl, ?_⟩ | refine ⟨_, _, rfl, rfl, ?_⟩))
local macro_rules | `(tactic| walk_at "go") => `(tactic| ((try walk_at "nz"); walk_at "gg"; (try walk_at "nz")))
theorem early_tms {p : Pal} {hour : Nat} {tms : List Tm} (h : TmsOk p tms) (hh : hour ≤ 60) : TmsOk p (earlyF hour tms) where
  len := Nat.le_trans (early_len hour tms) h.len
  nd := List.Nodup.sublist early_nd h.nd
  col := fun x hx => by
    obtain ⟨tm, h1, h2, rfl⟩ := early_mem hx
    exact h.col tm h1
  name := fun x hx => by
    obtain ⟨tm, h1, h2, rfl⟩ := early_mem hx
    exact h.name tm h1
  hrs := early_ok h.hrs hh
theorem early_has {hour : Nat} {tms : List Tm} {c : Str} (h : hasCol (earlyF hour tms) c) : hasCol tms c := by
  obtain ⟨x, hx, e⟩ := h
  obtain ⟨tm, h1, h2, rfl⟩ := early_mem hx
  exact ⟨tm, h1, e⟩
theorem up_eq {l m : List Int} (hl : l.Pairwise (· < ·)) (hm : m.Pairwise (· < ·)) (h : ∀ k, k ∈ l ↔ k ∈ m) : l = m := by
  have n1 : l.Nodup := hl.imp fun h => by omega
  have n2 : m.Nodup := hm.imp fun h => by omega
  exact ((List.perm_ext_iff_of_nodup n1 n2).mpr h).eq_of_pairwise (fun a b _ _ h1 h2 => by omega) hl hm
theorem find_fm {cs : List Col} {c : Str} {cc : Col} (h : cs.find? (fun x => decide (x.name = c)) = some cc) : (cs.filterMap fun x => if x.name = c then some x.gathers else none)[0]? = some cc.gathers := by
  induction cs with
  | nil => cases h
  | cons a cs ih =>
    rw [List.find?_cons] at h
    rw [List.filterMap_cons]
    by_cases e : a.name = c
    · rw [decide_eq_true e] at h
      cases h
      rw [if_pos e]; rfl
    · rw [decide_eq_false e] at h
      rw [if_neg e]
      exact ih h
theorem sh_ints {ns : List Int} : SeqAt.shaped (.list (ns.map .int)) = true := sh_list fun d hd => by
  obtain ⟨r, hr, rfl⟩ := List.mem_map.mp hd
  simp [PyData.canLay0, PyData.depth]
theorem up_len {ns : List Int} (up : ns.Pairwise (· < ·)) (rng : ∀ k ∈ ns, 0 ≤ k ∧ k < 60) : ns.length ≤ 60 := by
  have h := cnt_range up 0 60 (by decide)
  have e : ns.countP (fun k => decide (0 ≤ k ∧ k < 60)) = ns.length := List.countP_eq_length.mpr fun k hk => decide_eq_true (rng k hk)
  rw [e] at h
  omega
theorem now_len (pots : List (List Trn)) (k : Int) : (nowF pots k).length ≤ pots.length := by
  have := List.length_filterMap_le (nowOf k) pots.zipIdx
  rwa [List.length_zipIdx] at this
theorem gen_heap {H0 H1 : Hp} {G : Hp → Prop} (s : Same H0 H1) (h : ∀ H1, Same H0 H1 → G H1) : G H1 := h H1 s
def spLackR : Sp := fun vs H Q _ => ∃ v u t b q p pots tms c, ∃ (hour : Nat) (ns : List Int), vs = [v, u, t, .ref b] ∧ Dv H (palD p) v ∧ Dv H (potsD pots) u ∧ Dv H (tmsD tms) t ∧ H b = some (.tup [nV hour, .str c, .ref q]) ∧ H q = some (.lst (ns.map V.int)) ∧ POk p ∧ pots.length ≤ 50 ∧ (∀ ts ∈ pots, PotOk p ts) ∧ TmsOk p tms ∧
  hasCol tms c ∧ Lack ((ofsOf p pots c).map to3) (wantsN tms c) hour ns ∧ (∀ c', hasCol tms c' → ∃ rows, VR ((ofsOf p pots c').map to3) ((wantsN tms c').take hour) rows) ∧ ∀ H', Same H H' → Q (.bl true) H'
section
variable {P : Program} {w : World} {K : PySem.W.Frag} {mg : Str → Option Value} {base : Heap} {A : Nat → Addr} {D : Nat → FuncData} {C : Addr} {tk : Tok}
theorem sc__law_lack_right : FnScope ["_law_palette_here", "_law_pots_here", "_law_teams", "_law_lack", "_law_hour", "_law_colour", "_law_hours", "_law_gathers", "_law_counts", "_law_wanted", "_law_one", "_law_pot_here", "_law_number", "_law_own", "_law_early", "_law_rows", "_law_other", "_law_team_here", "_law_first", "_law_last", "_law_row", "_law_many"] ["_law_palette_here", "_law_pots_here", "_law_teams", "_law_lack"] (defScope (topS 44)) := ⟨rfl, rfl, rfl, by decide +kernel, rfl, by decide +kernel, by decide +kernel⟩
theorem ok_lack_right (T : Tx K mg A D C tk) : FnOk P w K mg base CX0 8 (A 44) (D 44) ["_law_palette_here", "_law_pots_here", "_law_teams", "_law_lack"] spLackR := by
  have G__law_worked_now : FnOk P w K mg base CX0 6 (A 42) (D 42) _ _ := ok_now T
  have G_worked_by : FnOk P w K mg base CX0 7 (A 15) (D 15) _ _ := ok_worked_by T
  have G__law_walked : FnOk P w K mg base CX0 7 (A 43) (D 43) _ _ := ok_walked T
  refine T.d__law_lack_right.fn.ok sc__law_lack_right (fun vs H Q E h => ?_) (fun cdv A0 outer s H vs Q E hr h => ?_)
  · obtain ⟨v, u, t, b, q, p, pots, tms, c, hour, ns, rfl, _⟩ := h
    rfl
  · obtain ⟨v, u, t, b, q, p, pots, tms, c, hour, ns, rfl, hp, hu, ht, hb, hq, hpo, hpl, hok, htm, hcol, hlk, hearly, k⟩ := h
    obtain ⟨at_, xt, rfl, hat, hxt⟩ := list_of ht
    have h60 : hour < 60 := by have := hlk.lt; rwa [wantsN_len] at this
    have hrng : ∀ k ∈ ns, 0 ≤ k ∧ k < 60 := fun k hk => by have := hlk.rng k hk; omega
    have hnl := up_len hlk.up hrng
    obtain ⟨cc, hcc⟩ : ∃ cc, p.find c = some cc := by
      obtain ⟨tm, h1, h2⟩ := hcol
      obtain ⟨cc, h3⟩ := htm.col tm h1
      exact ⟨cc, by rw [← h2]; exact h3⟩
    have hg : gOf p c = cc.gathers := by unfold gOf; rw [hcc]; rfl
    have hgp := (hpo.col cc (find_name hcc).1).2.2.2.1
    obtain ⟨n0, hn0⟩ : ∃ n0, ns[0]? = some n0 := ⟨ns[0]'(List.length_pos_iff.mpr hlk.ne), List.getElem?_eq_getElem _⟩
    have hlastE : ns = ns.dropLast ++ [ns.getLast hlk.ne] := (List.dropLast_concat_getLast hlk.ne).symm
    have hlm : ns.getLast hlk.ne ∈ ns := List.getLast_mem hlk.ne
    generalize ns.getLast hlk.ne = nl at hlastE hlm
    have hqL : H q = some (.lst (ns.dropLast.map V.int ++ [V.int nl])) := by
      rw [hq]; congr 2
      conv => lhs; rw [hlastE]
      rw [List.map_append]; rfl
    refine ⟨_, (pss_cons (ps_asg (pv 3) (pgT K 3 rfl (pgs_cons (pg_name (i := 4) sc__law_lack_right.nd rfl (Or.inr rfl)) (pgs_cons (pg_name (i := 5) sc__law_lack_right.nd rfl (Or.inr rfl)) (pgs_cons (pg_name (i := 6) sc__law_lack_right.nd rfl (Or.inl rfl)) pgs_nil)))))
 (pss_cons (ps_if (PW.pt (pw_or (pt_cmpR (eqDt K hr.units) (pv 6) (pe_lst pa_nil) (nomark _)) (pw_or (pt_cmpR (neDt K hr.units) (pv 6) (pe_callB (cr_sortedSet rfl) (by rfl) T.sorted (by decide +kernel) (pa_cons (pe_callTy (cr_setI rfl) (by rfl) T.set (by decide +kernel) (pa_cons (pv 6) pa_nil)) pa_nil)) (nomark _)) (pw_or (pt_cmpR op_lt (pe_ix (ixL K) (pv 6) pe_int (fun _ _ => rfl)) pe_int (nomark _)) (pw_or1 (pt_cmpR op_gt (pe_ix (ixL K) (pv 6) (pe_un un_neg pe_int) (fun _ _ => rfl)) (pv 4) (nomark _))))))) (pss_one (ps_ret pe_bl)) pss_nil)
 (pss_cons (ps_asg (pe_tup (pa_cons (pe_ix (ixL K) (pe_lc (own := [("_law_row", 20)]) rfl sc__law_lack_right.nd (piT K (pe_ix (ixT K) (pv 0) pe_int (fun _ _ => rfl))) (blkOk_by (N := ["_law_palette_here", "_law_pots_here", "_law_teams", "_law_lack", "_law_hour", "_law_colour", "_law_hours", "_law_gathers", "_law_counts", "_law_wanted", "_law_one", "_law_pot_here", "_law_number", "_law_own", "_law_early", "_law_rows", "_law_other", "_law_team_here", "_law_first", "_law_last", "_law_row", "_law_many"]) (sc := defScope (topS 44)) (by decide +kernel)) (fun _ _ _ _ _ => (pg_name (i := 20) sc__law_lack_right.nd rfl (Or.inl rfl))) (fun _ _ _ _ _ => (pts_one (pt_cmpR op_eq (pe_ix (ixT K) (pv 20) pe_int (fun _ _ => rfl)) (pv 5) (nomark _)))) (fun _ _ _ _ _ => (pe_ix (ixT K) (pv 20) pe_int (fun _ _ => rfl)))) pe_int (fun _ _ => rfl)) (pa_cons pe_dnewT (pa_cons pe_int pa_nil)))) (pgT K 3 rfl (pgs_cons (pg_name (i := 7) sc__law_lack_right.nd rfl (Or.inr rfl)) (pgs_cons (pg_name (i := 8) sc__law_lack_right.nd rfl (Or.inl rfl)) (pgs_cons (pg_name (i := 9) sc__law_lack_right.nd rfl (Or.inl rfl)) pgs_nil)))))
 (pss_cons (ps_for PassesOwn.never rfl (piL K (pv 6)) (pg_name (i := 10) sc__law_lack_right.nd rfl (Or.inr rfl)) (pss_cons (ps_for PassesOwn.never rfl (piL K (pcall T.d__law_worked_now G__law_worked_now (hr.mono (by decide)) rfl (pa_cons (pv 0) (pa_cons (pv 1) (pa_cons (pv 10) pa_nil))))) (pgT K 3 rfl (pgs_cons (pg_name (i := 11) sc__law_lack_right.nd rfl (Or.inl rfl)) (pgs_cons (pg_name (i := 12) sc__law_lack_right.nd rfl (Or.inl rfl)) (pgs_cons (pg_name (i := 13) sc__law_lack_right.nd rfl (Or.inl rfl)) pgs_nil)))) (pss_one (ps_dput (hu_of hr) (pv 8) (pe_tup (pa_cons (pv 11) (pa_cons (pv 12) pa_nil))) (pe_op op_add (pe_dget2 (hu_of hr) (pv 8) (pe_tup (pa_cons (pv 11) (pa_cons (pv 12) pa_nil))) pe_int ⟨rfl, rfl, rfl, rfl⟩) (pe_callTy call_int1 (by rfl) T.int (by decide +kernel) (pa_cons (pe_cmpR op_eq (pv 13) (pv 5) (nomark _)) pa_nil))) rfl)))
 (pss_one (ps_set (i := 9) sc__law_lack_right.nd rfl (Or.inl rfl) (pe_op op_add (pv 9) (pe_callB (lenS K) (by rfl) T.len (by decide +kernel) (pa_cons (pe_lc (own := [("_law_team_here", 17), ("_law_own", 13), ("_law_first", 18), ("_law_last", 19)]) rfl sc__law_lack_right.nd (piL K (pv 2)) (blkOk_by (N := ["_law_palette_here", "_law_pots_here", "_law_teams", "_law_lack", "_law_hour", "_law_colour", "_law_hours", "_law_gathers", "_law_counts", "_law_wanted", "_law_one", "_law_pot_here", "_law_number", "_law_own", "_law_early", "_law_rows", "_law_other", "_law_team_here", "_law_first", "_law_last", "_law_row", "_law_many"]) (sc := defScope (topS 44)) (by decide +kernel)) (fun _ _ _ _ _ => (pgT K 4 rfl (pgs_cons (pg_name (i := 17) sc__law_lack_right.nd rfl (Or.inl rfl)) (pgs_cons (pg_name (i := 13) sc__law_lack_right.nd rfl (Or.inl rfl)) (pgs_cons (pg_name (i := 18) sc__law_lack_right.nd rfl (Or.inl rfl)) (pgs_cons (pg_name (i := 19) sc__law_lack_right.nd rfl (Or.inl rfl)) pgs_nil)))))) (fun _ _ _ _ _ => (pts_one (PW.pt (pw_and (pt_cmpR op_eq (pv 13) (pv 5) (nomark _)) (pw_and1 (pt_chain op_le op_lt (pv 18) (pv 10) (pv 19))))))) (fun _ _ _ _ _ => (pv 17))) pa_nil)))))))
 (pss_cons (ps_if (pt_cmpR op_le (pv 9) (pe_callB (sumI K) (by rfl) T.sum (by decide +kernel) (pa_cons (pe_lock (pe_lc (own := [("_law_many", 21)]) rfl sc__law_lack_right.nd (pi_valuesT (pv 8)) (blkOk_by (N := ["_law_palette_here", "_law_pots_here", "_law_teams", "_law_lack", "_law_hour", "_law_colour", "_law_hours", "_law_gathers", "_law_counts", "_law_wanted", "_law_one", "_law_pot_here", "_law_number", "_law_own", "_law_early", "_law_rows", "_law_other", "_law_team_here", "_law_first", "_law_last", "_law_row", "_law_many"]) (sc := defScope (topS 44)) (by decide +kernel)) (fun _ _ _ _ _ => (pg_name (i := 21) sc__law_lack_right.nd rfl (Or.inl rfl))) (fun _ _ _ _ _ => pts_nil) (fun _ _ _ _ _ => (pe_callB (call_min2 rfl) (by rfl) T.min (by decide +kernel) (pa_cons (pv 7) (pa_cons (pv 21) pa_nil)))))) pa_nil)) (nomark _)) (pss_one (ps_ret pe_bl)) pss_nil)
 (pss_cons (ps_setLc (i := 14) (own := [("_law_team_here", 17), ("_law_own", 13), ("_law_first", 18), ("_law_last", 19)]) rfl sc__law_lack_right.nd rfl rfl (sw_true rfl rfl rfl (by decide +kernel)) (piL K (pv 2)) (blkOk_by (N := ["_law_palette_here", "_law_pots_here", "_law_teams", "_law_lack", "_law_hour", "_law_colour", "_law_hours", "_law_gathers", "_law_counts", "_law_wanted", "_law_one", "_law_pot_here", "_law_number", "_law_own", "_law_early", "_law_rows", "_law_other", "_law_team_here", "_law_first", "_law_last", "_law_row", "_law_many"]) (sc := defScope (topS 44)) (by decide +kernel)) (fun _ _ _ _ _ => (pgT K 4 rfl (pgs_cons (pg_name (i := 17) sc__law_lack_right.nd rfl (Or.inl rfl)) (pgs_cons (pg_name (i := 13) sc__law_lack_right.nd rfl (Or.inl rfl)) (pgs_cons (pg_name (i := 18) sc__law_lack_right.nd rfl (Or.inl rfl)) (pgs_cons (pg_name (i := 19) sc__law_lack_right.nd rfl (Or.inl rfl)) pgs_nil)))))) (fun _ _ _ _ _ => (pts_one (pt_cmpR op_lt (pv 18) (pv 4) (nomark _)))) (fun _ _ _ _ _ => (pe_tup (pa_cons (pv 17) (pa_cons (pv 13) (pa_cons (pv 18) (pa_cons (pe_callB (call_min2 rfl) (by rfl) T.min (by decide +kernel) (pa_cons (pv 19) (pa_cons (pv 4) pa_nil))) pa_nil)))))))
 (pss_cons (ps_asg (pcall T.d_worked_by G_worked_by (hr.mono (by decide)) rfl (pa_cons (pv 0) (pa_cons (pv 1) (pa_cons (pv 14) pa_nil)))) (pgT K 2 rfl (pgs_cons (pg_name (i := 15) sc__law_lack_right.nd rfl (Or.inl rfl)) (pgs_cons (pg_name (i := 16) sc__law_lack_right.nd rfl (Or.inl rfl)) pgs_nil))))
 (pss_one (ps_ret (pe_and (pe_cmpR op_isN (pv 16) pe_non (nomark _)) (pe_one (pcall T.d__law_walked G__law_walked (hr.mono (by decide)) rfl (pa_cons (pv 0) (pa_cons (pv 1) (pa_cons (pv 14) (pa_cons (pv 15) pa_nil)))))))))))))))), ?_⟩
    refine ⟨_, rfl, b, _, rfl, SqT.of hb, rfl, ?_⟩
    walk_at "go"
    refine ⟨Nat.zero_le _, fun l0 hl0 => ?_⟩
    have s0 : Same H (upd H l0 (.lst [])) := Same.new hl0
    refine ⟨_, _, .lst (SqL.of (s0 _ _ hq)) (DvAll.dp (DvAll.ints ns)), .lst (SqL.of upd_same) .nil, sh_ints, rfl, ?_⟩
    rw [eqv_nil]
    have e0 : (ns.map PyData.int).isEmpty = false := by
      cases ns with
      | nil => exact absurd rfl hlk.ne
      | cons a r => rfl
    rw [e0]
    refine ⟨_, rfl, iteF ?_⟩
    generalize upd H l0 (.lst []) = H0 at s0 ⊢
    walk_at "go"
    have hq0 := s0 _ _ hq
    refine ⟨q, _, rfl, SqL.of hq0, by show _ < 4096; omega, fun ps n hn hps => ?_⟩
    have hn60 : n < 64 := by
      have := hn ((List.range 60).map fun n : Nat => (n : Int)) fun k hk => by
        have := hrng k hk
        exact List.mem_map.mpr ⟨k.toNat, List.mem_range.mpr (by omega), by omega⟩
      rw [List.length_map, List.length_range] at this
      omega
    refine ⟨ps, _, n, rfl, upd_same, hn60, fun ms q2 hpw hmm hlen hq2 => ?_⟩
    have ems : ms = ns := up_eq hpw hlk.up fun j => by rw [hmm j, decide_eq_true_iff]
    subst ems
    have s1 := Same.new' (o := .lst (ms.map V.int)) (Same.new hps) hq2
    refine ⟨_, _, .lst (SqL.of (s1 _ _ hq0)) (DvAll.dp (DvAll.ints ms)), .lst (SqL.of upd_same) (DvAll.dp (DvAll.ints ms)), sh_ints, sh_ints, ?_⟩
    rw [sh_refl sh_ints]
    refine ⟨_, rfl, iteF ?_⟩
    generalize upd (upd H0 ps _) q2 _ = H1 at s1 ⊢
    have sH1 := s0.trans s1
    have hq1 := s1 _ _ hq0
    have hqL1 := sH1 _ _ hqL
    have hx0 : (ms.map V.int)[0]? = some (V.int n0) := by rw [List.getElem?_map, hn0]; rfl
    have r0 := hrng n0 (List.mem_of_getElem? hn0)
    have rl := hlk.rng nl hlm
    walk_at "go"
    refine ⟨_, _, _, _, rfl, rfl, SqL.of hq1, atI_nat (j := 0) hx0, ?_⟩
    walk_at "go"
    refine ite2 (fun z => by have := of_decide_eq_true z; omega) (fun _ => ?_)
    walk_at "go"
    refine ⟨_, _, _, _, rfl, rfl, SqL.of hqL1, atI_last _ _, ?_⟩
    walk_at "go"
    refine ite2 (fun z => by have := of_decide_eq_true z; omega) (fun _ => ?_)
    walk_at "go"
    obtain ⟨pa, pb, pd, xs, ys, rfl, hpa, hpb, hbs, hpd, hds⟩ := pal_of hp
    refine ⟨_, _, _, _, rfl, rfl, SqT.of (sH1 _ _ hpa), rfl, _, rfl, ⟨_, SqT.of (sH1 _ _ hpb)⟩, ?_⟩
    obtain ⟨m1, m2, m3⟩ := src_t (K := K) (e := colD) (sH1 _ _ hpb) (hbs.same sH1)
    refine lcG (e' := PyData.int) p.cs (fun x => if x.name = c then some x.gathers else none) (fun t x H => Dv H (colD t) x) (fun _ => rfl) (by have := hpo.len; omega) m1 m2 m3 ?_ ?_
    · intro c0 x H3 N M _ sm dx hy hn
      obtain ⟨e, rfl, he⟩ := col_of dx
      walk_at "go"
      refine ⟨_, _, _, _, rfl, rfl, SqT.of he, rfl, ?_⟩
      walk_at "go"
      refine ite2 (fun z => ?_) (fun z => hn (if_neg fun y => z (decide_eq_true (by rw [y]))) _ (Same.refl _))
      walk_at "go"
      refine ⟨_, _, _, _, rfl, rfl, SqT.of he, rfl, ?_⟩
      exact hy _ (if_pos (dstr z)) _ _ (Same.refl _) rfl
    intro lg gs H2 hlg s2 hgs dgs
    have egs := DvAll.ints' dgs
    subst egs
    have hg0 := find_fm (cs := p.cs) (c := c) hcc
    walk_at "go"
    refine ⟨_, _, _, _, rfl, rfl, SqL.of hgs, atI_nat (j := 0) (by rw [List.getElem?_map, hg0]; rfl), ?_⟩
    walk_at "go"
    refine fun lf hlf => ?_
    walk_at "go"
    refine ⟨by show 3 ≤ sizeLine; decide, fun t3 ht3 => ?_⟩
    have nlf : lf ≠ t3 := fun z => by rw [← z, upd_same] at ht3; cases ht3
    refine ⟨t3, _, rfl, SqT.of upd_same, rfl, ?_⟩
    have FF : ∀ o, Same H2 (upd (upd H2 lf (.dT [])) t3 o) ∧ upd (upd H2 lf (.dT [])) t3 o lf = some (.dT []) := fun o => ⟨Same.new' (Same.new hlf) ht3, by rw [upd_ne nlf, upd_same]⟩
    obtain ⟨s3, hl3⟩ := FF (.tup [.int cc.gathers, .ref lf, .int 0])
    have sH3 := sH1.trans (s2.trans s3)
    have hlfH : H lf = none := (sH1.trans s2).free hlf
    walk_at "go"
    generalize upd (upd H2 lf (.dT [])) t3 (.tup [.int cc.gathers, .ref lf, .int 0]) = H3 at s3 hl3 sH3 ⊢
    let wt : Nat → Nat := fun i => ((ms.take i).map fun k => (namesAt tms c k).length).sum
    let Pv : Nat → L2.St → Hp → Prop := fun i σ H5 => ∃ (z10 z11 z12 z13 z14 z15 z16 z17 z18 z19 z20 z21 : Option V) (kvs : List (List Key × V)), σ = [some (.ref pa), some u, some (.ref at_), some (.ref b), some (nV hour), some (.str c), some (.ref q), some (.int cc.gathers), some (.ref lf), some (.int ((wt i : Nat) : Int)), z10, z11, z12, z13, z14, z15, z16, z17, z18, z19, z20, z21] ∧
      Same H H5 ∧ H5 lf = some (.dT kvs) ∧ CntAt pots c (ms.take i) [] kvs ∧ kvs.length ≤ i * 50
    refine ⟨⟨_, SqL.of (sH3 _ _ hq)⟩, forG ms.length Pv ?_ ?_ ?_ ?_⟩
    · exact ⟨_, _, _, _, _, _, _, _, _, _, _, _, [], rfl, sH3, hl3, CntAt.nil _ _, Nat.zero_le _⟩
    · rintro i σ H5 hi ⟨z10, z11, z12, z13, z14, z15, z16, z17, z18, z19, z20, z21, kvs, rfl, s5, hl5, hC, hkl⟩
      exact (src_l (K := K) (e := PyData.int) (ts := ms) (s5 _ _ hq) (DvAll.ints ms)).1 i _ H5 (List.getElem?_eq_getElem hi) (Same.refl _)
    · rintro i x σ H5 H6 hi ⟨z10, z11, z12, z13, z14, z15, z16, z17, z18, z19, z20, z21, kvs, rfl, s5, hl5, hC, hkl⟩ y
      obtain ⟨s6, dx⟩ := (src_l (K := K) (e := PyData.int) (ts := ms) (s5 _ _ hq) (DvAll.ints ms)).2.1 i _ H5 x H6 (List.getElem?_eq_getElem hi) (Same.refl _) y
      have hki : ms[i]? = some ms[i] := List.getElem?_eq_getElem hi
      have hkm : ms[i] ∈ ms := List.getElem_mem hi
      generalize ms[i] = k0 at dx hki hkm
      cases dx
      have sH6 := s5.trans s6
      walk_at "go"
      refine ⟨.ref pa, u, p, pots, k0, rfl, hp.same sH6, hu.same sH6, by omega, hok, fun nw ws H7 hnw s7 hws dws => ?_⟩
      walk_at "go"
      have hkrng := hrng k0 hkm
      have sH7 := sH6.trans s7
      have hl7 := s7 _ _ (s6 _ _ hl5)
      have nwlf : nw ≠ lf := fun z => by rw [z, s6 _ _ hl5] at hnw; cases hnw
      have hiL : i ≤ 60 := by omega
      have hnwl := now_len pots k0
      let Pw : Nat → L2.St → Hp → Prop := fun j σ H5 => ∃ (z11 z12 z13 z14 z15 z16 z17 z18 z19 z20 z21 : Option V) (kvs : List (List Key × V)), σ = [some (.ref pa), some u, some (.ref at_), some (.ref b), some (nV hour), some (.str c), some (.ref q), some (.int cc.gathers), some (.ref lf), some (.int ((wt i : Nat) : Int)), some (.int k0), z11, z12, z13, z14, z15, z16, z17, z18, z19, z20, z21] ∧
        Same H H5 ∧ H5 lf = some (.dT kvs) ∧ CntAt pots c (ms.take i) ((nowF pots k0).take j) kvs ∧ kvs.length ≤ i * 50 + j ∧ H5 nw = some (.lst ws) ∧ DvAll H5 ((nowF pots k0).map nwD) ws
      refine ⟨⟨_, SqL.of hws⟩, forG (nowF pots k0).length Pw ?_ ?_ ?_ ?_⟩
      · exact ⟨_, _, _, _, _, _, _, _, _, _, _, kvs, rfl, sH7, hl7, hC, hkl, hws, dws⟩
      · rintro j σ H8 hj ⟨z11, z12, z13, z14, z15, z16, z17, z18, z19, z20, z21, kvs, rfl, s8, hl8, hC8, hkl8, hw8, dw8⟩
        exact (src_l (K := K) (e := nwD) hw8 dw8).1 j _ H8 (List.getElem?_eq_getElem hj) (Same.refl _)
      · rintro j x σ H8 H9 hj ⟨z11, z12, z13, z14, z15, z16, z17, z18, z19, z20, z21, kvs, rfl, s8, hl8, hC8, hkl8, hw8, dw8⟩ y
        have hjg : (nowF pots k0)[j]? = some (nowF pots k0)[j] := List.getElem?_eq_getElem hj
        obtain ⟨s9, dx⟩ := (src_l (K := K) (e := nwD) hw8 dw8).2.1 j _ H8 x H9 hjg (Same.refl _) y
        have hpre : ∀ y ∈ (nowF pots k0).take j, y.pot ≠ (nowF pots k0)[j].pot := fun y hy => by
          obtain ⟨j', hj', e⟩ := List.getElem_of_mem hy
          have hj2 : j' < j := by rw [List.length_take] at hj'; omega
          have pw := now_pw pots k0
          rw [List.pairwise_iff_getElem] at pw
          have := pw j' j (by omega) hj hj2
          rw [← e, List.getElem_take]
          exact this
        generalize (nowF pots k0)[j] = q0 at hjg dx hpre
        obtain ⟨e, rfl, he⟩ := nw_of dx
        obtain ⟨m, hm, hC9⟩ := hC8.put (q := q0) hpre
        have sH9 := s8.trans s9
        have hl9 := s9 _ _ hl8
        refine ⟨_, _, rfl, SqT.of he, rfl, ?_⟩
        walk_at "go"
        refine ⟨.inr ⟨kvs, .inl hl9⟩, ?_⟩
        walk_at "go"
        refine ⟨by show 2 ≤ sizeLine; decide, fun tt htt => ?_⟩
        have sT : Same H9 (upd H9 tt (.tup [.int q0.pot, .int q0.num])) := Same.new htt
        walk_at "go"
        refine ⟨valV kvs [.inl q0.pot, .inl q0.num], DGet.t (k := [.inl q0.pot, .inl q0.num]) (sT _ _ hl9) upd_same, ?_⟩
        rw [hm]
        walk_at "go"
        refine .inr ⟨_, rfl, ?_⟩
        walk_at "go"
        refine ⟨by show 2 ≤ sizeLine; decide, fun t2 ht2 => ?_⟩
        have sT2 : Same H9 (upd (upd H9 tt (.tup [.int q0.pot, .int q0.num])) t2 (.tup [.int q0.pot, .int q0.num])) := Same.new' sT ht2
        have hlT := sT2 _ _ hl9
        have hcolE : (if decide (V.str q0.col = V.str c) = true then (1 : Int) else 0) = if q0.col = c then 1 else 0 := by
          by_cases e : q0.col = c <;> simp [e]
        have hjn : (nowF pots k0).length ≤ 50 := by omega
        refine ⟨lf, _, rfl, DPut.t (k := [.inl q0.pot, .inl q0.num]) hlT upd_same (by rw [sizeLine_eq]; omega), ?_⟩
        have etk : (nowF pots k0).take (j + 1) = (nowF pots k0).take j ++ [q0] := by rw [List.take_add_one, hjg]; rfl
        refine ⟨_, _, _, _, _, _, _, _, _, _, _, _, rfl, Same.mut (sH9.trans sT2) hlfH, upd_same, ?_, ?_, ?_, ?_⟩
        · rw [hcolE, etk]; exact hC9
        · have := put_len kvs [.inl q0.pot, .inl q0.num] (.int (m + if decide (V.str q0.col = V.str c) = true then 1 else 0))
          omega
        · rw [upd_ne nwlf]; exact sT2 _ _ (s9 _ _ hw8)
        · exact (dw8.same (s9.trans sT2)).updO (fun _ z => by rw [hlT] at z; cases z) (fun _ z => by rw [hlT] at z; cases z)
      · rintro σ H8 ⟨z11, z12, z13, z14, z15, z16, z17, z18, z19, z20, z21, kvs, rfl, s8, hl8, hC8, hkl8, hw8, dw8⟩
        refine ⟨(src_l (K := K) (e := nwD) hw8 dw8).2.2 H8 (Same.refl _), ?_⟩
        rw [List.take_length] at hC8
        walk_at "go"
        refine ⟨⟨_, SqL.of (s8 _ _ hat)⟩, ?_⟩
        obtain ⟨g1, g2, g3⟩ := src_l (K := K) (e := tmD) (s8 _ _ hat) (hxt.same s8)
        refine lcG (e' := PyData.str) tms (fun tm => if active tm c k0 then some tm.name else none) (fun t x H => Dv H (tmD t) x) (fun _ => rfl) (by have := htm.len; omega) g1 g2 g3 ?_ ?_
        · intro tm x Hb N M _ sm dx hy hn
          obtain ⟨e, rfl, he⟩ := tm_of dx
          refine ⟨_, _, rfl, SqT.of he, rfl, ?_⟩
          walk_at "go"
          refine ite2 (fun z => ?_) (fun z => iteF (hn (if_neg fun y => z (decide_eq_true (by rw [y.1]))) _ (Same.refl _)))
          walk_at "go"
          refine ite2 (fun q1 => ?_) (fun q1 => ?_)
          · walk_at "go"
            refine ite2 (fun q2 => ?_) (fun q2 => ?_)
            · walk_at "go"
              exact hy _ (if_pos ⟨dstr z, of_decide_eq_true q1, of_decide_eq_true q2⟩) _ _ (Same.refl _) rfl
            · exact hn (if_neg fun z => q2 (decide_eq_true z.2.2)) _ (Same.refl _)
          · refine ⟨_, rfl, iteF ?_⟩
            exact hn (if_neg fun z => q1 (decide_eq_true z.2.1)) _ (Same.refl _)
        intro la as Ha hla sa has das
        have das' : DvAll Ha ((namesAt tms c k0).map PyData.str) as := das
        clear das
        walk_at "go"
        refine ⟨la, _, rfl, .inl (SqL.of has), ?_⟩
        walk_at "go"
        have ewt : wt (i + 1) = wt i + as.length := by
          show ((ms.take (i + 1)).map _).sum = ((ms.take i).map _).sum + _
          rw [List.take_add_one, hki, List.map_append, List.sum_append, das'.lenM]
          show _ + ((namesAt tms c k0).length + 0) = _
          rfl
        rw [show ((wt i : Nat) : Int) + ((as.length : Nat) : Int) = ((wt (i + 1) : Nat) : Int) by rw [ewt, Int.natCast_add]]
        refine ⟨_, _, _, _, _, _, _, _, _, _, _, _, kvs, rfl, s8.trans sa, sa _ _ hl8, ?_, ?_⟩
        · rw [List.take_add_one, hki]
          exact hC8.turn
        · have := now_len pots k0
          omega
    · rintro σ H5 ⟨z10, z11, z12, z13, z14, z15, z16, z17, z18, z19, z20, z21, kvs, rfl, s5, hl5, hC, hkl⟩
      refine ⟨(src_l (K := K) (e := PyData.int) (ts := ms) (s5 _ _ hq) (DvAll.ints ms)).2.2 H5 (Same.refl _), ?_⟩
      rw [List.take_length] at hC
      have hwt : wt ms.length = wantS (wantsN tms c) ms := by
        rw [wantS_names hrng]
        show ((ms.take ms.length).map _).sum = _
        rw [List.take_length]
      rw [hwt]
      walk_at "go"
      refine ⟨lf, .dT kvs, hl5, trivial, fun od => ?_⟩
      refine ⟨_, rfl, lf, od, kvs, rfl, upd_same, ?_⟩
      obtain ⟨v1, v2, v3⟩ := src_v (H := upd H5 lf (.frz od (.dT kvs))) (d := lf) (o := od) (kvs := kvs) upd_same
      refine lcG (e' := PyData.int) kvs (fun e => some (mn cc.gathers (valI e.2))) (fun t x _ => x = t.2) (fun _ => rfl) (by omega) v1 v2 v3 ?_ ?_
      · intro e x Hb N M he sm dx hy hn
        subst dx
        obtain ⟨i1, j1, m1, e1, e2, e3⟩ := hC.2 e he
        rw [e2] at hy ⊢
        walk_at "go"
        exact hy _ rfl _ _ (Same.refl _) rfl
      rw [fm_map]
      intro lb bs Hb hlb sb hbs dbs
      have ebs := DvAll.ints' dbs
      subst ebs
      have hfz : Hb lf = some (.frz od (.dT kvs)) := sb _ _ upd_same
      have nlb : lb ≠ lf := ne_of hbs hfz (by intro z; cases z)
      refine ⟨hfz, ?_⟩
      have sEnd : Same H (upd Hb lf (.dT kvs)) := fun a' o' e' => by
        have na : a' ≠ lf := ne_of_none e' hlfH
        rw [upd_ne na]
        exact sb _ _ (by rw [upd_ne na]; exact s5 _ _ e')
      refine ⟨lb, _, rfl, SqL.of (by rw [upd_ne nlb]; exact hbs), ?_⟩
      generalize upd Hb lf (.dT kvs) = Hc at sEnd ⊢
      walk_at "go"
      have hroom := hC.room (p := p) (by omega)
      rw [hg] at hroom
      have hless := hlk.less
      refine ite2 (fun z => ?_) (fun _ => ?_)
      · have z' := of_decide_eq_true z
        exfalso
        exact absurd (Int.lt_of_lt_of_le hless (Int.le_trans z' hroom)) (Int.lt_irrefl _)
      walk_at "go"
      refine ⟨⟨_, SqL.of (sEnd _ _ hat)⟩, ?_⟩
      obtain ⟨g1, g2, g3⟩ := src_l (K := K) (e := tmD) (sEnd _ _ hat) (hxt.same sEnd)
      refine lcG (e' := tmD) tms (early1 hour) (fun t x H => Dv H (tmD t) x) noTm (by have := htm.len; omega) g1 g2 g3 ?_ ?_
      · intro tm x He N M _ sm dx hy hn
        obtain ⟨e, rfl, he⟩ := tm_of dx
        refine ⟨_, _, rfl, SqT.of he, rfl, ?_⟩
        walk_at "go"
        refine ite2 (fun z => ?_) (fun z => hn (if_neg fun y => z (decide_eq_true y)) _ (Same.refl _))
        walk_at "go"
        refine ⟨by show 4 ≤ sizeLine; decide, fun t4 ht4 => ?_⟩
        exact hy _ (if_pos (of_decide_eq_true z)) _ _ (Same.new ht4) (tm_mk upd_same)
      intro le es He hle se hes des
      have des' : DvAll He ((earlyF hour tms).map tmD) es := des
      clear des
      have sHe := sEnd.trans se
      walk_at "go"
      refine ⟨.ref pa, u, .ref le, p, pots, earlyF hour tms, rfl, hp.same sHe, hu.same sHe, list_mk hes des', hpo, hpl, fun ts h => (hok ts h).len, (early_tms htm (by omega)).len, (early_tms htm (by omega)).col, ?_, ?_⟩
      · intro a2 q2 rs sv Hf sf ha2 hq2' drs nd mem vr
        refine ⟨a2, _, rfl, SqT.of ha2, rfl, ?_⟩
        walk_at "go"
        have sHf := sHe.trans sf
        exact ⟨.ref pa, u, .ref le, q2, rs, p, pots, earlyF hour tms, sv, rfl, hp.same sHf, hu.same sHf, list_mk (sf _ _ hes) (des'.same sf), hq2', drs, hpo, by omega, hok, early_tms htm (by omega), ⟨nd, mem, vr⟩, fun H' s' => k H' (sHf.trans s')⟩
      · intro a2 b2 q2 hour2 c2 ns2 Hf sf _ _ _ hc2 hlk2 _
        obtain ⟨rows, hv⟩ := hearly c2 (early_has hc2)
        exact (hlk2.no (hv.early (by omega))).elim
end
end K83
set_option maxRecDepth 100000
set_option maxHeartbeats 4000000
namespace K83
open PySem PySem.Spec PyProof.Rows L2
local macro_rules | `(tactic| walk_at "nz") => `(tactic| dsimp -proj only [L2.start, wipe, List.map_cons, List.map_nil, List.set, List.length, List.replicate, List.cons_append, List.nil_append, Nat.reduceSub, Nat.reduceAdd])
local macro_rules | `(tactic| walk_at "gg") => `(tactic| repeat (first | refine ⟨rfl, ?_⟩ | refine ⟨_, rfl, ?_⟩ | refine ⟨_, _, rfl, ?_⟩ | refine ⟨_, _, rfl, rfl, ?_⟩))
local macro_rules | `(tactic| walk_at "go") => `(tactic| ((try walk_at "nz"); walk_at "gg"; (try walk_at "nz")))
/-- a day as it is asked -/
structure DayOk (p : Pal) (pots : List (List Trn)) (tms : List Tm) : Prop where
  pal : POk p
  len : pots.length ≤ 50
  pots : ∀ ts ∈ pots, PotOk p ts
  tms : TmsOk p tms
def spDay : Sp := fun vs H Q _ => ∃ v u t p pots tms, vs = [v, u, t] ∧ Dv H (palD p) v ∧ Dv H (potsD pots) u ∧ Dv H (tmsD tms) t ∧ DayOk p pots tms ∧ ∀ H', Same H H' → Q (.bl true) H'
section
variable {P : Program} {w : World} {K : PySem.W.Frag} {mg : Str → Option Value} {base : Heap} {A : Nat → Addr} {D : Nat → FuncData} {C : Addr} {tk : Tok}
theorem sc__law_day_right : FnScope ["_law_palette_here", "_law_pots_here", "_law_teams", "_law_rows", "_law_lack", "_law_turns"] ["_law_palette_here", "_law_pots_here", "_law_teams"] (defScope (topS 45)) := ⟨rfl, rfl, rfl, by decide +kernel, rfl, by decide +kernel, by decide +kernel⟩
theorem ok_day (T : Tx K mg A D C tk) : FnOk P w K mg base CX0 9 (A 45) (D 45) ["_law_palette_here", "_law_pots_here", "_law_teams"] spDay := by
  have G_fault_of : FnOk P w K mg base CX0 5 (A 20) (D 20) _ _ := ok_fault_of T
  have G_worked_by : FnOk P w K mg base CX0 7 (A 15) (D 15) _ _ := ok_worked_by T
  have G__law_walked : FnOk P w K mg base CX0 7 (A 43) (D 43) _ _ := ok_walked T
  have G__law_lack_right : FnOk P w K mg base CX0 8 (A 44) (D 44) _ _ := ok_lack_right T
  refine T.d__law_day_right.fn.ok sc__law_day_right (fun vs H Q E h => ?_) (fun cdv A0 outer s H vs Q E hr h => ?_)
  · obtain ⟨v, u, t, p, pots, tms, rfl, _⟩ := h
    rfl
  · obtain ⟨v, u, t, p, pots, tms, rfl, hp, hu, ht, hd, k⟩ := h
    obtain ⟨au, xu, rfl, hau, hxu⟩ := list_of hu
    have hpl := hd.len
    refine ⟨_, (pss_cons (ps_if (pt_not (pt_val (pe_callB (allB K) (by rfl) T.all (by decide +kernel) (pa_cons (pe_lc (own := [("_law_turns", 5)]) rfl sc__law_day_right.nd (piL K (pv 1)) (blkOk_by (N := ["_law_palette_here", "_law_pots_here", "_law_teams", "_law_rows", "_law_lack", "_law_turns"]) (sc := defScope (topS 45)) (by decide +kernel)) (fun _ _ _ _ _ => (pg_name (i := 5) sc__law_day_right.nd rfl (Or.inl rfl))) (fun _ _ _ _ _ => pts_nil) (fun _ _ _ _ _ => (pe_cmpR op_isN (pcall T.d_fault_of G_fault_of (hr.mono (by decide)) rfl (pa_cons (pv 0) (pa_cons (pv 5) pa_nil))) pe_non (nomark _)))) pa_nil)))) (pss_one (ps_ret pe_bl)) pss_nil)
 (pss_cons (ps_asg (pcall T.d_worked_by G_worked_by (hr.mono (by decide)) rfl (pa_cons (pv 0) (pa_cons (pv 1) (pa_cons (pv 2) pa_nil)))) (pgT K 2 rfl (pgs_cons (pg_name (i := 3) sc__law_day_right.nd rfl (Or.inl rfl)) (pgs_cons (pg_name (i := 4) sc__law_day_right.nd rfl (Or.inl rfl)) pgs_nil))))
 (pss_cons (ps_if (pt_cmpR op_isN (pv 4) pe_non (nomark _)) (pss_one (ps_ret (pcall T.d__law_walked G__law_walked (hr.mono (by decide)) rfl (pa_cons (pv 0) (pa_cons (pv 1) (pa_cons (pv 2) (pa_cons (pv 3) pa_nil))))))) pss_nil)
 (pss_one (ps_ret (pe_and (pe_cmpR op_isN (pv 3) pe_non (nomark _)) (pe_one (pcall T.d__law_lack_right G__law_lack_right (hr.mono (by decide)) rfl (pa_cons (pv 0) (pa_cons (pv 1) (pa_cons (pv 2) (pa_cons (pv 4) pa_nil)))))))))))), ?_⟩
    walk_at "go"
    refine ⟨⟨_, SqL.of hau⟩, ?_⟩
    obtain ⟨g1, g2, g3⟩ := src_l (K := K) (e := trnsD) hau hxu
    refine lcG (e' := PyData.bool) pots (fun _ => some true) (fun t x H => Dv H (trnsD t) x) (fun _ => rfl) (by omega) g1 g2 g3 ?_ ?_
    · intro ts x H1 N M hts sm dx hy hn
      walk_at "go"
      refine ⟨v, x, p, ts, rfl, hp.same sm, dx, hd.pots ts hts, fun r H2 s2 dr => ?_⟩
      cases dr
      walk_at "go"
      exact hy true rfl _ _ s2 rfl
    rw [fm_map]
    intro la as H1 hla s1 has das
    have eas := DvAll.bools' das
    subst eas
    walk_at "go"
    refine ⟨la, _, rfl, SqL.of has, ?_⟩
    have eall : ((pots.map fun _ => true).all id) = true := by
      rw [List.all_map, List.all_eq_true]
      intro _ _; rfl
    rw [eall]
    walk_at "go"
    refine ⟨v, .ref au, t, p, pots, tms, rfl, hp.same s1, hu.same s1, ht.same s1, hd.pal, hd.len, fun ts h => (hd.pots ts h).len, hd.tms.len, hd.tms.col, ?_, ?_⟩
    · intro a2 q2 rs sv Hf sf ha2 hq2 drs nd mem vr
      have sHf := s1.trans sf
      refine ⟨a2, _, rfl, SqT.of ha2, rfl, ?_⟩
      walk_at "go"
      exact ⟨v, .ref au, t, q2, rs, p, pots, tms, sv, rfl, hp.same sHf, hu.same sHf, ht.same sHf, hq2, drs, hd.pal, by omega, hd.pots, hd.tms, ⟨nd, mem, vr⟩, fun H' s' => k H' (sHf.trans s')⟩
    · intro a2 b2 q2 hour c ns Hf sf ha2 hb2 hq2 hc hlk hearly
      have sHf := s1.trans sf
      refine ⟨a2, _, rfl, SqT.of ha2, rfl, ?_⟩
      walk_at "go"
      exact ⟨v, .ref au, t, b2, q2, p, pots, tms, c, hour, ns, rfl, hp.same sHf, hu.same sHf, ht.same sHf, hb2, hq2, hd.pal, hd.len, hd.pots, hd.tms, hc, hlk, hearly, fun H' s' => k H' (sHf.trans s')⟩
end
end K83
set_option maxRecDepth 100000
set_option maxHeartbeats 4000000
namespace K83
open PySem PySem.Spec PyProof.Rows L2
/-! ### names -/
def ltrs : Str := "abcdefghijklmnopqrstuvwxyz"
theorem ltrs_eq : ltrs.cps.toList = (List.range 26).map (· + 97) := by decide +kernel
theorem ltrs_at {i : Int} (h0 : 0 ≤ i) (h1 : i < 26) : atI ltrs.cps.toList i = some (97 + i.toNat) := by
  have e : i = ((i.toNat : Nat) : Int) := by omega
  rw [e]
  refine atI_nat (j := i.toNat) ?_
  rw [ltrs_eq, List.getElem?_map, List.getElem?_range (by omega)]
  show some (i.toNat + 97) = some (97 + ((i.toNat : Nat) : Int).toNat)
  rw [Int.toNat_natCast, Nat.add_comm]
theorem ltrs_len : ltrs.length ≤ sizeLine := by decide +kernel
theorem slen (s : Str) : s.length = s.cps.toList.length := by unfold Str.length; rw [Array.length_toList]
theorem sapp (a b : Str) : (a ++ b).cps.toList = a.cps.toList ++ b.cps.toList := by
  show (a.cps ++ b.cps).toList = _
  rw [Array.toList_append]
theorem seq {a b : Str} (h : a.cps.toList = b.cps.toList) : a = b := by
  cases a; cases b
  congr 1
  exact Array.toList_inj.mp h
theorem sok_iff {a : Str} : sOk a ↔ ∀ c ∈ a.cps.toList, c < 0x110000 := by
  unfold sOk PyData.strOk
  rw [← Array.all_toList, List.all_eq_true]
  constructor
  · intro h c hc; simpa using h c hc
  · intro h c hc; simpa using h c hc
/-- a text of small letters -/
def Low (s : Str) : Prop := ∀ c ∈ s.cps.toList, c < 200
theorem Low.ok {s : Str} (h : Low s) : sOk s := sok_iff.mpr fun c hc => by have := h c hc; omega
theorem Low.app {a b : Str} (h : Low a) (g : Low b) : Low (a ++ b) := fun c hc => by
  rw [sapp] at hc
  exact (List.mem_append.mp hc).elim (h c) (g c)
theorem Low.one {n : Nat} (h : n < 200) : Low ⟨#[n]⟩ := fun c hc => by
  have : c = n := by simpa using hc
  omega
theorem Low.cut {s : Str} (h : Low s) (lo hi : Option Int) : Low (cutS s lo hi) := fun c hc => by
  unfold cutS at hc
  have hc' : c ∈ ((s.cps.toList.drop (HT.sIx s.length 0 lo)).take (HT.sIx s.length s.length hi - HT.sIx s.length 0 lo)) := hc
  exact h c (List.mem_of_mem_drop (List.mem_of_mem_take hc'))
theorem cut_to (s : Str) (n : Nat) : (cutS s none (some (n : Int))).cps.toList = s.cps.toList.take n := by
  unfold cutS
  show (s.cps.toList.drop (HT.sIx s.length 0 none)).take _ = _
  rw [HT.sIx_nat, HT.sIx_none, Nat.sub_zero, List.drop_zero, slen]
  by_cases h : n ≤ s.cps.toList.length
  · rw [Nat.min_eq_left h]
  · rw [Nat.min_eq_right (by omega), List.take_length, List.take_of_length_le (by omega)]
theorem cut_from (s : Str) (n : Nat) : (cutS s (some (n : Int)) none).cps.toList = s.cps.toList.drop n := by
  unfold cutS
  show (s.cps.toList.drop (HT.sIx s.length 0 (some (n : Int)))).take _ = _
  rw [HT.sIx_nat, HT.sIx_none, slen]
  by_cases h : n ≤ s.cps.toList.length
  · rw [Nat.min_eq_left h, List.take_of_length_le]
    rw [List.length_drop]; exact Nat.le_refl _
  · rw [Nat.min_eq_right (by omega), List.drop_length, List.take_nil, List.drop_eq_nil_of_le (by omega)]
def oneS (st : Str) (a f k : Nat) : Str := cutS st none (some (a : Int)) ++ ⟨#[97 + (f + 3 * k) % 26]⟩ ++ cutS st (some (a : Int)) none
def nameS (st : Str) (a f g k : Nat) : Str := if g * k % 2 = 1 then oneS st a f (k - 1) ++ ⟨#[97 + (f + k) % 26]⟩ else oneS st a f k
theorem one_list (st : Str) (a f k : Nat) : (oneS st a f k).cps.toList = st.cps.toList.take a ++ [97 + (f + 3 * k) % 26] ++ st.cps.toList.drop a := by
  unfold oneS
  rw [sapp, sapp, cut_to, cut_from]
theorem one_len (st : Str) (a f k : Nat) : (oneS st a f k).cps.toList.length = st.cps.toList.length + 1 := by
  rw [one_list, List.length_append, List.length_append, List.length_take, List.length_drop, List.length_singleton]
  omega
theorem one_inj {st : Str} {a f i j : Nat} (hi : i < 26) (hj : j < 26) (h : oneS st a f i = oneS st a f j) : i = j := by
  have h1 := congrArg (fun s : Str => s.cps.toList) h
  simp only [one_list, List.append_assoc] at h1
  have h2 := List.append_cancel_left h1
  have h3 : 97 + (f + 3 * i) % 26 = 97 + (f + 3 * j) % 26 := by
    have := congrArg List.head? h2
    simpa using this
  omega
theorem name_inj {st : Str} {a f g i j : Nat} (hg : g < 2) (hi : i < 26) (hj : j < 26) (h : nameS st a f g i = nameS st a f g j) : i = j := by
  unfold nameS at h
  by_cases ei : g * i % 2 = 1
  · rw [if_pos ei] at h
    have hg1 : g = 1 := by
      rcases Nat.lt_succ_iff_lt_or_eq.mp hg with q | q
      · have : g = 0 := by omega
        rw [this] at ei; simp at ei
      · exact q
    subst hg1
    by_cases ej : 1 * j % 2 = 1
    · rw [if_pos ej] at h
      have h1 := congrArg (fun s : Str => s.cps.toList) h
      simp only [sapp] at h1
      have h2 := List.append_inj_left h1 (by rw [one_len, one_len])
      have := one_inj (st := st) (a := a) (f := f) (i := i - 1) (j := j - 1) (by omega) (by omega) (seq h2)
      omega
    · rw [if_neg ej] at h
      have h1 := congrArg (fun s : Str => s.cps.toList.length) h
      simp only [sapp, List.length_append, one_len] at h1
      simp at h1
  · rw [if_neg ei] at h
    by_cases ej : g * j % 2 = 1
    · rw [if_pos ej] at h
      have h1 := congrArg (fun s : Str => s.cps.toList.length) h
      simp only [sapp, List.length_append, one_len] at h1
      simp at h1
    · rw [if_neg ej] at h
      exact one_inj hi hj h
def namesF (st : Str) (a f g n : Nat) : List Str := (List.range n).map (nameS st a f g)
theorem names_nd {st : Str} {a f g n : Nat} (hg : g < 2) (hn : n ≤ 26) : (namesF st a f g n).Nodup := by
  unfold namesF List.Nodup
  rw [List.pairwise_map]
  refine List.nodup_range.imp_of_mem fun {i j} hi hj hne z => hne ?_
  have h1 := List.mem_range.mp hi
  have h2 := List.mem_range.mp hj
  exact name_inj hg (by omega) (by omega) z
theorem name_low {st : Str} (h : Low st) (a f g k : Nat) : Low (nameS st a f g k) := by
  have h1 : ∀ k, Low (oneS st a f k) := fun k => ((h.cut _ _).app (Low.one (by omega))).app (h.cut _ _)
  unfold nameS
  by_cases e : g * k % 2 = 1
  · rw [if_pos e]; exact (h1 _).app (Low.one (by omega))
  · rw [if_neg e]; exact h1 k
theorem name_len (st : Str) (a f g k : Nat) : (nameS st a f g k).length ≤ st.length + 2 := by
  unfold nameS
  by_cases e : g * k % 2 = 1
  · rw [if_pos e, slen, sapp, List.length_append, one_len, slen]
    simp
  · rw [if_neg e, slen, one_len, slen]; omega
theorem names_snoc (st : Str) (a f g n : Nat) : namesF st a f g (n + 1) = namesF st a f g n ++ [nameS st a f g n] := by
  unfold namesF
  rw [List.range_succ, List.map_append]; rfl
theorem join_low {sep : Str} (hs : Low sep) : ∀ {ys : List Str}, (∀ y ∈ ys, Low y) → Low (Str.join sep ys)
  | [], _ => fun c hc => by
    have : c ∈ (#[] : Array Nat).toList := hc
    exact nomatch this
  | [x], h => h x List.mem_cons_self
  | x :: y :: r, h => ((h x List.mem_cons_self).app hs).app (join_low hs fun z hz => h z (List.mem_cons_of_mem _ hz))
theorem low_join {sep : Str} (hs : Low sep) {ys : List Str} (h : ∀ y ∈ ys, Low y) : Low (Txt.join sep ys) := by
  unfold Txt.join
  rw [StrLaws.glued_eq_join]
  exact join_low hs h
theorem join_len (sep : Str) (ys : List Str) : (Txt.join sep ys).length ≤ (ys.map (·.length)).sum + ys.length * sep.length := by
  unfold Txt.join
  rw [StrLaws.glued_eq_join]
  exact StrLaws.join_length_le sep ys
end K83
set_option maxRecDepth 100000
set_option maxHeartbeats 4000000
namespace K83
open PySem PySem.Spec PyProof.Rows L2
local macro_rules | `(tactic| walk_at "nz") => `(tactic| dsimp -proj only [L2.start, wipe, List.map_cons, List.map_nil, List.set, List.length, List.replicate, List.cons_append, List.nil_append, Nat.reduceSub, Nat.reduceAdd])
local macro_rules | `(tactic| walk_at "gg") => `(tactic| repeat (first | refine ⟨rfl, ?_⟩ | refine ⟨_, rfl, ?_⟩ | refine ⟨_, _, rfl, ?_⟩ | refine ⟨_, _, rfl, rfl, ?_⟩))
local macro_rules | `(tactic| walk_at "go") => `(tactic| ((try walk_at "nz"); walk_at "gg"; (try walk_at "nz")))
/-! ### frames -/
def Bx (H : Hp) (b : Addr) : Prop := ∃ x y z : Int, H b = some (.lst [.int x, .int y, .int z])
theorem Bx.ints {H : Hp} {b : Addr} (h : Bx H b) : IntsAt H b := let ⟨x, _, _, e⟩ := h; ⟨x, _, e⟩
theorem Bx.same {H H' : Hp} {b : Addr} (s : Same H H') (h : Bx H b) : Bx H' b := let ⟨x, y, z, e⟩ := h; ⟨x, y, z, s _ _ e⟩
theorem Bx.ne {H : Hp} {b p : Addr} (h : Bx H b) (n : H p = none) : p ≠ b := fun z => by
  obtain ⟨x, y, u, e⟩ := h
  rw [z, e] at n; cases n
theorem Bx.upd {H : Hp} {b p : Addr} {o : HO} (h : Bx H b) (n : p ≠ b) : Bx (upd H p o) b := let ⟨x, y, z, e⟩ := h; ⟨x, y, z, by rw [upd_ne n.symm]; exact e⟩
theorem Fb.free {H H' : Hp} {b p : Addr} (f : Fb b H H') (h : Bx H' b) (n : H' p = none) : H p = none := by
  cases e : H p with
  | none => rfl
  | some o =>
    have := f p o (h.ne n) e
    rw [n] at this; cases this
theorem Fb.mut {H H' : Hp} {b p : Addr} {o : HO} (f : Fb b H H') (n : H p = none) : Fb b H (L2.upd H' p o) := fun a u na e => by
  rw [upd_ne (ne_of_none e n)]
  exact f a u na e
theorem Fb.tS {H H' H2 : Hp} {b : Addr} (f : Fb b H H') (s : Same H' H2) : Fb b H H2 := fun a u na e => s _ _ (f a u na e)
theorem Fb.sT {H H' H2 : Hp} {b : Addr} (s : Same H H') (f : Fb b H' H2) : Fb b H H2 := fun a u na e => f a u na (s _ _ e)
mutual
theorem Dv.frm {E : Addr → Prop} {H H' : Hp} (f : ∀ a o, ¬ E a → H a = some o → H' a = some o) (hT : ∀ a xs, E a → H a ≠ some (.tup xs)) (hL : ∀ a xs, E a → H a = some (.lst xs) → ∃ (i : Int) (r : List V), xs = .int i :: r) : ∀ {d : PyData} {v : V}, clean d = true → Dv H d v → Dv H' d v
  | .none, _, _, h => h
  | .bool _, _, _, h => h
  | .int _, _, _, h => h
  | .str _, _, _, h => h
  | .list ds, v, c, h => by
    obtain ⟨a, xs, e, ha, hs⟩ := h
    rw [clean, Bool.and_eq_true] at c
    refine ⟨a, xs, e, f _ _ (fun z => ?_) ha, DvAll.frm f hT hL c.2 hs⟩
    obtain ⟨i, r, hi⟩ := hL a xs z ha
    subst hi
    cases ds with
    | nil => cases hs
    | cons d ds =>
      obtain ⟨x, r', e', h1, _⟩ := hs
      cases e'
      cases d with
      | int j => simp at c
      | none => cases h1
      | bool _ => cases h1
      | str _ => cases h1
      | list _ => obtain ⟨_, _, z, _⟩ := h1; cases z
      | tuple _ => obtain ⟨_, _, z, _⟩ := h1; cases z
      | dict _ => exact h1.elim
  | .tuple ds, v, c, h => by
    obtain ⟨a, xs, e, ha, hs⟩ := h
    rw [clean] at c
    exact ⟨a, xs, e, f _ _ (fun z => hT a xs z ha) ha, DvAll.frm f hT hL c hs⟩
  | .dict _, _, _, h => h
theorem DvAll.frm {E : Addr → Prop} {H H' : Hp} (f : ∀ a o, ¬ E a → H a = some o → H' a = some o) (hT : ∀ a xs, E a → H a ≠ some (.tup xs)) (hL : ∀ a xs, E a → H a = some (.lst xs) → ∃ (i : Int) (r : List V), xs = .int i :: r) : ∀ {ds : List PyData} {xs : List V}, cleanAll ds = true → DvAll H ds xs → DvAll H' ds xs
  | [], _, _, h => h
  | d :: ds, xs, c, h => by
    obtain ⟨x, r, e, h1, h2⟩ := h
    rw [cleanAll, Bool.and_eq_true] at c
    exact ⟨x, r, e, Dv.frm f hT hL c.1 h1, DvAll.frm f hT hL c.2 h2⟩
end
theorem clOI (o : Option Int) : clean (optI o) = true := by cases o <;> rfl
theorem clT (t : Trn) : clean (trnD t) = true := rfl
theorem clC (t : Col) : clean (colD t) = true := rfl
theorem clTm (t : Tm) : clean (tmD t) = true := rfl
theorem clW (t : Wsh) : clean (wshD t) = true := by
  show (true && (true && (clean (optI t.hrs) && true))) = true
  rw [clOI]; rfl
theorem clPal (p : Pal) : clean (palD p) = true := by
  show (cleanAll (p.cs.map colD) && (cleanAll (p.ws.map wshD) && true)) = true
  rw [cleanAll_map clC, cleanAll_map clW]; rfl
theorem clTrns (ts : List Trn) : clean (trnsD ts) = true := clean_list clT (fun _ _ z => by cases z) ts
theorem clPots (ps : List (List Trn)) : clean (potsD ps) = true := clean_list clTrns (fun _ _ z => by cases z) ps
theorem clTms (ts : List Tm) : clean (tmsD ts) = true := clean_list clTm (fun _ _ z => by cases z) ts
/-! ### the draws -/
theorem b01 (b : Bool) : -(2 ^ 64) < (if b = true then (1 : Int) else 0) ∧ (if b = true then (1 : Int) else 0) < 2 ^ 64 := by cases b <;> decide
theorem join2 {H : Hp} {L : Nat} {G : Addr → Hp → Prop} {X : Prop} (use : (∀ lc H1 (ms : List Int), H lc = none → Same H H1 → H1 lc = some (.lst (ms.map V.int)) → ms.length = L → G lc H1) → X)
    (prf : ∀ lc H1 (ms : List Int), H lc = none → Same H H1 → H1 lc = some (.lst (ms.map V.int)) → ms.length = L → G lc H1) : X := use prf
def spBox : Sp := fun vs H Q _ => ∃ (a : Addr) (ns : List Int) (k : Nat), vs = [.ref a, .int ((k : Nat) : Int)] ∧ H a = some (.lst (ns.map V.int)) ∧ k < ns.length ∧ ∀ b H', H b = none → Same H H' → Bx H' b → Q (.ref b) H'
def spLTake : Sp := fun vs H Q _ => ∃ b m, vs = [.ref b, .int m] ∧ Bx H b ∧ 1 ≤ m ∧ m ≤ 100000 ∧ ∀ r H', 0 ≤ r → r < m → Fb b H H' → Bx H' b → Q (.int r) H'
def spCells (K : PySem.W.Frag) : Sp := fun vs H Q _ => ∃ (a : Addr) (ns : List Int), vs = [.ref a, .int 2] ∧ SqL K H a (ns.map V.int) ∧ ns.length ≤ 63 ∧ ∀ p (ms : List Int) H', H p = none → Same H H' → H' p = some (.lst (ms.map V.int)) → 1 ≤ ms.length → ms.length ≤ 2 → Q (.ref p) H'
section
variable {P : Program} {w : World} {K : PySem.W.Frag} {mg : Str → Option Value} {base : Heap} {A : Nat → Addr} {D : Nat → FuncData} {C : Addr} {tk : Tok}
theorem sc__law_box : FnScope ["_law_cells_here", "_law_k", "_law_cell"] ["_law_cells_here", "_law_k"] (defScope (topS 32)) := ⟨rfl, rfl, rfl, by decide +kernel, rfl, by decide +kernel, by decide +kernel⟩
theorem ok_box (T : Tx K mg A D C tk) : FnOk P w K mg base CX0 1 (A 32) (D 32) ["_law_cells_here", "_law_k"] spBox := by
  refine T.d__law_box.fn.ok sc__law_box (fun vs H Q E h => ?_) (fun cdv A0 outer s H vs Q E hr h => ?_)
  · obtain ⟨a, ns, k, rfl, _⟩ := h
    rfl
  · obtain ⟨a, ns, kx, rfl, ha, hk, k⟩ := h
    have hx : (ns.map V.int)[kx]? = some (.int ns[kx]) := by rw [List.getElem?_map, List.getElem?_eq_getElem hk]; rfl
    generalize ns[kx] = c at hx
    refine ⟨_, (pss_cons (ps_set (i := 2) sc__law_box.nd rfl (Or.inl rfl) (pe_ix (ixL K) (pv 0) (pv 1) (fun _ _ => rfl)))
 (pss_one (ps_ret (pe_lst (pa_cons (pe_op op_mul (pe_callB call_abs (by rfl) T.abs (by decide +kernel) (pa_cons (pv 2) pa_nil)) (pe_callTy call_int1 (by rfl) T.int (by decide +kernel) (pa_cons (pe_cmpR op_ge (pe_callB call_abs (by rfl) T.abs (by decide +kernel) (pa_cons (pv 2) pa_nil)) (pe_op op_pow pe_int pe_int) (nomark _)) pa_nil))) (pa_cons (pe_op op_add (pe_op op_add (pe_op op_modN (pv 2) pe_int) (pe_op op_mul pe_int (pv 1))) pe_int) (pa_cons pe_int pa_nil))))))), ?_⟩
    refine ⟨_, rfl, _, rfl, _, _, _, _, rfl, rfl, SqL.of ha, atI_nat hx, ?_⟩
    walk_at "go"
    refine ⟨⟨by decide, by decide, by decide⟩, ?_⟩
    walk_at "go"
    refine .inr ⟨_, rfl, _, _, rfl, rfl, .inr (b01 _), ?_⟩
    walk_at "go"
    refine ⟨by decide, ?_⟩
    walk_at "go"
    refine ⟨.inl (by decide), ?_⟩
    walk_at "go"
    refine ⟨by show 3 ≤ sizeLine; decide, fun p hp => ?_⟩
    exact k p _ hp (Same.new hp) ⟨_, _, _, upd_same⟩
theorem sc__law_take : FnScope ["_law_box_here", "_law_many", "_law_found", "_law_mixed"] ["_law_box_here", "_law_many"] (defScope (topS 33)) := ⟨rfl, rfl, rfl, by decide +kernel, rfl, by decide +kernel, by decide +kernel⟩
theorem ok_ltake (T : Tx K mg A D C tk) : FnOk P w K mg base CX0 1 (A 33) (D 33) ["_law_box_here", "_law_many"] spLTake := by
  refine T.d__law_take.fn.ok sc__law_take (fun vs H Q E h => ?_) (fun cdv A0 outer s H vs Q E hr h => ?_)
  · obtain ⟨b, m, rfl, _⟩ := h
    rfl
  · obtain ⟨b, m, rfl, ⟨x, y, z, hb⟩, h1, hm, k⟩ := h
    have g0 : ([V.int x, .int y, .int z])[0]? = some (V.int x) := rfl
    have F : ∀ x' y' z' : Int, Fb b H (upd H b (.lst [.int x', .int y', .int z'])) ∧ Bx (upd H b (.lst [.int x', .int y', .int z'])) b := fun x' y' z' => ⟨Fb.upd _, x', y', z', upd_same⟩
    refine ⟨_, (pss_cons (ps_if (pt_cmpR op_gt (pe_ix (ixL K) (pv 0) pe_int (fun _ _ => rfl)) pe_int (nomark _)) (pss_cons (ps_set (i := 2) sc__law_take.nd rfl (Or.inl rfl) (pe_op op_modN (pe_ix (ixL K) (pv 0) pe_int (fun _ _ => rfl)) (pv 1)))
 (pss_cons (ps_asg (pe_op op_fdivN (pe_ix (ixL K) (pv 0) pe_int (fun _ _ => rfl)) (pv 1)) (pg_sub (pv 0) pe_int set_list))
 (pss_one (ps_ret (pv 2))))) pss_nil)
 (pss_cons (ps_asg (pe_op op_add (pe_ix (ixL K) (pv 0) pe_int (fun _ _ => rfl)) pe_int) (pg_sub (pv 0) pe_int set_list))
 (pss_cons (ps_set (i := 3) sc__law_take.nd rfl (Or.inl rfl) (pe_op op_modN (pe_op op_add (pe_ix (ixL K) (pv 0) pe_int (fun _ _ => rfl)) (pe_op op_mul pe_int (pe_ix (ixL K) (pv 0) pe_int (fun _ _ => rfl)))) pe_int))
 (pss_cons (ps_set (i := 3) sc__law_take.nd rfl (Or.inl rfl) (pe_op op_modN (pe_op op_add (pe_op op_add (pe_op op_mul (pv 3) (pv 3)) (pe_op op_mul pe_int (pe_ix (ixL K) (pv 0) pe_int (fun _ _ => rfl)))) pe_int) pe_int))
 (pss_cons (ps_set (i := 3) sc__law_take.nd rfl (Or.inl rfl) (pe_op op_modN (pe_op op_add (pe_op op_mul (pv 3) (pe_op op_add (pe_op op_fdivN (pv 3) pe_int) pe_int)) (pe_ix (ixL K) (pv 0) pe_int (fun _ _ => rfl))) pe_int))
 (pss_one (ps_ret (pe_op op_modN (pe_op op_fdivN (pv 3) pe_int) (pv 1))))))))), ?_⟩
    walk_at "go"
    refine ⟨_, _, _, _, rfl, rfl, SqL.of hb, atI_nat (j := 0) g0, ?_⟩
    walk_at "go"
    refine ite2 (fun q => ?_) (fun q => ?_)
    · walk_at "go"
      refine ⟨_, _, _, _, rfl, rfl, SqL.of hb, atI_nat (j := 0) g0, ?_⟩
      walk_at "go"
      refine ⟨by omega, ?_⟩
      walk_at "go"
      refine ⟨_, _, _, _, rfl, rfl, SqL.of hb, atI_nat (j := 0) g0, ?_⟩
      walk_at "go"
      refine ⟨⟨by omega, by omega⟩, ?_⟩
      walk_at "go"
      refine ⟨b, _, _, 0, rfl, rfl, hb, rfl, ?_⟩
      walk_at "go"
      exact k _ _ (Int.fmod_nonneg_of_pos _ (by omega)) (Int.fmod_lt_of_pos _ (by omega)) (F _ _ _).1 (F _ _ _).2
    · walk_at "go"
      refine ⟨_, _, _, _, rfl, rfl, SqL.of hb, atI_nat (j := 2) rfl, ?_⟩
      walk_at "go"
      refine ⟨b, _, _, 2, rfl, rfl, hb, rfl, ?_⟩
      obtain ⟨f1, bx1⟩ := F x y (z + 1)
      have hb1 : upd H b (.lst [.int x, .int y, .int (z + 1)]) b = some (.lst [.int x, .int y, .int (z + 1)]) := upd_same
      show (tSeq _ _) _ _ (upd H b (.lst [.int x, .int y, .int (z + 1)]))
      generalize upd H b (.lst [.int x, .int y, .int (z + 1)]) = H1 at f1 bx1 hb1 ⊢
      generalize z + 1 = z1 at hb1
      walk_at "go"
      refine ⟨_, _, _, _, rfl, rfl, SqL.of hb1, atI_nat (j := 1) rfl, ?_⟩
      walk_at "go"
      refine ⟨_, _, _, _, rfl, rfl, SqL.of hb1, atI_nat (j := 2) rfl, ?_⟩
      walk_at "go"
      refine ⟨.inl (by decide), ?_⟩
      walk_at "go"
      refine ⟨by decide, ?_⟩
      walk_at "go"
      have a1 := Int.fmod_nonneg_of_pos (y + 1442695040888963407 * z1) (b := 2305843009213693951) (by decide)
      have a2 := Int.fmod_lt_of_pos (y + 1442695040888963407 * z1) (b := 2305843009213693951) (by decide)
      generalize (y + 1442695040888963407 * z1).fmod 2305843009213693951 = m1 at a1 a2 ⊢
      refine ⟨.inl ⟨by omega, by omega⟩, ?_⟩
      walk_at "go"
      refine ⟨_, _, _, _, rfl, rfl, SqL.of hb1, atI_nat (j := 2) rfl, ?_⟩
      walk_at "go"
      refine ⟨.inl (by decide), ?_⟩
      walk_at "go"
      refine ⟨by decide, ?_⟩
      walk_at "go"
      have c1 := Int.fmod_nonneg_of_pos (m1 * m1 + 39373 * z1 + 7) (b := 2305843009213693921) (by decide)
      have c2 := Int.fmod_lt_of_pos (m1 * m1 + 39373 * z1 + 7) (b := 2305843009213693921) (by decide)
      generalize (m1 * m1 + 39373 * z1 + 7).fmod 2305843009213693921 = m2 at c1 c2 ⊢
      refine ⟨⟨by decide, by decide⟩, ?_⟩
      walk_at "go"
      refine ⟨.inl ⟨by omega, by omega⟩, ?_⟩
      walk_at "go"
      refine ⟨_, _, _, _, rfl, rfl, SqL.of hb1, atI_nat (j := 2) rfl, ?_⟩
      walk_at "go"
      refine ⟨by decide, ?_⟩
      walk_at "go"
      refine ⟨⟨by decide, by decide⟩, ?_⟩
      walk_at "go"
      refine ⟨by omega, ?_⟩
      exact k _ _ (Int.fmod_nonneg_of_pos _ (by omega)) (Int.fmod_lt_of_pos _ (by omega)) f1 bx1
theorem sc__law_cells : FnScope ["_law_script", "_law_most", "_law_cells_here", "_law_k", "_law_cell"] ["_law_script", "_law_most"] (defScope (topS 34)) := ⟨rfl, rfl, rfl, by decide +kernel, rfl, by decide +kernel, by decide +kernel⟩
theorem ok_cells (T : Tx K mg A D C tk) : FnOk P w K mg base CX0 1 (A 34) (D 34) ["_law_script", "_law_most"] (spCells K) := by
  refine T.d__law_cells.fn.ok sc__law_cells (fun vs H Q E h => ?_) (fun cdv A0 outer s H vs Q E hr h => ?_)
  · obtain ⟨a, ns, rfl, _⟩ := h
    rfl
  · obtain ⟨a, ns, rfl, ha, hl, k⟩ := h
    refine ⟨_, (pss_cons (ps_set (i := 2) sc__law_cells.nd rfl (Or.inl rfl) (pe_orT (pe_callTy (listOf K) (by rfl) T.list (by decide +kernel) (pa_cons (pe_slice (slL K) (pv 0) po_none (po_some (pv 1))) pa_nil)) (pe_one (pe_lst (pa_cons pe_int pa_nil)))))
 (pss_cons (ps_for PassesOwn.never rfl (piE K (by rfl) T.enumerate (pa_cons (pe_slice (slL K) (pv 0) (po_some (pv 1)) (po_some pe_int)) pa_nil)) (pgT K 2 rfl (pgs_cons (pg_name (i := 3) sc__law_cells.nd rfl (Or.inl rfl)) (pgs_cons (pg_name (i := 4) sc__law_cells.nd rfl (Or.inl rfl)) pgs_nil))) (pss_one (ps_asg (pe_op op_add (pe_ix (ixL K) (pv 2) (pe_op op_modN (pv 3) (pv 1)) (fun _ _ => rfl)) (pe_op op_mul (pv 4) (pe_op op_add (pv 3) pe_int))) (pg_sub (pv 2) (pe_op op_modN (pv 3) (pv 1)) set_list))))
 (pss_one (ps_ret (pv 2))))), ?_⟩
    walk_at "go"
    refine' join2 (H := H) (L := if ns = [] then 1 else min 2 ns.length) (fun fin => ?_) ?_
    rotate_left
    · refine ⟨_, _, rfl, ha, fun q hq => ?_⟩
      rw [show cutV (ns.map V.int) none (some 2) = (ns.take 2).map V.int by rw [List.map_take]; exact cutV_to (ns.map V.int) 2]
      walk_at "go"
      refine ⟨_, _, rfl, .inl (SqL.of upd_same), fun lc hlc => ?_⟩
      have s1 : Same H (upd (upd H q (.lst ((ns.take 2).map V.int))) lc (.lst ((ns.take 2).map V.int))) := Same.new' (Same.new hq) hlc
      have hl1 : upd (upd H q (.lst ((ns.take 2).map V.int))) lc (.lst ((ns.take 2).map V.int)) lc = some (.lst ((ns.take 2).map V.int)) := upd_same
      have hlcH : H lc = none := (Same.new hq).free hlc
      generalize upd (upd H q (.lst ((ns.take 2).map V.int))) lc (.lst ((ns.take 2).map V.int)) = H1 at s1 hl1 ⊢
      refine ⟨_, .inl ⟨_, SqL.of hl1, rfl⟩, ?_⟩
      by_cases hne : ns = []
      · have e : (!((ns.take 2).map V.int).isEmpty) = false := by rw [hne]; rfl
        rw [e]
        refine iteF ?_
        walk_at "go"
        refine ⟨by show 1 ≤ sizeLine; decide, fun l2 hl2 => ?_⟩
        have s2 : Same H (upd H1 l2 (.lst [V.int 0])) := Same.new' s1 hl2
        have hl3 : upd H1 l2 (.lst [V.int 0]) l2 = some (.lst ([(0 : Int)].map V.int)) := upd_same
        generalize upd H1 l2 (.lst [V.int 0]) = H2 at s2 hl3 ⊢
        exact fin l2 H2 [0] (s1.free hl2) s2 hl3 (by rw [if_pos hne]; rfl)
      · have e : (!((ns.take 2).map V.int).isEmpty) = true := by
          cases ns with
          | nil => exact absurd rfl hne
          | cons n ns => rfl
        rw [e]
        refine iteT ?_
        exact fin lc H1 _ hlcH s1 hl1 (by rw [List.length_take, if_neg hne])
    · skip
      intro lc H1 ms hlc s1 hms hL
      walk_at "go"
      refine ⟨_, _, rfl, Same.seq s1 ha, fun l2 hl2 => ?_⟩
      rw [show cutV (ns.map V.int) (some 2) (some 63) = ((ns.drop 2).take 61).map V.int by rw [List.map_take, List.map_drop]; exact cutV_mid (ns.map V.int) 2 63 (by decide)]
      have s2 : Same H1 (upd H1 l2 (.lst (((ns.drop 2).take 61).map V.int))) := Same.new hl2
      have hl3 : upd H1 l2 (.lst (((ns.drop 2).take 61).map V.int)) l2 = some (.lst (((ns.drop 2).take 61).map V.int)) := upd_same
      have hms2 := s2 _ _ hms
      have nl : l2 ≠ lc := fun z => by rw [z, hms] at hl2; cases hl2
      generalize upd H1 l2 (.lst (((ns.drop 2).take 61).map V.int)) = H2 at s2 hl3 hms2 ⊢
      generalize hrest : (ns.drop 2).take 61 = rest at hl3
      have hrl : 0 < rest.length → 2 < ns.length := fun z => by
        rw [← hrest, List.length_take, List.length_drop] at z
        omega
      have hrl2 : rest.length ≤ 63 := by
        rw [← hrest, List.length_take]; omega
      let Pv : Nat → L2.St → Hp → Prop := fun i σ H5 => ∃ (z1 z2 : Option V) (ms : List Int), σ = [some (.ref a), some (.int 2), some (.ref lc), z1, z2] ∧ Same H H5 ∧ H5 l2 = some (.lst (rest.map V.int)) ∧ H5 lc = some (.lst (ms.map V.int)) ∧ ms.length = if ns = [] then 1 else min 2 ns.length
      refine ⟨l2, _, rfl, SqL.of hl3, forG rest.length Pv ?_ ?_ ?_ ?_⟩
      · exact ⟨_, _, ms, rfl, s1.trans s2, hl3, hms2, hL⟩
      · rintro i σ H5 hi ⟨z1, z2, ms5, rfl, s5, h5, hm5, hL5⟩
        exact ⟨_, V.int rest[i], SqL.of h5, by rw [List.getElem?_map, List.getElem?_eq_getElem hi]; rfl⟩
      · rintro i x σ H5 H6 hi ⟨z1, z2, ms5, rfl, s5, h5, hm5, hL5⟩ y
        obtain ⟨T0, z, rfl, hT, rfl, hz⟩ := y
        have e1 := hz _ (SqL.of h5)
        rw [List.getElem?_map, List.getElem?_eq_getElem hi] at e1
        cases e1
        have s6 : Same H5 (upd H5 T0 (.tup [.int ((i : Nat) : Int), .int rest[i]])) := Same.new hT
        have hm6 := s6 _ _ hm5
        have hlen2 : ms5.length = 2 := by
          have := hrl (by omega)
          rw [hL5, if_neg (by intro z; rw [z] at this; simp at this)]
          omega
        obtain ⟨j, hj, ej⟩ : ∃ j : Nat, j < 2 ∧ ((i : Nat) : Int).fmod 2 = (j : Int) := ⟨i % 2, Nat.mod_lt _ (by decide), by rw [Int.fmod_eq_emod_of_nonneg _ (by decide)]; omega⟩
        have hjl : (ms5.map V.int)[j]? = some (V.int ms5[j]) := by rw [List.getElem?_map, List.getElem?_eq_getElem (by omega)]; rfl
        refine ⟨_, _, rfl, SqT.of upd_same, rfl, ?_⟩
        walk_at "go"
        refine ⟨by decide, ?_⟩
        rw [ej]
        walk_at "go"
        refine ⟨_, _, _, _, rfl, rfl, SqL.of hm6, atI_nat hjl, ?_⟩
        walk_at "go"
        refine ⟨.inr ⟨by omega, by omega⟩, ?_⟩
        walk_at "go"
        refine ⟨by decide, ?_⟩
        rw [ej]
        refine ⟨lc, _, _, j, rfl, rfl, hm6, by rw [List.length_map]; unfold ixN; rw [if_pos (by omega), if_pos (by omega)]; rfl, ?_⟩
        have ncl2 : l2 ≠ lc := nl
        refine ⟨_, _, ms5.set j _, rfl, Same.mut (s5.trans s6) hlc, by rw [upd_ne ncl2]; exact s6 _ _ h5, by rw [upd_same, ← List.map_set], by rw [List.length_set]; exact hL5⟩
      · rintro σ H5 ⟨z1, z2, ms5, rfl, s5, h5, hm5, hL5⟩
        refine ⟨⟨_, SqL.of h5, by rw [List.length_map]; exact Nat.le_refl _⟩, ?_⟩
        walk_at "go"
        refine k lc ms5 H5 hlc s5 hm5 ?_ ?_
        · rw [hL5]
          by_cases z : ns = []
          · rw [if_pos z]; exact Nat.le_refl _
          · rw [if_neg z]
            have := List.length_pos_iff.mpr z
            omega
        · rw [hL5]
          by_cases z : ns = []
          · rw [if_pos z]; decide
          · rw [if_neg z]; exact Nat.min_le_left _ _
end
end K83
set_option maxRecDepth 100000
set_option maxHeartbeats 4000000
namespace K83
open PySem PySem.Spec PyProof.Rows L2
local macro_rules | `(tactic| walk_at "nz") => `(tactic| dsimp -proj only [L2.start, wipe, List.map_cons, List.map_nil, List.set, List.length, List.replicate, List.cons_append, List.nil_append, Nat.reduceSub, Nat.reduceAdd])
local macro_rules | `(tactic| walk_at "gg") => `(tactic| repeat (first | refine ⟨rfl, ?_⟩ | refine ⟨_, rfl, ?_⟩ | refine ⟨_, _, rfl, ?_⟩ | refine ⟨_, _, rfl, rfl, ?_⟩))
local macro_rules | `(tactic| walk_at "go") => `(tactic| ((try walk_at "nz"); walk_at "gg"; (try walk_at "nz")))
/-- a comprehension in which the box changes -/
theorem lcB {J : It} {g : TG} {tt : TT} {te : TE} {vs : List Nat} {σ : L2.St} {H : Hp} {Q : Addr → Hp → Prop} (n : Nat) (Inv : Addr → Nat → List V → Hp → Prop)
    (h0 : ∀ D, H D = none → Inv D 0 [] (upd H D (.lst []))) (hl : ∀ D i acc H1, i < n → Inv D i acc H1 → acc.length < sizeLine)
    (go : ∀ D i acc H1, H D = none → i < n → Inv D i acc H1 → J.go i H1)
    (turn : ∀ D i acc x H1 H2 (N : V → Hp → Prop) (M : Hp → Prop), H D = none → i < n → Inv D i acc H1 → J.yld i H1 x H2 → (∀ y H5, H5 D = some (.lst acc) → Inv D (i + 1) (acc ++ [y]) (upd H5 D (.lst (acc ++ [y]))) → N y H5) →
      g x (wipe σ vs) H2 fun σ2 H3 => wipe σ2 vs = wipe σ vs ∧ tt σ2 H3 fun b H4 => if b = true then te σ2 H4 N else M H4)
    (stop : ∀ D acc H1, H D = none → Inv D n acc H1 → J.stop n H1 ∧ Q D H1) : LcGoal J g tt te vs σ H Q := by
  intro D hD
  refine ⟨fun i m H1 => m = n - i ∧ i ≤ n ∧ ∃ acc, Inv D i acc H1, ⟨n, by simp, Nat.zero_le _, [], h0 D hD⟩, ?_⟩
  rintro i m H1 ⟨rfl, hi, acc, hI⟩
  by_cases hlt : i < n
  · refine .inr ⟨go D i acc H1 hD hlt hI, fun H' => i + 1 ≤ n ∧ ∃ acc, Inv D (i + 1) acc H', fun H' p => ⟨n - (i + 1), by omega, rfl, p⟩, fun x H2 y => ?_⟩
    exact turn D i acc x H1 H2 _ _ hD hlt hI y fun y H5 e I => ⟨acc, e, hl D i acc H1 hlt hI, hlt, _, I⟩
  · have e : i = n := by omega
    subst e
    exact .inl (stop D acc H1 hD hI)
theorem sum_c1 {α : Type} : ∀ l : List α, (l.map fun _ => 1).sum = l.length
  | [] => rfl
  | a :: l => by rw [List.map_cons, List.sum_cons, sum_c1 l, List.length_cons, Nat.add_comm]
def spNames : Sp := fun vs H Q _ => ∃ (b : Addr) (n : Nat), vs = [.ref b, .int (n : Int)] ∧ Bx H b ∧ n ≤ 26 ∧ ∀ p (ns : List Str) H', H p = none → Fb b H H' → Bx H' b → H' p = some (.lst (ns.map V.str)) → ns.length = n → ns.Nodup → (∀ x ∈ ns, sOk x) → Q (.ref p) H'
section
variable {P : Program} {w : World} {K : PySem.W.Frag} {mg : Str → Option Value} {base : Heap} {A : Nat → Addr} {D : Nat → FuncData} {C : Addr} {tk : Tok}
theorem sc__law_names : FnScope ["_law_box_here", "_law_many", "_law_letters", "_law_found", "_law_k", "_law_stem", "_law_at", "_law_first", "_law_longer", "_law_one"] ["_law_box_here", "_law_many"] (defScope (topS 35)) := ⟨rfl, rfl, rfl, by decide +kernel, rfl, by decide +kernel, by decide +kernel⟩
theorem ok_names (T : Tx K mg A D C tk) : FnOk P w K mg base CX0 2 (A 35) (D 35) ["_law_box_here", "_law_many"] spNames := by
  have G__law_take : FnOk P w K mg base CX0 1 (A 33) (D 33) _ _ := ok_ltake T
  refine T.d__law_names.fn.ok sc__law_names (fun vs H Q E h => ?_) (fun cdv A0 outer s H vs Q E hr h => ?_)
  · obtain ⟨b, n, rfl, _⟩ := h
    rfl
  · obtain ⟨b, n, rfl, hb, hn, k⟩ := h
    refine ⟨_, (pss_cons (ps_asg (pe_tup (pa_cons pe_str (pa_cons (pe_lst pa_nil) pa_nil))) (pgT K 2 rfl (pgs_cons (pg_name (i := 2) sc__law_names.nd rfl (Or.inr rfl)) (pgs_cons (pg_name (i := 3) sc__law_names.nd rfl (Or.inl rfl)) pgs_nil))))
 (pss_cons (ps_set (i := 5) sc__law_names.nd rfl (Or.inl rfl) (pe_join pe_str (pe_lc (own := [("_law_k", 4)]) rfl sc__law_names.nd (pi_range1 (by rfl) T.range (pa_cons (pcall T.d__law_take G__law_take (hr.mono (by decide)) rfl (pa_cons (pv 0) (pa_cons pe_int pa_nil))) pa_nil)) (blkOk_by (N := ["_law_box_here", "_law_many", "_law_letters", "_law_found", "_law_k", "_law_stem", "_law_at", "_law_first", "_law_longer", "_law_one"]) (sc := defScope (topS 35)) (by decide +kernel)) (fun _ _ _ _ _ => (pg_name (i := 4) sc__law_names.nd rfl (Or.inl rfl))) (fun _ _ _ _ _ => pts_nil) (fun _ _ _ _ _ => (pe_ix ix_str (pv 2) (pcall T.d__law_take G__law_take (hr.mono (by decide)) rfl (pa_cons (pv 0) (pa_cons pe_int pa_nil))) (fun _ _ => rfl))))))
 (pss_cons (ps_par3 (i := 6) (j := 7) (l := 8) rfl sc__law_names.nd rfl rfl rfl (by decide) (by decide) (by decide) rfl rfl rfl (pa_cons (pcall T.d__law_take G__law_take (hr.mono (by decide)) rfl (pa_cons (pv 0) (pa_cons (pe_op op_add (pe_callB call_len_str (by rfl) T.len (by decide +kernel) (pa_cons (pv 5) pa_nil)) pe_int) pa_nil))) (pa_cons (pcall T.d__law_take G__law_take (hr.mono (by decide)) rfl (pa_cons (pv 0) (pa_cons pe_int pa_nil))) (pa_cons (pcall T.d__law_take G__law_take (hr.mono (by decide)) rfl (pa_cons (pv 0) (pa_cons pe_int pa_nil))) pa_nil))) (by rfl))
 (pss_cons (ps_for PassesOwn.never rfl (pi_range1 (by rfl) T.range (pa_cons (pv 1) pa_nil)) (pg_name (i := 4) sc__law_names.nd rfl (Or.inl rfl)) (pss_cons (ps_set (i := 9) sc__law_names.nd rfl (Or.inl rfl) (pe_op op_add_str (pe_op op_add_str (pe_slice sl_str (pv 5) po_none (po_some (pv 6))) (pe_ix ix_str (pv 2) (pe_op op_modN (pe_op op_add (pv 7) (pe_op op_mul pe_int (pv 4))) pe_int) (fun _ _ => rfl))) (pe_slice sl_str (pv 5) (po_some (pv 6)) po_none)))
 (pss_one (ps_expr (pe_bm PySem.F.plainAttrs_list PySem.F.slot_list_append PySem.F.type_list_append mt_append (pv 3) (pa_cons (pe_ifExp (pt_cmpR op_eq (pe_op op_modN (pe_op op_mul (pv 8) (pv 4)) pe_int) pe_int (nomark _)) (pe_op op_add_str (pe_ix (ixL K) (pv 3) (pe_un un_neg pe_int) (fun _ _ => rfl)) (pe_ix ix_str (pv 2) (pe_op op_modN (pe_op op_add (pv 7) (pv 4)) pe_int) (fun _ _ => rfl))) (pv 9)) pa_nil))))))
 (pss_one (ps_ret (pv 3))))))), ?_⟩
    walk_at "go"
    refine ⟨Nat.zero_le _, fun lf hlf => ?_⟩
    walk_at "go"
    refine ⟨by show 2 ≤ sizeLine; decide, fun tt htt => ?_⟩
    have ntl : lf ≠ tt := fun z => by rw [← z, upd_same] at htt; cases htt
    have s0 : Same H (upd (upd H lf (.lst [])) tt (.tup [.str (Str.ofString "abcdefghijklmnopqrstuvwxyz"), .ref lf])) := Same.new' (Same.new hlf) htt
    have hlf0 : upd (upd H lf (.lst [])) tt (.tup [.str (Str.ofString "abcdefghijklmnopqrstuvwxyz"), .ref lf]) lf = some (.lst []) := by rw [upd_ne ntl, upd_same]
    refine ⟨tt, _, rfl, SqT.of upd_same, rfl, ?_⟩
    show gCons _ _ _ _ (upd (upd H lf (.lst [])) tt (.tup [.str (Str.ofString "abcdefghijklmnopqrstuvwxyz"), .ref lf])) _
    generalize upd (upd H lf (.lst [])) tt (.tup [.str (Str.ofString "abcdefghijklmnopqrstuvwxyz"), .ref lf]) = H0 at s0 hlf0 ⊢
    have hb0 := hb.same s0
    walk_at "go"
    refine ⟨⟨_, rfl⟩, ?_⟩
    walk_at "go"
    refine ⟨hb0, by decide, by decide, fun r H1 r0 r1 f1 b1 => ?_⟩
    obtain ⟨m, rfl⟩ : ∃ m : Nat, r = (m : Int) := ⟨r.toNat, by omega⟩
    have hlb : lf ≠ b := hb.ne hlf
    have hlf1 : H1 lf = some (.lst []) := f1 _ _ hlb hlf0
    have fH1 : Fb b H H1 := Fb.sT s0 f1
    walk_at "go"
    refine ⟨by omega, by omega, ?_⟩
    rw [Int.toNat_natCast]
    refine lcB m (fun D i acc H2 => acc.length = i ∧ Fb b H H2 ∧ Bx H2 b ∧ H2 lf = some (.lst []) ∧ H2 D = some (.lst acc) ∧ ∃ ys : List Str, acc = ys.map V.str ∧ ∀ y ∈ ys, Low y ∧ y.length = 1) ?_ ?_ ?_ ?_ ?_
    · intro D hD
      exact ⟨rfl, fH1.mut (fH1.free b1 hD), b1.upd (b1.ne hD), by rw [upd_ne (ne_of_none hlf1 hD)]; exact hlf1, upd_same, [], rfl, fun y hy => nomatch hy⟩
    · rintro D i acc H2 hi ⟨h1, _⟩
      rw [sizeLine_eq]; omega
    · rintro D i acc H2 _ hi _
      exact hi
    · rintro D i acc x H2 H3 N M hD hi ⟨e1, f2, b2, l2, d2, ys, rfl, hys⟩ hy hN
      obtain ⟨rfl, rfl⟩ := hy
      walk_at "go"
      refine ⟨b2, by decide, by decide, fun r2 H4 q0 q1 f4 b4 => ?_⟩
      walk_at "go"
      refine ⟨ltrs, r2, _, rfl, rfl, ltrs_len, ltrs_at q0 q1, ?_⟩
      have nD : D ≠ b := b1.ne hD
      have d4 := f4 _ _ nD d2
      have l4 := f4 _ _ hlb l2
      have nDl : lf ≠ D := ne_of_none hlf1 hD
      refine hN _ _ d4 ⟨by rw [List.length_append, e1]; rfl, (f2.trans f4).mut (fH1.free b1 hD), b4.upd nD, by rw [upd_ne nDl]; exact l4, upd_same, ys ++ [⟨#[97 + r2.toNat]⟩], by rw [List.map_append]; rfl, fun y hy => ?_⟩
      rcases List.mem_append.mp hy with q | q
      · exact hys y q
      · rw [List.mem_singleton.mp q]
        exact ⟨Low.one (by omega), rfl⟩
    rintro D acc H2 hD ⟨e1, f2, b2, l2, d2, ys, rfl, hys⟩
    refine ⟨Nat.le_refl _, ?_⟩
    rw [List.length_map] at e1
    have hsum : (ys.map (·.length)).sum = ys.length := by
      have : ys.map (·.length) = ys.map fun _ => 1 := List.map_congr_left fun y hy => (hys y hy).2
      rw [this, sum_c1]
    have hst : Low (Txt.join (Str.ofString "") ys) := low_join (fun c hc => by
      have : c ∈ (#[] : Array Nat).toList := hc
      exact nomatch this) fun y hy => (hys y hy).1
    have hsl : (Txt.join (Str.ofString "") ys).length ≤ 6 := by
      have h1 := join_len (Str.ofString "") ys
      have h2 : (Str.ofString "").length = 0 := rfl
      rw [h2, hsum] at h1
      omega
    refine ⟨_, D, ys, rfl, rfl, .inl (SqL.of d2), ?_, ?_⟩
    · have h2 : (Str.ofString "").length = 0 := rfl
      rw [h2, hsum]; omega
    generalize Txt.join (Str.ofString "") ys = st at hst hsl ⊢
    walk_at "go"
    refine ⟨by rw [sizeLine_eq]; omega, ?_⟩
    walk_at "go"
    refine ⟨b2, by omega, by omega, fun ra H3 a0 a1 f3 b3 => ?_⟩
    walk_at "go"
    refine ⟨b3, by decide, by decide, fun rf H4 c0 c1 f4 b4 => ?_⟩
    walk_at "go"
    refine ⟨b4, by decide, by decide, fun rg H5 g0 g1 f5 b5 => ?_⟩
    obtain ⟨na, rfl⟩ : ∃ m : Nat, ra = (m : Int) := ⟨ra.toNat, by omega⟩
    obtain ⟨nf, rfl⟩ : ∃ m : Nat, rf = (m : Int) := ⟨rf.toNat, by omega⟩
    obtain ⟨ng, rfl⟩ : ∃ m : Nat, rg = (m : Int) := ⟨rg.toNat, by omega⟩
    have l5 : H5 lf = some (.lst []) := f5 _ _ hlb (f4 _ _ hlb (f3 _ _ hlb l2))
    have fH5 : Fb b H H5 := f2.trans (f3.trans (f4.trans f5))
    refine ⟨_, _, _, rfl, ?_⟩
    walk_at "go"
    let Pv : Nat → L2.St → Hp → Prop := fun i σ H6 => ∃ (z1 z2 : Option V), σ = [some (.ref b), some (.int (n : Int)), some (.str (Str.ofString "abcdefghijklmnopqrstuvwxyz")), some (.ref lf), z1, some (.str st), some (.int (na : Int)), some (.int (nf : Int)), some (.int (ng : Int)), z2] ∧
      Fb b H H6 ∧ Bx H6 b ∧ H6 lf = some (.lst ((namesF st na nf ng i).map V.str))
    refine ⟨by omega, by omega, ?_⟩
    rw [Int.toNat_natCast]
    refine forG n Pv ?_ ?_ ?_ ?_
    · exact ⟨_, _, rfl, fH5, b5, l5⟩
    · rintro i σ H6 hi _
      exact hi
    · rintro i x σ H6 H7 hi ⟨z1, z2, rfl, f6, b6, l6⟩ y
      obtain ⟨rfl, rfl⟩ := y
      rw [Int.zero_add]
      walk_at "go"
      refine ⟨by rw [sizeLine_eq]; omega, ?_⟩
      walk_at "go"
      refine ⟨.inl (by decide), ?_⟩
      walk_at "go"
      refine ⟨by decide, ?_⟩
      have em1 : ((nf : Int) + 3 * (i : Int)).fmod 26 = (((nf + 3 * i) % 26 : Nat) : Int) := by rw [Int.fmod_eq_emod_of_nonneg _ (by decide)]; omega
      rw [em1]
      refine ⟨ltrs, _, _, rfl, rfl, ltrs_len, ltrs_at (by omega) (by omega), ?_⟩
      rw [Int.toNat_natCast]
      have lc1 : ∀ lo hi, (cutS st lo hi).length ≤ 6 := fun lo hi => by
        have h1 : (cutS st lo hi).length ≤ st.length := by
          rw [slen, slen]
          show ((st.cps.toList.drop _).take _).length ≤ _
          rw [List.length_take, List.length_drop]; omega
        omega
      have l1c : ∀ q : Nat, (⟨#[q]⟩ : Str).length = 1 := fun q => rfl
      have lap : ∀ x y : Str, (x ++ y).length = x.length + y.length := fun x y => by rw [slen, slen, slen, sapp, List.length_append]
      refine ⟨_, _, rfl, rfl, ?_, ?_⟩
      · have := lc1 none (some (na : Int))
        rw [l1c, sizeLine_eq]; omega
      walk_at "go"
      refine ⟨by rw [sizeLine_eq]; omega, ?_⟩
      refine ⟨_, _, rfl, rfl, ?_, ?_⟩
      · have h1 := lc1 none (some (na : Int))
        have h2 := lc1 (some (na : Int)) none
        rw [lap, l1c, sizeLine_eq]; omega
      have eone : cutS st none (some (na : Int)) ++ ⟨#[97 + (nf + 3 * i) % 26]⟩ ++ cutS st (some (na : Int)) none = oneS st na nf i := rfl
      rw [eone]
      walk_at "go"
      refine ⟨tyL l6, ?_⟩
      walk_at "go"
      refine ⟨.inl ⟨by omega, by omega⟩, ?_⟩
      walk_at "go"
      refine ⟨by decide, ?_⟩
      walk_at "go"
      have em2 : ((ng : Int) * (i : Int)).fmod 2 = ((ng * i % 2 : Nat) : Int) := by
        rw [← Int.natCast_mul, Int.fmod_eq_emod_of_nonneg _ (by decide)]
        generalize ng * i = q
        omega
      rw [em2]
      have fin : ∀ s : Str, s = nameS st na nf ng i → rAppend (.ref lf) [.str s] H7 fun x H1 => Pv (i + 1) [some (V.ref b), some (V.int ↑n), some (V.str (Str.ofString "abcdefghijklmnopqrstuvwxyz")), some (V.ref lf),
            some (V.int ↑i), some (V.str st), some (V.int ↑na), some (V.int ↑nf), some (V.int ↑ng),
            some (V.str (oneS st na nf i))] H1 := fun s hs => by
        refine ⟨lf, _, _, rfl, rfl, l6, by rw [List.length_map]; unfold namesF; rw [List.length_map, List.length_range, sizeLine_eq]; omega, ?_⟩
        refine ⟨_, _, rfl, f6.mut hlf, b6.upd hlb, ?_⟩
        rw [upd_same, hs, names_snoc, List.map_append]
        rfl
      refine ite2 (fun q => ?_) (fun q => ?_)
      · have q1 : ng * i % 2 = 1 := by
          have : ((ng * i % 2 : Nat) : Int) = 1 := by simpa using q
          omega
        have g1' : ng = 1 := by
          rcases Nat.lt_succ_iff_lt_or_eq.mp (show ng < 2 by omega) with z | z
          · have : ng = 0 := by omega
            rw [this] at q1; simp at q1
          · exact z
        subst g1'
        obtain ⟨i', rfl⟩ : ∃ i', i = i' + 1 := ⟨i - 1, by omega⟩
        have l6' := l6
        rw [names_snoc, List.map_append] at l6'
        walk_at "go"
        refine ⟨_, _, _, _, rfl, rfl, SqL.of l6', atI_last _ _, ?_⟩
        walk_at "go"
        refine ⟨by decide, ?_⟩
        have em3 : ((nf : Int) + ((i' + 1 : Nat) : Int)).fmod 26 = (((nf + (i' + 1)) % 26 : Nat) : Int) := by rw [Int.fmod_eq_emod_of_nonneg _ (by decide)]; omega
        rw [em3]
        refine ⟨ltrs, _, _, rfl, rfl, ltrs_len, ltrs_at (by omega) (by omega), ?_⟩
        rw [Int.toNat_natCast]
        refine ⟨_, _, rfl, rfl, ?_, ?_⟩
        · have := name_len st na nf 1 i'
          rw [l1c, sizeLine_eq]; omega
        refine fin _ ?_
        have en : nameS st na nf 1 i' = oneS st na nf i' := if_neg (by omega)
        rw [en]
        show _ = nameS st na nf 1 (i' + 1)
        unfold nameS
        rw [if_pos q1]
        rfl
      · have q1 : ¬ ng * i % 2 = 1 := fun z => q (by rw [z]; rfl)
        walk_at "go"
        exact fin _ (if_neg q1).symm
    · rintro σ H6 ⟨z1, z2, rfl, f6, b6, l6⟩
      refine ⟨Nat.le_refl _, ?_⟩
      walk_at "go"
      refine k lf _ H6 hlf f6 b6 l6 (by unfold namesF; rw [List.length_map, List.length_range]) (names_nd (by omega) hn) fun x hx => ?_
      obtain ⟨j, _, rfl⟩ := List.mem_map.mp hx
      exact (name_low hst _ _ _ _).ok
end
end K83
set_option maxRecDepth 100000
set_option maxHeartbeats 4000000
namespace K83
open PySem PySem.Spec PyProof.Rows L2
local macro_rules | `(tactic| walk_at "nz") => `(tactic| dsimp -proj only [L2.start, wipe, List.map_cons, List.map_nil, List.set, List.length, List.replicate, List.cons_append, List.nil_append, Nat.reduceSub, Nat.reduceAdd])
local macro_rules | `(tactic| walk_at "gg") => `(tactic| repeat (first | refine ⟨rfl, ?_⟩ | refine ⟨_, rfl, ?_⟩ | refine ⟨_, _, rfl, ?_⟩ | refine ⟨_, _, rfl, rfl, ?_⟩))
local macro_rules | `(tactic| walk_at "go") => `(tactic| ((try walk_at "nz"); walk_at "gg"; (try walk_at "nz")))
structure PalI (b q lc lw : Addr) (ss : List Str) (H H5 : Hp) (cs : List Col) (ws : List Wsh) : Prop where
  fr : Fb b H H5
  bx : Bx H5 b
  q : H5 q = some (.lst (ss.map V.str))
  vc : ∃ vs, H5 lc = some (.lst vs) ∧ DvAll H5 (cs.map colD) vs
  vw : ∃ vs, H5 lw = some (.lst vs) ∧ DvAll H5 (ws.map wshD) vs
structure PalN (b q lc lw : Addr) (H : Hp) : Prop where
  n1 : q ≠ b
  n2 : lc ≠ b
  n3 : lw ≠ b
  n4 : q ≠ lc
  n5 : q ≠ lw
  n6 : lc ≠ lw
  hc : H lc = none
  hw : H lw = none
theorem DvAll.box {b : Addr} {H H' : Hp} (f : Fb b H H') (bx : Bx H b) {ds : List PyData} {xs : List V} (c : cleanAll ds = true) (h : DvAll H ds xs) : DvAll H' ds xs := DvAll.fb f bx.ints c h
theorem Dv.box {b : Addr} {H H' : Hp} (f : Fb b H H') (bx : Bx H b) {d : PyData} {v : V} (c : clean d = true) (h : Dv H d v) : Dv H' d v := Dv.fb f bx.ints c h
section
variable {b q lc lw : Addr} {ss : List Str} {H H5 H6 : Hp} {cs : List Col} {ws : List Wsh}
theorem PalI.go (I : PalI b q lc lw ss H H5 cs ws) (N : PalN b q lc lw H) (f : Fb b H5 H6) (bx : Bx H6 b) : PalI b q lc lw ss H H6 cs ws := by
  obtain ⟨vs, h1, h2⟩ := I.vc
  obtain ⟨us, h3, h4⟩ := I.vw
  exact ⟨I.fr.trans f, bx, f _ _ N.n1 I.q, ⟨vs, f _ _ N.n2 h1, h2.box f I.bx (cleanAll_map clC _)⟩, ⟨us, f _ _ N.n3 h3, h4.box f I.bx (cleanAll_map clW _)⟩⟩
theorem PalI.same (I : PalI b q lc lw ss H H5 cs ws) (N : PalN b q lc lw H) (s : Same H5 H6) : PalI b q lc lw ss H H6 cs ws := I.go N (Same.fb s b) (I.bx.same s)
theorem PalI.addC (I : PalI b q lc lw ss H H5 cs ws) (N : PalN b q lc lw H) {c : Col} {v : V} {vs : List V} (h1 : H5 lc = some (.lst vs)) (h2 : DvAll H5 (cs.map colD) vs) (d : Dv H5 (colD c) v) : PalI b q lc lw ss H (upd H5 lc (.lst (vs ++ [v]))) (cs ++ [c]) ws := by
  obtain ⟨us, h3, h4⟩ := I.vw
  refine ⟨I.fr.mut N.hc, I.bx.upd N.n2, by rw [upd_ne N.n4]; exact I.q, ⟨_, upd_same, ?_⟩, ⟨us, by rw [upd_ne N.n6.symm]; exact h3, h4.upd (notup_l h1) (noLA noW _)⟩⟩
  exact (h2.upd (notup_l h1) (noLA noC _)).snocM (d.upd (notup_l h1) (noC _))
theorem PalI.addW (I : PalI b q lc lw ss H H5 cs ws) (N : PalN b q lc lw H) {c : Wsh} {v : V} {vs : List V} (h1 : H5 lw = some (.lst vs)) (h2 : DvAll H5 (ws.map wshD) vs) (d : Dv H5 (wshD c) v) : PalI b q lc lw ss H (upd H5 lw (.lst (vs ++ [v]))) cs (ws ++ [c]) := by
  obtain ⟨us, h3, h4⟩ := I.vc
  refine ⟨I.fr.mut N.hw, I.bx.upd N.n3, by rw [upd_ne N.n5]; exact I.q, ⟨us, by rw [upd_ne N.n6]; exact h3, h4.upd (notup_l h1) (noLA noC _)⟩, ⟨_, upd_same, ?_⟩⟩
  exact (h2.upd (notup_l h1) (noLA noW _)).snocM (d.upd (notup_l h1) (noW _))
end
def ColOk (c : Col) : Prop := 0 ≤ c.charge ∧ 0 ≤ c.melt ∧ 1 ≤ c.gathers ∧ c.gathers ≤ 1000
def WshOk (ss : List Str) (w : Wsh) : Prop := w.one ∈ ss ∧ w.other ∈ ss ∧ ∀ n, w.hrs = some n → 0 ≤ n
def spPal : Sp := fun vs H Q _ => ∃ (b : Addr), vs = [.ref b, .int 6] ∧ Bx H b ∧ ∀ v p H', Fb b H H' → Bx H' b → POk p → Dv H' (palD p) v → Q v H'
theorem at3 {r : Int} (h0 : 0 ≤ r) (h1 : r < 3) : ∃ g : Int, 1 ≤ g ∧ g ≤ 999 ∧ atI [V.int 4, .int 12, .int 999] r = some (.int g) := by
  have : r = 0 ∨ r = 1 ∨ r = 2 := by omega
  rcases this with rfl | rfl | rfl
  · exact ⟨4, by decide, by decide, rfl⟩
  · exact ⟨12, by decide, by decide, rfl⟩
  · exact ⟨999, by decide, by decide, rfl⟩
section
variable {P : Program} {w : World} {K : PySem.W.Frag} {mg : Str → Option Value} {base : Heap} {A : Nat → Addr} {D : Nat → FuncData} {C : Addr} {tk : Tok}
theorem sc__law_palette : FnScope ["_law_box_here", "_law_most", "_law_names_here", "_law_colours", "_law_washes", "_law_name", "_law_gathers", "_law_other", "_law_barred"] ["_law_box_here", "_law_most"] (defScope (topS 36)) := ⟨rfl, rfl, rfl, by decide +kernel, rfl, by decide +kernel, by decide +kernel⟩
theorem ok_pal (T : Tx K mg A D C tk) : FnOk P w K mg base CX0 3 (A 36) (D 36) ["_law_box_here", "_law_most"] spPal := by
  have G__law_take : FnOk P w K mg base CX0 1 (A 33) (D 33) _ _ := ok_ltake T
  have G__law_names : FnOk P w K mg base CX0 2 (A 35) (D 35) _ _ := ok_names T
  refine T.d__law_palette.fn.ok sc__law_palette (fun vs H Q E h => ?_) (fun cdv A0 outer s H vs Q E hr h => ?_)
  · obtain ⟨b, rfl, _⟩ := h
    rfl
  · obtain ⟨b, rfl, hb, k⟩ := h
    refine ⟨_, (pss_cons (ps_set (i := 2) sc__law_palette.nd rfl (Or.inl rfl) (pe_callB (srt_str hr) (by rfl) T.sorted (by decide +kernel) (pa_cons (pcall T.d__law_names G__law_names (hr.mono (by decide)) rfl (pa_cons (pv 0) (pa_cons (pe_op op_add pe_int (pcall T.d__law_take G__law_take (hr.mono (by decide)) rfl (pa_cons (pv 0) (pa_cons (pv 1) pa_nil)))) pa_nil))) pa_nil)))
 (pss_cons (ps_par (i := 3) (j := 4) rfl sc__law_palette.nd rfl rfl (by decide) rfl rfl (pa_cons (pe_lst pa_nil) (pa_cons (pe_lst pa_nil) pa_nil)) (by rfl))
 (pss_cons (ps_for PassesOwn.never rfl (piL K (pv 2)) (pg_name (i := 5) sc__law_palette.nd rfl (Or.inl rfl)) (pss_cons (ps_set (i := 6) sc__law_palette.nd rfl (Or.inl rfl) (pe_op op_add pe_int (pcall T.d__law_take G__law_take (hr.mono (by decide)) rfl (pa_cons (pv 0) (pa_cons (pe_ix (ixL K) (pe_lst (pa_cons pe_int (pa_cons pe_int (pa_cons pe_int pa_nil)))) (pcall T.d__law_take G__law_take (hr.mono (by decide)) rfl (pa_cons (pv 0) (pa_cons pe_int pa_nil))) (fun _ _ => rfl)) pa_nil)))))
 (pss_cons (ps_expr (pe_bm PySem.F.plainAttrs_list PySem.F.slot_list_append PySem.F.type_list_append mt_append (pv 3) (pa_cons (pe_tup (pa_cons (pv 5) (pa_cons (pe_op op_add pe_int (pcall T.d__law_take G__law_take (hr.mono (by decide)) rfl (pa_cons (pv 0) (pa_cons pe_int pa_nil)))) (pa_cons (pcall T.d__law_take G__law_take (hr.mono (by decide)) rfl (pa_cons (pv 0) (pa_cons pe_int pa_nil))) (pa_cons (pv 6) pa_nil))))) pa_nil)))
 (pss_one (ps_for PassesOwn.never rfl (piL K (pv 2)) (pg_name (i := 7) sc__law_palette.nd rfl (Or.inl rfl)) (pss_one (ps_if (PW.pt (pw_and (pt_cmpR op_ne (pv 7) (pv 5) (nomark _)) (pw_and1 (pt_cmpR op_eq (pcall T.d__law_take G__law_take (hr.mono (by decide)) rfl (pa_cons (pv 0) (pa_cons pe_int pa_nil))) pe_int (nomark _))))) (pss_cons (ps_set (i := 8) sc__law_palette.nd rfl (Or.inl rfl) (pe_cmpR op_eq (pcall T.d__law_take G__law_take (hr.mono (by decide)) rfl (pa_cons (pv 0) (pa_cons pe_int pa_nil))) pe_int (nomark _)))
 (pss_one (ps_expr (pe_bm PySem.F.plainAttrs_list PySem.F.slot_list_append PySem.F.type_list_append mt_append (pv 4) (pa_cons (pe_tup (pa_cons (pv 5) (pa_cons (pv 7) (pa_cons (pe_ifExp (pt_val (pv 8)) pe_non (pcall T.d__law_take G__law_take (hr.mono (by decide)) rfl (pa_cons (pv 0) (pa_cons pe_int pa_nil)))) pa_nil)))) pa_nil))))) pss_nil)))))))
 (pss_one (ps_ret (pe_tup (pa_cons (pe_callTy (tupOf K) (by rfl) T.tuple (by decide +kernel) (pa_cons (pv 3) pa_nil)) (pa_cons (pe_callTy (tupOf K) (by rfl) T.tuple (by decide +kernel) (pa_cons (pv 4) pa_nil)) pa_nil)))))))), ?_⟩
    walk_at "go"
    refine ⟨hb, by decide, by decide, fun r H1 r0 r1 f1 b1 => ?_⟩
    walk_at "go"
    refine ⟨b, (1 + r).toNat, by rw [Int.toNat_of_nonneg (by omega)]; rfl, b1, by omega, fun p ns H2 hp f2 b2 hns hnl hnd hok => ?_⟩
    walk_at "go"
    refine ⟨p, ns, _, rfl, hns, DvAll.strs ns, fun ys q dy hq => ?_⟩
    have eys := DvAll.strs' dy
    subst eys
    have hperm : (ns.mergeSort (PySem.W.dataLe false PyData.str)).Perm ns := List.mergeSort_perm _ _
    generalize ns.mergeSort (PySem.W.dataLe false PyData.str) = ss at hperm ⊢
    have hqn : q ≠ b := b2.ne hq
    have f02 : Fb b H H2 := f1.trans f2
    walk_at "go"
    refine ⟨Nat.zero_le _, fun lc hlc => ?_⟩
    walk_at "go"
    refine ⟨Nat.zero_le _, fun lw hlw => ?_⟩
    refine ⟨_, _, rfl, ?_⟩
    have nqlc : q ≠ lc := fun z => by rw [← z, upd_same] at hlc; cases hlc
    have hqlw : upd (upd H2 q (.lst (ss.map V.str))) lc (.lst []) q = some (.lst (ss.map V.str)) := by rw [upd_ne nqlc, upd_same]
    have nqlw : q ≠ lw := fun z => by rw [← z, hqlw] at hlw; cases hlw
    have nclw : lc ≠ lw := fun z => by rw [← z, upd_same] at hlw; cases hlw
    have hq2 : H2 q = none := hq
    have hc2 : H2 lc = none := (Same.new hq).free hlc
    have hw2 : H2 lw = none := (Same.new hq).free ((Same.new hlc).free hlw)
    have N0 : PalN b q lc lw H := ⟨hqn, b2.ne hc2, b2.ne hw2, nqlc, nqlw, nclw, f02.free b2 hc2, f02.free b2 hw2⟩
    have sN : Same H2 (upd (upd (upd H2 q (.lst (ss.map V.str))) lc (.lst [])) lw (.lst [])) := Same.new' (Same.new' (Same.new hq) hlc) hlw
    have I0 : PalI b q lc lw ss H (upd (upd (upd H2 q (.lst (ss.map V.str))) lc (.lst [])) lw (.lst [])) [] [] :=
      ⟨f02.tS sN, b2.same sN, by rw [upd_ne nqlw]; exact hqlw, ⟨[], by rw [upd_ne nclw, upd_same], rfl⟩, ⟨[], upd_same, rfl⟩⟩
    generalize upd (upd (upd H2 q (.lst (ss.map V.str))) lc (.lst [])) lw (.lst []) = H3 at I0 ⊢
    have hsl : ss.length = (1 + r).toNat := by rw [hperm.length_eq, hnl]
    have hssok : ∀ x ∈ ss, sOk x := fun x hx => hok x (hperm.mem_iff.mp hx)
    have hssnd : ss.Nodup := hperm.nodup_iff.mpr hnd
    walk_at "go"
    let Pv : Nat → L2.St → Hp → Prop := fun i σ H5 => ∃ (z5 z6 z7 z8 : Option V) (cs : List Col) (ws : List Wsh), σ = [some (.ref b), some (.int 6), some (.ref q), some (.ref lc), some (.ref lw), z5, z6, z7, z8] ∧ PalI b q lc lw ss H H5 cs ws ∧
      cs.map (·.name) = ss.take i ∧ (∀ c ∈ cs, ColOk c) ∧ (∀ w ∈ ws, WshOk ss w) ∧ ws.length ≤ i * 7
    refine ⟨⟨_, SqL.of I0.q⟩, forG ss.length Pv ?_ ?_ ?_ ?_⟩
    · exact ⟨_, _, _, _, [], [], rfl, I0, rfl, (by simp), (by simp), Nat.zero_le _⟩
    · rintro i σ H5 hi ⟨z5, z6, z7, z8, cs, ws, rfl, I5, hn5, hc5, hw5, hl5⟩
      exact (src_l (K := K) (e := PyData.str) (ts := ss) I5.q (DvAll.strs ss)).1 i _ H5 (List.getElem?_eq_getElem hi) (Same.refl _)
    · rintro i x σ H5 H6 hi ⟨z5, z6, z7, z8, cs, ws, rfl, I5, hn5, hc5, hw5, hl5⟩ y
      obtain ⟨s6, dx⟩ := (src_l (K := K) (e := PyData.str) (ts := ss) I5.q (DvAll.strs ss)).2.1 i _ H5 x H6 (List.getElem?_eq_getElem hi) (Same.refl _) y
      have hxi : ss[i]? = some ss[i] := List.getElem?_eq_getElem hi
      have hxm : ss[i] ∈ ss := List.getElem_mem hi
      generalize ss[i] = nm at dx hxi hxm
      cases dx
      have I6 := I5.same N0 s6
      clear I5 s6
      walk_at "go"
      refine ⟨by show 3 ≤ sizeLine; decide, fun l3 hl3 => ?_⟩
      have I7 := I6.same N0 (Same.new (o := .lst [.int 4, .int 12, .int 999]) hl3)
      have nl3 : l3 ≠ b := I6.bx.ne hl3
      have hl37 : upd H6 l3 (.lst [.int 4, .int 12, .int 999]) l3 = some (.lst [.int 4, .int 12, .int 999]) := upd_same
      walk_at "go"
      refine ⟨I7.bx, by decide, by decide, fun ra H8 a0 a1 f8 b8 => ?_⟩
      have I8 := I7.go N0 f8 b8
      obtain ⟨g, g0, g1, ga⟩ := at3 a0 a1
      refine ⟨_, _, _, _, rfl, rfl, SqL.of (f8 _ _ nl3 hl37), ga, ?_⟩
      walk_at "go"
      refine ⟨b8, by omega, by omega, fun rb H9 c0 c1 f9 b9 => ?_⟩
      have I9 := I8.go N0 f9 b9
      clear I6 I7 I8
      obtain ⟨vcs, hvc, dvc⟩ := I9.vc
      walk_at "go"
      refine ⟨tyL hvc, ?_⟩
      walk_at "go"
      refine ⟨b9, by decide, by decide, fun rc Ha d0 d1 fa ba => ?_⟩
      have Ia := I9.go N0 fa ba
      walk_at "go"
      refine ⟨ba, by decide, by decide, fun rd Hb e0 e1 fb bb => ?_⟩
      have Ib := Ia.go N0 fb bb
      walk_at "go"
      refine ⟨by show 4 ≤ sizeLine; decide, fun t4 ht4 => ?_⟩
      have Ic := Ib.same N0 (Same.new (o := .tup [.str nm, .int (1 + rc), .int rd, .int (1 + rb)]) ht4)
      have dc : Dv (upd Hb t4 (.tup [.str nm, .int (1 + rc), .int rd, .int (1 + rb)])) (colD ⟨nm, 1 + rc, rd, 1 + rb⟩) (.ref t4) := col_mk upd_same
      generalize upd Hb t4 (.tup [.str nm, .int (1 + rc), .int rd, .int (1 + rb)]) = Hc at Ic dc ⊢
      obtain ⟨vcs, hvc, dvc⟩ := Ic.vc
      have hcl : cs.length ≤ 7 := by
        have := congrArg List.length hn5
        rw [List.length_map, List.length_take] at this
        omega
      walk_at "go"
      refine ⟨lc, _, _, rfl, rfl, hvc, by rw [dvc.lenM, sizeLine_eq]; omega, ?_⟩
      have Id := Ic.addC N0 hvc dvc dc
      generalize upd Hc lc (.lst (vcs ++ [.ref t4])) = Hd at Id ⊢
      have hn6 : (cs ++ [(⟨nm, 1 + rc, rd, 1 + rb⟩ : Col)]).map (·.name) = ss.take (i + 1) := by
        rw [List.map_append, hn5, List.take_add_one, hxi]; rfl
      have hc6 : ∀ c ∈ cs ++ [(⟨nm, 1 + rc, rd, 1 + rb⟩ : Col)], ColOk c := fun c hc => by
        rcases List.mem_append.mp hc with q | q
        · exact hc5 c q
        · rw [List.mem_singleton.mp q]
          exact ⟨by show 0 ≤ 1 + rc; omega, e0, by show 1 ≤ 1 + rb; omega, by show 1 + rb ≤ 1000; omega⟩
      generalize cs ++ [(⟨nm, 1 + rc, rd, 1 + rb⟩ : Col)] = cs6 at Id hn6 hc6
      walk_at "go"
      let Pw : Nat → L2.St → Hp → Prop := fun j σ H5 => ∃ (z6 z7 z8 : Option V) (ws : List Wsh), σ = [some (.ref b), some (.int 6), some (.ref q), some (.ref lc), some (.ref lw), some (.str nm), z6, z7, z8] ∧ PalI b q lc lw ss H H5 cs6 ws ∧
        (∀ w ∈ ws, WshOk ss w) ∧ ws.length ≤ i * 7 + j
      have hs7 : ss.length ≤ 7 := by omega
      refine ⟨⟨_, SqL.of Id.q⟩, forG ss.length Pw ?_ ?_ ?_ ?_⟩
      · exact ⟨_, _, _, ws, rfl, Id, hw5, hl5⟩
      · rintro j σ H5 hj ⟨z6, z7, z8, ws, rfl, I5, hw5, hl5⟩
        exact (src_l (K := K) (e := PyData.str) (ts := ss) I5.q (DvAll.strs ss)).1 j _ H5 (List.getElem?_eq_getElem hj) (Same.refl _)
      · rintro j x σ H5 H6 hj ⟨z6, z7, z8, ws, rfl, I5, hw5, hl5⟩ y
        obtain ⟨s6, dx⟩ := (src_l (K := K) (e := PyData.str) (ts := ss) I5.q (DvAll.strs ss)).2.1 j _ H5 x H6 (List.getElem?_eq_getElem hj) (Same.refl _) y
        have hom : ss[j] ∈ ss := List.getElem_mem hj
        generalize ss[j] = om at dx hom
        cases dx
        have I6 := I5.same N0 s6
        clear I5 s6
        walk_at "go"
        refine ite2 (fun z => ?_) (fun z => iteF ⟨_, _, _, ws, rfl, I6, hw5, by omega⟩)
        walk_at "go"
        refine ⟨I6.bx, by decide, by decide, fun ra H7 a0 a1 f7 b7 => ?_⟩
        have I7 := I6.go N0 f7 b7
        walk_at "go"
        refine ite2 (fun z2 => ?_) (fun z2 => ⟨_, _, _, ws, rfl, I7, hw5, by omega⟩)
        walk_at "go"
        refine ⟨b7, by decide, by decide, fun rb H8 c0 c1 f8 b8 => ?_⟩
        have I8 := I7.go N0 f8 b8
        obtain ⟨vws, hvw, dvw⟩ := I8.vw
        walk_at "go"
        refine ⟨tyL hvw, ?_⟩
        have fin : ∀ (o : Option Int) (H9 : Hp) (bb : Bool), (∀ n, o = some n → 0 ≤ n) → PalI b q lc lw ss H H9 cs6 ws → ∀ t9, H9 t9 = none → rAppend (.ref lw) [.ref t9] (upd H9 t9 (.tup [.str nm, .str om, vI o])) fun x H1 =>
            Pw (j + 1) [some (.ref b), some (.int 6), some (.ref q), some (.ref lc), some (.ref lw), some (.str nm), z6, some (.str om), some (.bl bb)] H1 := fun o H9 bb ho I9 t9 ht9 => by
          have Ia := I9.same N0 (Same.new (o := .tup [.str nm, .str om, vI o]) ht9)
          have da : Dv (upd H9 t9 (.tup [.str nm, .str om, vI o])) (wshD ⟨nm, om, o⟩) (.ref t9) := wsh_mk upd_same
          obtain ⟨vws, hvw, dvw⟩ := Ia.vw
          have hwl : ws.length ≤ 60 := by
            have h1 : i * 7 ≤ 6 * 7 := Nat.mul_le_mul_right 7 (by omega)
            omega
          refine ⟨lw, _, _, rfl, rfl, hvw, by rw [dvw.lenM, sizeLine_eq]; omega, ?_⟩
          refine ⟨_, _, _, ws ++ [⟨nm, om, o⟩], rfl, Ia.addW N0 hvw dvw da, fun w hw => ?_, by rw [List.length_append]; show ws.length + 1 ≤ _; omega⟩
          rcases List.mem_append.mp hw with q | q
          · exact hw5 w q
          · rw [List.mem_singleton.mp q]
            exact ⟨hxm, hom, ho⟩
        walk_at "go"
        refine ite2 (fun z3 => ?_) (fun z3 => ?_)
        · walk_at "go"
          refine ⟨by show 3 ≤ sizeLine; decide, fun t9 ht9 => ?_⟩
          exact fin none _ _ (fun n z => by cases z) I8 t9 ht9
        · walk_at "go"
          refine ⟨b8, by decide, by decide, fun re H9 d0 d1 f9 b9 => ?_⟩
          walk_at "go"
          refine ⟨by show 3 ≤ sizeLine; decide, fun t9 ht9 => ?_⟩
          exact fin (some re) _ _ (fun n z => by cases z; exact d0) (I8.go N0 f9 b9) t9 ht9
      · rintro σ H5 ⟨z6, z7, z8, ws, rfl, I5, hw5, hl5⟩
        refine ⟨(src_l (K := K) (e := PyData.str) (ts := ss) I5.q (DvAll.strs ss)).2.2 H5 (Same.refl _), ?_⟩
        exact ⟨_, _, _, _, cs6, ws, rfl, I5, hn6, hc6, hw5, by omega⟩
    · rintro σ H5 ⟨z5, z6, z7, z8, cs, ws, rfl, I5, hn5, hc5, hw5, hl5⟩
      refine ⟨(src_l (K := K) (e := PyData.str) (ts := ss) I5.q (DvAll.strs ss)).2.2 H5 (Same.refl _), ?_⟩
      rw [List.take_length] at hn5
      obtain ⟨vcs, hvc, dvc⟩ := I5.vc
      walk_at "go"
      refine ⟨lc, vcs, rfl, .inl ⟨SqL.of hvc, fun tc htc => ?_⟩⟩
      have s6 : Same H5 (upd H5 tc (.tup vcs)) := Same.new htc
      have htc6 : upd H5 tc (.tup vcs) tc = some (.tup vcs) := upd_same
      have I6 := I5.same N0 s6
      have dvc6 := dvc.same s6
      generalize upd H5 tc (.tup vcs) = H6 at s6 htc6 I6 dvc6 ⊢
      obtain ⟨vws, hvw, dvw⟩ := I6.vw
      walk_at "go"
      refine ⟨lw, vws, rfl, .inl ⟨SqL.of hvw, fun tw htw => ?_⟩⟩
      have s7 : Same H6 (upd H6 tw (.tup vws)) := Same.new htw
      have htw7 : upd H6 tw (.tup vws) tw = some (.tup vws) := upd_same
      have I7 := I6.same N0 s7
      have dvw7 := dvw.same s7
      generalize upd H6 tw (.tup vws) = H7 at s7 htw7 I7 dvw7 ⊢
      walk_at "go"
      refine ⟨by show 2 ≤ sizeLine; decide, fun tp htp => ?_⟩
      have s8 : Same H7 (upd H7 tp (.tup [.ref tc, .ref tw])) := Same.new htp
      have I8 := I7.same N0 s8
      refine k _ ⟨cs, ws⟩ _ I8.fr I8.bx ?_ (pal_mk upd_same (s8 _ _ (s7 _ _ htc6)) (dvc6.same (s7.trans s8)) (s8 _ _ htw7) (dvw7.same s8))
      have hlen : cs.length = ss.length := by
        have := congrArg List.length hn5
        rwa [List.length_map] at this
      have hmem : ∀ c ∈ cs, c.name ∈ ss := fun c hc => by rw [← hn5]; exact List.mem_map.mpr ⟨c, hc, rfl⟩
      exact ⟨fun z => by
        have z' : cs = [] := z
        rw [z'] at hlen
        have : ss.length = 0 := hlen.symm
        omega, by show cs.length ≤ 1000; omega, by show ws.length ≤ 1000; have := Nat.mul_le_mul_right 7 (show ss.length ≤ 7 by omega); omega, by show (cs.map (·.name)).Nodup; rw [hn5]; exact hssnd,
        fun c hc => ⟨hssok _ (hmem c hc), hc5 c hc⟩, fun w hw => ⟨hssok _ (hw5 w hw).1, hssok _ (hw5 w hw).2.1, (hw5 w hw).2.2⟩⟩
end
end K83
set_option maxRecDepth 100000
set_option maxHeartbeats 4000000
namespace K83
open PySem PySem.Spec PyProof.Rows L2
local macro_rules | `(tactic| walk_at "nz") => `(tactic| dsimp -proj only [L2.start, wipe, List.map_cons, List.map_nil, List.set, List.length, List.replicate, List.cons_append, List.nil_append, Nat.reduceSub, Nat.reduceAdd])
local macro_rules | `(tactic| walk_at "gg") => `(tactic| repeat (first | refine ⟨rfl, ?_⟩ | refine ⟨_, rfl, ?_⟩ | refine ⟨_, _, rfl, ?_⟩ | refine ⟨_, _, rfl, rfl, ?_⟩))
local macro_rules | `(tactic| walk_at "go") => `(tactic| ((try walk_at "nz"); walk_at "gg"; (try walk_at "nz")))
/-! ### a pot's turns -/
theorem find_at {p : Pal} (o : POk p) {i : Nat} {c : Col} (h : p.cs[i]? = some c) : p.find c.name = some c := by
  have hl := (List.getElem?_eq_some_iff.mp h).1
  refine find_hit (p := fun x : Col => decide (x.name = c.name)) (i := i) (fun j y hj hy => ?_) h (decide_eq_true rfl)
  refine decide_eq_false fun z => ?_
  have nd := o.nd
  rw [List.Nodup, List.pairwise_map, List.pairwise_iff_getElem] at nd
  have hl2 := (List.getElem?_eq_some_iff.mp hy).1
  have := nd j i hl2 hl hj
  rw [List.getElem?_eq_getElem hl2] at hy
  rw [List.getElem?_eq_getElem hl] at h
  cases hy; cases h
  exact this z
theorem wash_nn {p : Pal} (o : POk p) {a : Option Str} {b : Str} {n : Int} (h : washF p.ws a b = some n) : 0 ≤ n := by
  unfold washF at h
  cases e : p.ws.find? (isW a b) with
  | none => rw [e] at h; cases h; exact Int.le_refl _
  | some w =>
    rw [e] at h
    exact (o.wash w (List.mem_of_find?_eq_some e)).2.2 n h
structure PotS (p : Pal) (ts : List Trn) (free : Int) (last : Option Str) : Prop where
  ok : PotOk p ts
  nn : 0 ≤ free
  la : ∀ t, ts.getLast? = some t → last = some t.col ∧ t.e ≤ free
  fd : ∀ x, last = some x → ∃ c, p.find x = some c
theorem PotS.nil {p : Pal} {free : Int} (h : 0 ≤ free) : PotS p [] free none :=
  ⟨⟨Nat.zero_le _, by simp, by simp, by simp⟩, h, by simp, by simp⟩
theorem PotS.snoc {p : Pal} {ts : List Trn} {free : Int} {last : Option Str} (s : PotS p ts free last) {c : Col} (hc : p.find c.name = some c) (h1 : 0 ≤ c.charge) (h2 : 0 ≤ c.melt) {n bg en r : Int} (hn : washF p.ws last c.name = some n) (h0 : 0 ≤ n)
    (hb : free + n + c.charge + c.melt ≤ bg) (he : bg < en) (h60 : en ≤ 60) (hr : 0 ≤ r) (hl : ts.length ≤ 100) : PotS p (ts ++ [⟨free + n, c.name, bg, en⟩]) (en + r) (some c.name) where
  ok := {
    len := by rw [List.length_append, List.length_singleton]; omega
    col := fun t ht => by
      rcases List.mem_append.mp ht with q | q
      · exact s.ok.col t q
      · rw [List.mem_singleton.mp q]; exact ⟨c, hc, h1, h2, hb⟩
    rng := fun t ht => by
      have := s.nn
      rcases List.mem_append.mp ht with q | q
      · exact s.ok.rng t q
      · rw [List.mem_singleton.mp q]
        exact ⟨by show 0 ≤ bg; omega, he, h60⟩
    step := fun i a b ha hb' => by
      by_cases e : i + 1 < ts.length
      · rw [List.getElem?_append_left (by omega)] at ha hb'
        exact s.ok.step i a b ha hb'
      · rw [List.getElem?_append_right (by omega)] at hb'
        have e2 : i + 1 = ts.length := by
          have := (List.getElem?_eq_some_iff.mp hb').1
          rw [List.length_singleton] at this
          omega
        rw [e2, Nat.sub_self] at hb'
        cases hb'
        rw [List.getElem?_append_left (by omega)] at ha
        have hla : ts.getLast? = some a := by
          rw [List.getLast?_eq_getElem?, show ts.length - 1 = i by omega]; exact ha
        obtain ⟨g1, g2⟩ := s.la a hla
        refine ⟨n, ?_, h0, ?_⟩
        · rw [← g1]; exact hn
        · show a.e + n ≤ free + n; omega }
  nn := by have := s.nn; omega
  la := fun t ht => by
    rw [List.getLast?_append] at ht
    cases ht
    exact ⟨rfl, by show en ≤ en + r; omega⟩
  fd := fun x hx => by cases hx; exact ⟨c, hc⟩
def F2 (b d : Addr) (H H' : Hp) : Prop := ∀ a o, a ≠ b → a ≠ d → H a = some o → H' a = some o
def AllI (kvs : List (Key × V)) : Prop := ∀ e ∈ kvs, ∃ i : Int, e.2 = .int i
theorem AllI.get {kvs : List (Key × V)} (h : AllI kvs) (k : Key) : ∃ m : Int, (valV kvs k).getD (.int 0) = .int m := by
  cases e : valV kvs k with
  | none => exact ⟨0, rfl⟩
  | some v =>
    obtain ⟨i, hi⟩ := h _ (valV_in e)
    exact ⟨i, hi⟩
theorem AllI.put {kvs : List (Key × V)} (h : AllI kvs) (k : Key) (i : Int) : AllI (putK kvs k (.int i)) := fun e he => by
  rcases put_mem he with rfl | q
  · exact ⟨i, rfl⟩
  · exact h e q.1
structure PotI (b cd lf : Addr) (v : V) (p : Pal) (H H5 : Hp) (ts : List Trn) (kvs : List (Key × V)) : Prop where
  fr : F2 b cd H H5
  bx : Bx H5 b
  pal : Dv H5 (palD p) v
  hc : H5 cd = some (.dK kvs)
  vf : ∃ xs, H5 lf = some (.lst xs) ∧ DvAll H5 (ts.map trnD) xs
structure PotN (b cd lf : Addr) (H : Hp) : Prop where
  n1 : lf ≠ b
  n2 : lf ≠ cd
  n3 : cd ≠ b
  hf : H lf = none
section
variable {b cd lf : Addr} {v : V} {p : Pal} {H H5 H6 : Hp} {ts : List Trn} {kvs : List (Key × V)}
theorem PotI.go (I : PotI b cd lf v p H H5 ts kvs) (N : PotN b cd lf H) (f : Fb b H5 H6) (bx : Bx H6 b) : PotI b cd lf v p H H6 ts kvs := by
  obtain ⟨xs, h1, h2⟩ := I.vf
  exact ⟨fun a o n1 n2 e => f _ _ n1 (I.fr a o n1 n2 e), bx, I.pal.box f I.bx (clPal p), f _ _ N.n3 I.hc, ⟨xs, f _ _ N.n1 h1, h2.box f I.bx (cleanAll_map clT _)⟩⟩
theorem PotI.same (I : PotI b cd lf v p H H5 ts kvs) (N : PotN b cd lf H) (s : Same H5 H6) : PotI b cd lf v p H H6 ts kvs := I.go N (Same.fb s b) (I.bx.same s)
theorem PotI.addT (I : PotI b cd lf v p H H5 ts kvs) (N : PotN b cd lf H) {t : Trn} {x : V} {xs : List V} (h1 : H5 lf = some (.lst xs)) (h2 : DvAll H5 (ts.map trnD) xs) (d : Dv H5 (trnD t) x) : PotI b cd lf v p H (upd H5 lf (.lst (xs ++ [x]))) (ts ++ [t]) kvs := by
  refine ⟨fun a o n1 n2 e => by rw [upd_ne (ne_of_none e N.hf)]; exact I.fr a o n1 n2 e, I.bx.upd N.n1, I.pal.upd (notup_l h1) (noPal p), by rw [upd_ne N.n2.symm]; exact I.hc, ⟨_, upd_same, ?_⟩⟩
  exact (h2.upd (notup_l h1) (noLA noT _)).snocM (d.upd (notup_l h1) (noT _))
theorem PotI.putC (I : PotI b cd lf v p H H5 ts kvs) (N : PotN b cd lf H) (kvs' : List (Key × V)) : PotI b cd lf v p H (upd H5 cd (.dK kvs')) ts kvs' := by
  obtain ⟨xs, h1, h2⟩ := I.vf
  have t1 : ∀ xs, H5 cd ≠ some (.tup xs) := fun _ z => by rw [I.hc] at z; cases z
  have t2 : ∀ xs, H5 cd ≠ some (.lst xs) := fun _ z => by rw [I.hc] at z; cases z
  exact ⟨fun a o n1 n2 e => by rw [upd_ne n2]; exact I.fr a o n1 n2 e, I.bx.upd N.n3, I.pal.updO t1 t2, upd_same, ⟨xs, by rw [upd_ne N.n2]; exact h1, h2.updO t1 t2⟩⟩
end
theorem at2 {r x y : Int} (h0 : 0 ≤ r) (h1 : r < 2) : ∃ g : Int, (g = x ∨ g = y) ∧ atI [V.int x, .int y] r = some (.int g) := by
  have : r = 0 ∨ r = 1 := by omega
  rcases this with rfl | rfl
  · exact ⟨x, .inl rfl, rfl⟩
  · exact ⟨y, .inr rfl, rfl⟩
def spPot : Sp := fun vs H Q _ => ∃ (b : Addr) (v : V) (cd : Addr) (p : Pal) (kvs : List (Key × V)), vs = [.ref b, v, .ref cd] ∧ Bx H b ∧ Dv H (palD p) v ∧ POk p ∧ H cd = some (.dK kvs) ∧ AllI kvs ∧ kvs.length ≤ 1000 ∧
  ∀ q (ts : List Trn) xs kvs' H', H q = none → F2 b cd H H' → Bx H' b → H' cd = some (.dK kvs') → AllI kvs' → kvs'.length ≤ kvs.length + 9 → H' q = some (.lst xs) → DvAll H' (ts.map trnD) xs → PotOk p ts → ts.length ≤ 9 → Q (.ref q) H'
section
variable {P : Program} {w : World} {K : PySem.W.Frag} {mg : Str → Option Value} {base : Heap} {A : Nat → Addr} {D : Nat → FuncData} {C : Addr} {tk : Tok}
theorem sc__law_pot : FnScope ["_law_box_here", "_law_palette_here", "_law_counts", "_law_found", "_law_free", "_law_last", "_law_turn", "_law_colour", "_law_charge", "_law_melt", "_law_gathers", "_law_wash_here", "_law_late", "_law_begin", "_law_end"] ["_law_box_here", "_law_palette_here", "_law_counts"] (defScope (topS 38)) := ⟨rfl, rfl, rfl, by decide +kernel, rfl, by decide +kernel, by decide +kernel⟩
theorem ok_pot (T : Tx K mg A D C tk) : FnOk P w K mg base CX0 2 (A 38) (D 38) ["_law_box_here", "_law_palette_here", "_law_counts"] spPot := by
  have G__law_take : FnOk P w K mg base CX0 1 (A 33) (D 33) _ _ := ok_ltake T
  have G__law_wash : FnOk P w K mg base CX0 1 (A 37) (D 37) _ _ := ok_law_wash T
  refine T.d__law_pot.fn.ok sc__law_pot (fun vs H Q E h => ?_) (fun cdv A0 outer s H vs Q E hr h => ?_)
  · obtain ⟨b, v, cd, p, kvs, rfl, _⟩ := h
    rfl
  · obtain ⟨b, v, cd, p, kvs, rfl, hb, hp, hpo, hcd, hai, hkl, k⟩ := h
    refine ⟨_, (pss_cons (ps_par3 (i := 3) (j := 4) (l := 5) rfl sc__law_pot.nd rfl rfl rfl (by decide) (by decide) (by decide) rfl rfl rfl (pa_cons (pe_lst pa_nil) (pa_cons (pcall T.d__law_take G__law_take (hr.mono (by decide)) rfl (pa_cons (pv 0) (pa_cons pe_int pa_nil))) (pa_cons pe_non pa_nil))) (by rfl))
 (pss_cons (ps_for PassesOwn.never rfl (pi_range1 (by rfl) T.range (pa_cons pe_int pa_nil)) (pg_name (i := 6) sc__law_pot.nd rfl (Or.inl rfl)) (pss_cons (ps_asg (pe_ix (ixT K) (pe_ix (ixT K) (pv 1) pe_int (fun _ _ => rfl)) (pcall T.d__law_take G__law_take (hr.mono (by decide)) rfl (pa_cons (pv 0) (pa_cons (pe_callB (lenS K) (by rfl) T.len (by decide +kernel) (pa_cons (pe_ix (ixT K) (pv 1) pe_int (fun _ _ => rfl)) pa_nil)) pa_nil))) (fun _ _ => rfl)) (pgT K 4 rfl (pgs_cons (pg_name (i := 7) sc__law_pot.nd rfl (Or.inl rfl)) (pgs_cons (pg_name (i := 8) sc__law_pot.nd rfl (Or.inl rfl)) (pgs_cons (pg_name (i := 9) sc__law_pot.nd rfl (Or.inl rfl)) (pgs_cons (pg_name (i := 10) sc__law_pot.nd rfl (Or.inl rfl)) pgs_nil))))))
 (pss_cons (ps_par (i := 11) (j := 12) rfl sc__law_pot.nd rfl rfl (by decide) rfl rfl (pa_cons (pcall T.d__law_wash G__law_wash (hr.mono (by decide)) rfl (pa_cons (pv 1) (pa_cons (pv 5) (pa_cons (pv 7) pa_nil)))) (pa_cons (pcall T.d__law_take G__law_take (hr.mono (by decide)) rfl (pa_cons (pv 0) (pa_cons pe_int pa_nil))) pa_nil)) (by rfl))
 (pss_one (ps_if (PW.pt (pw_and (pt_cmpR op_notN (pv 11) pe_non (nomark _)) (pw_and1 (pt_cmpR op_lt (pe_dget2 (hu_of hr) (pv 2) (pv 7) pe_int ⟨rfl, rfl, rfl, rfl⟩) pe_int (nomark _))))) (pss_cons (ps_set (i := 13) sc__law_pot.nd rfl (Or.inl rfl) (pe_op op_add (pe_op op_add (pe_op op_add (pe_op op_add (pv 4) (pv 11)) (pv 8)) (pv 9)) (pv 12)))
 (pss_cons (ps_set (i := 14) sc__law_pot.nd rfl (Or.inl rfl) (pe_op op_add (pe_op op_add (pv 13) pe_int) (pcall T.d__law_take G__law_take (hr.mono (by decide)) rfl (pa_cons (pv 0) (pa_cons (pe_ix (ixL K) (pe_lst (pa_cons pe_int (pa_cons pe_int pa_nil))) (pcall T.d__law_take G__law_take (hr.mono (by decide)) rfl (pa_cons (pv 0) (pa_cons pe_int pa_nil))) (fun _ _ => rfl)) pa_nil)))))
 (pss_one (ps_if (pt_cmpR op_le (pv 14) pe_int (nomark _)) (pss_cons (ps_expr (pe_bm PySem.F.plainAttrs_list PySem.F.slot_list_append PySem.F.type_list_append mt_append (pv 3) (pa_cons (pe_tup (pa_cons (pe_op op_add (pv 4) (pv 11)) (pa_cons (pv 7) (pa_cons (pv 13) (pa_cons (pv 14) pa_nil))))) pa_nil)))
 (pss_cons (ps_dput (hu_of hr) (pv 2) (pv 7) (pe_op op_add (pe_dget2 (hu_of hr) (pv 2) (pv 7) pe_int ⟨rfl, rfl, rfl, rfl⟩) pe_int) rfl)
 (pss_one (ps_par (i := 4) (j := 5) rfl sc__law_pot.nd rfl rfl (by decide) rfl rfl (pa_cons (pe_op op_add (pv 14) (pcall T.d__law_take G__law_take (hr.mono (by decide)) rfl (pa_cons (pv 0) (pa_cons pe_int pa_nil)))) (pa_cons (pv 7) pa_nil)) (by rfl))))) pss_nil)))) pss_nil)))))
 (pss_one (ps_ret (pv 3))))), ?_⟩
    walk_at "go"
    refine ⟨Nat.zero_le _, fun lf hlf => ?_⟩
    have ncb : cd ≠ b := fun z => by
      obtain ⟨x, y, u, e⟩ := hb
      rw [z, e] at hcd; cases hcd
    have nlc : lf ≠ cd := fun z => by rw [z, hcd] at hlf; cases hlf
    have N0 : PotN b cd lf H := ⟨hb.ne hlf, nlc, ncb, hlf⟩
    have s0 : Same H (upd H lf (.lst [])) := Same.new hlf
    have I0 : PotI b cd lf v p H (upd H lf (.lst [])) [] kvs := ⟨fun a o _ _ e => s0 a o e, hb.same s0, hp.same s0, s0 _ _ hcd, ⟨[], upd_same, rfl⟩⟩
    generalize upd H lf (.lst []) = H0 at I0 ⊢
    walk_at "go"
    refine ⟨I0.bx, by decide, by decide, fun rf H1 r0 r1 f1 b1 => ?_⟩
    have I1 := I0.go N0 f1 b1
    clear I0 s0
    refine ⟨_, _, _, rfl, ?_⟩
    walk_at "go"
    let Pv : Nat → L2.St → Hp → Prop := fun i σ H5 => ∃ (z6 z7 z8 z9 z10 z11 z12 z13 z14 : Option V) (ts : List Trn) (free : Int) (last : Option Str) (kvs5 : List (Key × V)), σ = [some (.ref b), some v, some (.ref cd), some (.ref lf), some (.int free), some (vS last), z6, z7, z8, z9, z10, z11, z12, z13, z14] ∧
      PotI b cd lf v p H H5 ts kvs5 ∧ PotS p ts free last ∧ ts.length ≤ i ∧ AllI kvs5 ∧ kvs5.length ≤ kvs.length + i
    refine ⟨by decide, by decide, forG 9 Pv ?_ ?_ ?_ ?_⟩
    · exact ⟨_, _, _, _, _, _, _, _, _, [], rf, none, kvs, rfl, I1, PotS.nil r0, Nat.zero_le _, hai, Nat.le_refl _⟩
    · rintro i σ H5 hi _
      exact hi
    · rintro i x σ H5 H6 hi ⟨z6, z7, z8, z9, z10, z11, z12, z13, z14, ts, free, last, kvs5, rfl, I5, S5, hl5, ha5, hk5⟩ y
      obtain ⟨rfl, rfl⟩ := y
      obtain ⟨pa, pb, pd, xs, ys, rfl, hpa, hpb, hbs, hpd, hds⟩ := pal_of I5.pal
      have hxl : xs.length = p.cs.length := hbs.lenM
      have hcl := hpo.len
      have hcp : 0 < p.cs.length := List.length_pos_iff.mpr hpo.ne
      walk_at "go"
      refine ⟨_, _, _, _, rfl, rfl, SqT.of hpa, rfl, ?_⟩
      walk_at "go"
      refine ⟨_, _, _, _, rfl, rfl, SqT.of hpa, rfl, ?_⟩
      walk_at "go"
      refine ⟨_, _, rfl, .inr (SqT.of hpb), ?_⟩
      walk_at "go"
      refine ⟨I5.bx, by omega, by omega, fun ri H6 a0 a1 f6 b6 => ?_⟩
      have I6 := I5.go N0 f6 b6
      obtain ⟨ni, rfl⟩ : ∃ m : Nat, ri = (m : Int) := ⟨ri.toNat, by omega⟩
      have hni : ni < p.cs.length := by omega
      obtain ⟨cv, hcv, dcv⟩ := (hbs.box f6 I5.bx (cleanAll_map clC _)).of (List.getElem?_eq_getElem hni)
      have hfc := find_at hpo (List.getElem?_eq_getElem hni)
      obtain ⟨c1, c2, c3, c4, c5⟩ := hpo.col _ (List.getElem_mem hni)
      generalize p.cs[ni] = cc at dcv hfc c1 c2 c3 c4 c5
      have npb : pb ≠ b := fun z => by
        obtain ⟨x, y, u, e⟩ := I5.bx
        rw [z, e] at hpb; cases hpb
      refine ⟨_, _, _, _, rfl, rfl, SqT.of (f6 _ _ npb hpb), atI_nat hcv, ?_⟩
      obtain ⟨ce, rfl, hce⟩ := col_of dcv
      refine ⟨ce, _, rfl, SqT.of hce, rfl, ?_⟩
      walk_at "go"
      refine ⟨.ref pa, p, last, cc.name, rfl, I6.pal, hpo, fun x hx => (let ⟨c', h'⟩ := S5.fd x hx; hpo.ok h'), c1, fun r7 H7 s7 dr => ?_⟩
      have er := dv_oi dr
      subst er
      have I7 := I6.same N0 s7
      walk_at "go"
      refine ⟨I7.bx, by decide, by decide, fun rl H8 d0 d1 f8 b8 => ?_⟩
      have I8 := I7.go N0 f8 b8
      clear I5 I6 I7 f6 f8 s7
      refine ⟨_, _, rfl, ?_⟩
      have stay : ∀ {H9 : Hp} (y6 y7 y8 y9 y10 y11 y12 y13 y14 : Option V), PotI b cd lf (.ref pa) p H H9 ts kvs5 → Pv (i + 1) [some (.ref b), some (.ref pa), some (.ref cd), some (.ref lf), some (.int free), some (vS last), y6, y7, y8, y9, y10, y11, y12, y13, y14] H9 :=
        fun y6 y7 y8 y9 y10 y11 y12 y13 y14 I => ⟨_, _, _, _, _, _, _, _, _, ts, free, last, kvs5, rfl, I, S5, by omega, ha5, by omega⟩
      cases hw : washF p.ws last cc.name with
      | none =>
        walk_at "go"
        exact iteF (iteF (stay _ _ _ _ _ _ _ _ _ I8))
      | some n =>
        have hn0 := wash_nn hpo hw
        walk_at "go"
        refine ⟨.inl ⟨kvs5, .inl I8.hc⟩, ?_⟩
        walk_at "go"
        refine ⟨valV kvs5 (.inr cc.name), DGet.k (k := .inr cc.name) I8.hc, ?_⟩
        obtain ⟨m, hm⟩ := ha5.get (.inr cc.name)
        rw [hm]
        walk_at "go"
        refine ite2 (fun z => ?_) (fun z => stay _ _ _ _ _ _ _ _ _ I8)
        walk_at "go"
        refine ⟨by show 2 ≤ sizeLine; decide, fun l2 hl2 => ?_⟩
        have I9 := I8.same N0 (Same.new (o := .lst [.int 3, .int 12]) hl2)
        have nl2 : l2 ≠ b := b8.ne hl2
        have hl29 : upd H8 l2 (.lst [.int 3, .int 12]) l2 = some (.lst [.int 3, .int 12]) := upd_same
        walk_at "go"
        refine ⟨I9.bx, by decide, by decide, fun ra Ha e0 e1 fa ba => ?_⟩
        have Ia := I9.go N0 fa ba
        obtain ⟨g, hg, ga⟩ := at2 (x := 3) (y := 12) e0 e1
        refine ⟨_, _, _, _, rfl, rfl, SqL.of (fa _ _ nl2 hl29), ga, ?_⟩
        walk_at "go"
        refine ⟨ba, by omega, by omega, fun rb Hb e2 e3 fb bb => ?_⟩
        have Ib := Ia.go N0 fb bb
        clear I8 I9 Ia
        walk_at "go"
        refine ite2 (fun z60 => ?_) (fun z => stay _ _ _ _ _ _ _ _ _ Ib)
        have h60 := of_decide_eq_true z60
        obtain ⟨xs5, hv5, dv5⟩ := Ib.vf
        walk_at "go"
        refine ⟨tyL hv5, ?_⟩
        walk_at "go"
        refine ⟨by show 4 ≤ sizeLine; decide, fun t4 ht4 => ?_⟩
        have Ic := Ib.same N0 (Same.new (o := .tup [.int (free + n), .str cc.name, .int (free + n + cc.charge + cc.melt + rl), .int (free + n + cc.charge + cc.melt + rl + 1 + rb)]) ht4)
        have dc : Dv (upd Hb t4 (.tup [.int (free + n), .str cc.name, .int (free + n + cc.charge + cc.melt + rl), .int (free + n + cc.charge + cc.melt + rl + 1 + rb)])) (trnD ⟨free + n, cc.name, free + n + cc.charge + cc.melt + rl, free + n + cc.charge + cc.melt + rl + 1 + rb⟩) (.ref t4) := trn_mk upd_same
        refine ⟨lf, _, _, rfl, rfl, (Same.new ht4) _ _ hv5, by rw [dv5.lenM, sizeLine_eq]; omega, ?_⟩
        have Id := Ic.addT N0 ((Same.new ht4) _ _ hv5) (dv5.same (Same.new ht4)) dc
        generalize upd (upd Hb t4 _) lf _ = Hd at Id ⊢
        walk_at "go"
        refine ⟨.inl ⟨kvs5, .inl Id.hc⟩, ?_⟩
        walk_at "go"
        refine ⟨valV kvs5 (.inr cc.name), DGet.k (k := .inr cc.name) Id.hc, ?_⟩
        rw [hm]
        walk_at "go"
        refine ⟨cd, _, rfl, DPut.k (k := .inr cc.name) Id.hc (by rw [sizeLine_eq]; omega), ?_⟩
        have Ie := Id.putC N0 (putK kvs5 (.inr cc.name) (.int (m + 1)))
        generalize upd Hd cd (.dK (putK kvs5 (.inr cc.name) (.int (m + 1)))) = He at Ie ⊢
        walk_at "go"
        refine ⟨Ie.bx, by decide, by decide, fun rc Hf e4 e5 ff bf => ?_⟩
        have If := Ie.go N0 ff bf
        walk_at "go"
        have hpl := put_len kvs5 (.inr cc.name) (.int (m + 1))
        refine ⟨_, _, _, _, _, _, _, _, _, _, _, some cc.name, _, rfl, If, S5.snoc hfc c2 c3 hw hn0 (by omega) (by omega) h60 e4 (by omega), by rw [List.length_append]; show ts.length + 1 ≤ _; omega, ha5.put _ _, by omega⟩
    · rintro σ H5 ⟨z6, z7, z8, z9, z10, z11, z12, z13, z14, ts, free, last, kvs5, rfl, I5, S5, hl5, ha5, hk5⟩
      obtain ⟨xs, h1, h2⟩ := I5.vf
      refine ⟨Nat.le_refl _, ?_⟩
      walk_at "go"
      exact k lf ts xs kvs5 H5 hlf I5.fr I5.bx I5.hc ha5 hk5 h1 h2 S5.ok hl5
end
end K83
set_option maxRecDepth 100000
set_option maxHeartbeats 4000000
namespace K83
open PySem PySem.Spec PyProof.Rows L2
local macro_rules | `(tactic| walk_at "nz") => `(tactic| dsimp -proj only [L2.start, wipe, List.map_cons, List.map_nil, List.set, List.length, List.replicate, List.cons_append, List.nil_append, Nat.reduceSub, Nat.reduceAdd])
local macro_rules | `(tactic| walk_at "gg") => `(tactic| repeat (first | refine ⟨rfl, ?_⟩ | refine ⟨_, rfl, ?_⟩ | refine ⟨_, _, rfl, ?_⟩ | refine ⟨_, _, rfl, rfl, ?_⟩))
local macro_rules | `(tactic| walk_at "go") => `(tactic| ((try walk_at "nz"); walk_at "gg"; (try walk_at "nz")))
theorem F2.dvA {b cd : Addr} {H H' : Hp} (f : F2 b cd H H') (bx : Bx H b) {kvs : List (Key × V)} (hc : H cd = some (.dK kvs)) {ds : List PyData} {xs : List V} (c : cleanAll ds = true) (h : DvAll H ds xs) : DvAll H' ds xs := by
  obtain ⟨x, y, z, e⟩ := bx
  refine DvAll.frm (E := fun a => a = b ∨ a = cd) (fun a o n ha => f a o (fun z => n (.inl z)) (fun z => n (.inr z)) ha) ?_ ?_ c h
  · rintro a ys (rfl | rfl) z
    · rw [e] at z; cases z
    · rw [hc] at z; cases z
  · rintro a ys (rfl | rfl) z
    · rw [e] at z; cases z; exact ⟨x, _, rfl⟩
    · rw [hc] at z; cases z
theorem F2.dv {b cd : Addr} {H H' : Hp} (f : F2 b cd H H') (bx : Bx H b) {kvs : List (Key × V)} (hc : H cd = some (.dK kvs)) {d : PyData} {v : V} (c : clean d = true) (h : Dv H d v) : Dv H' d v := by
  have := f.dvA bx hc (ds := [d]) (xs := [v]) (by rw [cleanAll, c]; rfl) (.cons h .nil)
  obtain ⟨x, r, e, h1, _⟩ := this
  cases e
  exact h1
def PotAt (D b cd : Addr) (H : Hp) (ts : List Trn) (v : V) : Prop := ∃ q xs, v = .ref q ∧ q ≠ D ∧ q ≠ b ∧ q ≠ cd ∧ H q = some (.lst xs) ∧ DvAll H (ts.map trnD) xs
theorem PotAt.f2 {D b cd : Addr} {H H' : Hp} (f : F2 b cd H H') (bx : Bx H b) {kvs : List (Key × V)} (hc : H cd = some (.dK kvs)) {ts : List Trn} {v : V} (h : PotAt D b cd H ts v) : PotAt D b cd H' ts v := by
  obtain ⟨q, xs, e, n1, n2, n3, h1, h2⟩ := h
  exact ⟨q, xs, e, n1, n2, n3, f _ _ n2 n3 h1, f.dvA bx hc (cleanAll_map clT _) h2⟩
theorem PotAt.upd {D b cd : Addr} {H : Hp} {ys : List V} {o : HO} (hD : H D = some (.lst ys)) {ts : List Trn} {v : V} (h : PotAt D b cd H ts v) : PotAt D b cd (upd H D o) ts v := by
  obtain ⟨q, xs, e, n1, n2, n3, h1, h2⟩ := h
  exact ⟨q, xs, e, n1, n2, n3, by rw [upd_ne n1]; exact h1, h2.upd (notup_l hD) (noLA noT _)⟩
theorem pots_dv {D b cd : Addr} {H : Hp} {tss : List (List Trn)} {acc : List V} (h : Paired (PotAt D b cd H) tss acc) : DvAll H (tss.map trnsD) acc := by
  induction h with
  | nil => exact .nil
  | cons h1 _ ih =>
    obtain ⟨q, xs, rfl, _, _, _, h2, h3⟩ := h1
    exact .cons (list_mk h2 h3) ih
def spPots : Sp := fun vs H Q _ => ∃ (b : Addr) (v : V) (p : Pal), vs = [.ref b, v, .int 7] ∧ Bx H b ∧ Dv H (palD p) v ∧ POk p ∧
  ∀ q (pots : List (List Trn)) H', Fb b H H' → Bx H' b → Dv H' (potsD pots) (.ref q) → pots.length ≤ 7 → (∀ ts ∈ pots, PotOk p ts ∧ ts.length ≤ 9) → Q (.ref q) H'
section
variable {P : Program} {w : World} {K : PySem.W.Frag} {mg : Str → Option Value} {base : Heap} {A : Nat → Addr} {D : Nat → FuncData} {C : Addr} {tk : Tok}
theorem sc__law_pots : FnScope ["_law_box_here", "_law_palette_here", "_law_most", "_law_counts", "_law_k"] ["_law_box_here", "_law_palette_here", "_law_most"] (defScope (topS 39)) := ⟨rfl, rfl, rfl, by decide +kernel, rfl, by decide +kernel, by decide +kernel⟩
theorem ok_pots (T : Tx K mg A D C tk) : FnOk P w K mg base CX0 3 (A 39) (D 39) ["_law_box_here", "_law_palette_here", "_law_most"] spPots := by
  have G__law_take : FnOk P w K mg base CX0 1 (A 33) (D 33) _ _ := ok_ltake T
  have G__law_pot : FnOk P w K mg base CX0 2 (A 38) (D 38) _ _ := ok_pot T
  refine T.d__law_pots.fn.ok sc__law_pots (fun vs H Q E h => ?_) (fun cdv A0 outer s H vs Q E hr h => ?_)
  · obtain ⟨b, v, p, rfl, _⟩ := h
    rfl
  · obtain ⟨b, v, p, rfl, hb, hp, hpo, k⟩ := h
    refine ⟨_, (pss_cons (ps_set (i := 3) sc__law_pots.nd rfl (Or.inr rfl) pe_dnewK)
 (pss_one (ps_ret (pe_lc (own := [("_law_k", 4)]) rfl sc__law_pots.nd (pi_range1 (by rfl) T.range (pa_cons (pcall T.d__law_take G__law_take (hr.mono (by decide)) rfl (pa_cons (pv 0) (pa_cons (pe_op op_add (pv 2) pe_int) pa_nil))) pa_nil)) (blkOk_by (N := ["_law_box_here", "_law_palette_here", "_law_most", "_law_counts", "_law_k"]) (sc := defScope (topS 39)) (by decide +kernel)) (fun _ _ _ _ _ => (pg_name (i := 4) sc__law_pots.nd rfl (Or.inl rfl))) (fun _ _ _ _ _ => pts_nil) (fun _ _ _ _ _ => (pcall T.d__law_pot G__law_pot (hr.mono (by decide)) rfl (pa_cons (pv 0) (pa_cons (pv 1) (pa_cons (pv 3) pa_nil))))))))), ?_⟩
    refine fun cd hcd => ?_
    have s0 : Same H (upd H cd (.dK [])) := Same.new hcd
    have hc0 : upd H cd (.dK []) cd = some (.dK []) := upd_same
    generalize upd H cd (.dK []) = H0 at s0 hc0 ⊢
    have ncb : cd ≠ b := hb.ne hcd
    walk_at "go"
    refine ⟨hb.same s0, by decide, by decide, fun r H1 r0 r1 f1 b1 => ?_⟩
    obtain ⟨m, rfl⟩ : ∃ m : Nat, r = (m : Int) := ⟨r.toNat, by omega⟩
    have fH1 : Fb b H H1 := Fb.sT s0 f1
    have hc1 := f1 _ _ ncb hc0
    have hp1 : Dv H1 (palD p) v := (hp.same s0).box f1 (hb.same s0) (clPal p)
    walk_at "go"
    refine ⟨by omega, by omega, ?_⟩
    rw [Int.toNat_natCast]
    refine lcB m (fun D i acc H2 => acc.length = i ∧ Fb b H H2 ∧ Bx H2 b ∧ Dv H2 (palD p) v ∧ H2 D = some (.lst acc) ∧ (∃ kvs, H2 cd = some (.dK kvs) ∧ AllI kvs ∧ kvs.length ≤ 9 * i) ∧ ∃ tss : List (List Trn), Paired (PotAt D b cd H2) tss acc ∧ ∀ ts ∈ tss, PotOk p ts ∧ ts.length ≤ 9) ?_ ?_ ?_ ?_ ?_
    · intro D hD
      exact ⟨rfl, fH1.mut (fH1.free b1 hD), b1.upd (b1.ne hD), hp1.same (Same.new hD), upd_same, ⟨[], by rw [upd_ne (ne_of_none hc1 hD)]; exact hc1, (fun e he => nomatch he), Nat.zero_le _⟩, [], .nil, by simp⟩
    · rintro D i acc H2 hi ⟨h1, _⟩
      rw [sizeLine_eq]; omega
    · rintro D i acc H2 _ hi _
      exact hi
    · rintro D i acc x H2 H3 N M hD hi ⟨e1, f2, b2, p2, d2, ⟨kvs, hc2, ha2, hk2⟩, tss, hts, hok⟩ hy hN
      obtain ⟨rfl, rfl⟩ := hy
      walk_at "go"
      refine ⟨b, v, cd, p, kvs, rfl, b2, p2, hpo, hc2, ha2, by omega, fun q ts xs kvs' H4 hq f4 b4 hc4 ha4 hk4 hq4 dq4 ok4 l4 => ?_⟩
      have nD : D ≠ b := b1.ne hD
      have nDc : cd ≠ D := ne_of_none hc1 hD
      have d4 := f4 _ _ nD nDc.symm d2
      have nqD : q ≠ D := fun z => by rw [z, d2] at hq; cases hq
      have nqb : q ≠ b := b2.ne hq
      have nqc : q ≠ cd := fun z => by rw [z, hc2] at hq; cases hq
      have hcH : H cd = none := hcd
      have f4' : Fb b H H4 := fun a o na e => f4 a o na (ne_of_none e hcH) (f2 a o na e)
      have hDH : H D = none := fH1.free b1 hD
      refine hN _ _ d4 ⟨by rw [List.length_append, e1]; rfl, f4'.mut hDH, b4.upd nD, (f4.dv b2 hc2 (clPal p) p2).upd (notup_l d4) (noPal p), upd_same, ⟨kvs', by rw [upd_ne nDc]; exact hc4, ha4, by omega⟩, tss ++ [ts], ?_, fun y hy => ?_⟩
      · exact paired_app (paired_imp (fun t y h => (h.f2 f4 b2 hc2).upd d4) hts) (.cons (PotAt.upd d4 ⟨q, xs, rfl, nqD, nqb, nqc, hq4, dq4⟩) .nil)
      · rcases List.mem_append.mp hy with q | q
        · exact hok y q
        · rw [List.mem_singleton.mp q]
          exact ⟨ok4, l4⟩
    rintro D acc H2 hD ⟨e1, f2, b2, p2, d2, _, tss, hts, hok⟩
    refine ⟨Nat.le_refl _, ?_⟩
    have hl : tss.length = acc.length := hts.length
    walk_at "go"
    exact k D tss H2 f2 b2 (list_mk d2 (pots_dv hts)) (by omega) hok
end
end K83
set_option maxRecDepth 100000
set_option maxHeartbeats 4000000
namespace K83
open PySem PySem.Spec PyProof.Rows L2
local macro_rules | `(tactic| walk_at "nz") => `(tactic| dsimp -proj only [L2.start, wipe, List.map_cons, List.map_nil, List.set, List.length, List.replicate, List.cons_append, List.nil_append, Nat.reduceSub, Nat.reduceAdd])
local macro_rules | `(tactic| walk_at "gg") => `(tactic| repeat (first | refine ⟨rfl, ?_⟩ | refine ⟨_, rfl, ?_⟩ | refine ⟨_, _, rfl, ?_⟩ | refine ⟨_, _, rfl, rfl, ?_⟩))
local macro_rules | `(tactic| walk_at "go") => `(tactic| ((try walk_at "nz"); walk_at "gg"; (try walk_at "nz")))
theorem lay_trn {t : Trn} (h : sOk t.col) : PyData.canLay0 (trnD t) = true ∧ (trnD t).depth ≤ 2 := by
  simp [trnD, PyData.canLay0, PyData.canLayAll0, PyData.depth, PyData.depthAll, show PyData.strOk t.col = true from h]
theorem lay_trn1 {t : Trn} (h : sOk t.col) : PyData.canLay0 (trnD t) = true ∧ (trnD t).depth ≤ 1 := by
  simp [trnD, PyData.canLay0, PyData.canLayAll0, PyData.depth, PyData.depthAll, show PyData.strOk t.col = true from h]
theorem lay_all1 : ∀ {ds : List PyData}, (∀ d ∈ ds, PyData.canLay0 d = true ∧ d.depth ≤ 1) → PyData.canLayAll0 ds = true ∧ PyData.depthAll ds ≤ 1
  | [], _ => ⟨rfl, Nat.zero_le _⟩
  | d :: ds, h => by
    obtain ⟨h1, h2⟩ := lay_all1 fun x hx => h x (List.mem_cons_of_mem _ hx)
    obtain ⟨h3, h4⟩ := h d List.mem_cons_self
    refine ⟨by rw [PyData.canLayAll0, h1, h3]; rfl, ?_⟩
    rw [PyData.depthAll]
    exact Nat.max_le.mpr ⟨h4, h2⟩
theorem lay_trns {ts : List Trn} (h : ∀ t ∈ ts, sOk t.col) : PyData.canLay0 (trnsD ts) = true ∧ (trnsD ts).depth ≤ 2 := by
  obtain ⟨h1, h2⟩ := lay_all1 (ds := ts.map trnD) fun d hd => by
    obtain ⟨t, ht, rfl⟩ := List.mem_map.mp hd
    exact lay_trn1 (h t ht)
  unfold trnsD
  rw [PyData.canLay0, PyData.depth]
  exact ⟨h1, by omega⟩
theorem sh_pots {pots : List (List Trn)} (h : ∀ ts ∈ pots, ∀ t ∈ ts, sOk t.col) : SeqAt.shaped (.list (pots.map trnsD)) = true := sh_list fun d hd => by
  obtain ⟨ts, hts, rfl⟩ := List.mem_map.mp hd
  exact lay_trns (h ts hts)
theorem sh_trns {ts : List Trn} (h : ∀ t ∈ ts, sOk t.col) : SeqAt.shaped (.list (ts.map trnD)) = true := sh_list fun d hd => by
  obtain ⟨t, ht, rfl⟩ := List.mem_map.mp hd
  exact lay_trn (h t ht)
theorem PotOk.sok {p : Pal} {ts : List Trn} (o : PotOk p ts) (hp : POk p) : ∀ t ∈ ts, sOk t.col := fun t ht => by
  obtain ⟨c, hc, _⟩ := o.col t ht
  exact hp.ok hc
theorem joinP {b : Addr} {H : Hp} {p : Pal} {G : Addr → Hp → Prop} {X : Prop} (use : (∀ ph (ts : List Trn) xs H1, Fb b H H1 → Bx H1 b → H1 ph = some (.lst xs) → DvAll H1 (ts.map trnD) xs → PotOk p ts → G ph H1) → X)
    (prf : ∀ ph (ts : List Trn) xs H1, Fb b H H1 → Bx H1 b → H1 ph = some (.lst xs) → DvAll H1 (ts.map trnD) xs → PotOk p ts → G ph H1) : X := use prf
theorem joinF {b : Addr} {H : Hp} {G : Hp → Prop} {X : Prop} (use : (∀ H1, Fb b H H1 → Bx H1 b → G H1) → X) (prf : ∀ H1, Fb b H H1 → Bx H1 b → G H1) : X := use prf
theorem mn_le {i j : Int} : mn i j ≤ i ∧ mn i j ≤ j ∧ (mn i j = i ∨ mn i j = j) := by unfold mn; split <;> omega
theorem mx_ge {i j : Int} : i ≤ mx i j ∧ j ≤ mx i j ∧ (mx i j = i ∨ mx i j = j) := by unfold mx; split <;> omega
theorem PotOk.nil {p : Pal} : PotOk p [] := ⟨Nat.zero_le _, by simp, by simp, by simp⟩
def spTeam : Sp := fun vs H Q _ => ∃ (b : Addr) (v u : V) (nm : Str) (p : Pal) (pots : List (List Trn)), vs = [.ref b, v, u, .str nm] ∧ Bx H b ∧ Dv H (palD p) v ∧ Dv H (potsD pots) u ∧ POk p ∧ pots.length ≤ 50 ∧ (∀ ts ∈ pots, PotOk p ts) ∧
  ∀ a (col : Str) (f l : Int) H', H a = none → Fb b H H' → Bx H' b → H' a = some (.tup [.str nm, .str col, .int f, .int l]) → (∃ c, p.find col = some c) → 0 ≤ f → f ≤ l → l ≤ 60 → Q (.ref a) H'
section
variable {P : Program} {w : World} {K : PySem.W.Frag} {mg : Str → Option Value} {base : Heap} {A : Nat → Addr} {D : Nat → FuncData} {C : Addr} {tk : Tok}
theorem sc__law_team : FnScope ["_law_box_here", "_law_palette_here", "_law_pots_here", "_law_name", "_law_pot_here", "_law_first", "_law_colour", "_law_at", "_law_begin", "_law_end", "_law_last"] ["_law_box_here", "_law_palette_here", "_law_pots_here", "_law_name"] (defScope (topS 40)) := ⟨rfl, rfl, rfl, by decide +kernel, rfl, by decide +kernel, by decide +kernel⟩
theorem ok_team (T : Tx K mg A D C tk) : FnOk P w K mg base CX0 2 (A 40) (D 40) ["_law_box_here", "_law_palette_here", "_law_pots_here", "_law_name"] spTeam := by
  have G__law_take : FnOk P w K mg base CX0 1 (A 33) (D 33) _ _ := ok_ltake T
  refine T.d__law_team.fn.ok sc__law_team (fun vs H Q E h => ?_) (fun cdv A0 outer s H vs Q E hr h => ?_)
  · obtain ⟨b, v, u, nm, p, pots, rfl, _⟩ := h
    rfl
  · obtain ⟨b, v, u, nm, p, pots, rfl, hb, hp, hu, hpo, hpl, hok, k⟩ := h
    obtain ⟨au, xu, rfl, hau, hxu⟩ := list_of hu
    have hul := hxu.lenM
    refine ⟨_, (pss_cons (ps_set (i := 4) sc__law_team.nd rfl (Or.inl rfl) (pe_ifExp (pt_cmpR (neDt K hr.units) (pv 2) (pe_lst pa_nil) (nomark _)) (pe_ix (ixL K) (pv 2) (pcall T.d__law_take G__law_take (hr.mono (by decide)) rfl (pa_cons (pv 0) (pa_cons (pe_callB (lenS K) (by rfl) T.len (by decide +kernel) (pa_cons (pv 2) pa_nil)) pa_nil))) (fun _ _ => rfl)) (pe_lst pa_nil)))
 (pss_cons (ps_if (PW.pt (pw_or (pt_cmpR (eqDt K hr.units) (pv 4) (pe_lst pa_nil) (nomark _)) (pw_or1 (pt_cmpR op_eq (pcall T.d__law_take G__law_take (hr.mono (by decide)) rfl (pa_cons (pv 0) (pa_cons pe_int pa_nil))) pe_int (nomark _))))) (pss_cons (ps_set (i := 5) sc__law_team.nd rfl (Or.inl rfl) (pcall T.d__law_take G__law_take (hr.mono (by decide)) rfl (pa_cons (pv 0) (pa_cons pe_int pa_nil))))
 (pss_cons (ps_set (i := 6) sc__law_team.nd rfl (Or.inl rfl) (pe_ix (ixT K) (pe_ix (ixT K) (pe_ix (ixT K) (pv 1) pe_int (fun _ _ => rfl)) (pcall T.d__law_take G__law_take (hr.mono (by decide)) rfl (pa_cons (pv 0) (pa_cons (pe_callB (lenS K) (by rfl) T.len (by decide +kernel) (pa_cons (pe_ix (ixT K) (pv 1) pe_int (fun _ _ => rfl)) pa_nil)) pa_nil))) (fun _ _ => rfl)) pe_int (fun _ _ => rfl)))
 (pss_one (ps_ret (pe_tup (pa_cons (pv 3) (pa_cons (pv 6) (pa_cons (pv 5) (pa_cons (pe_op op_add (pe_op op_add (pv 5) pe_int) (pcall T.d__law_take G__law_take (hr.mono (by decide)) rfl (pa_cons (pv 0) (pa_cons (pe_callB (call_min2 rfl) (by rfl) T.min (by decide +kernel) (pa_cons (pe_op op_sub pe_int (pv 5)) (pa_cons (pe_ix (ixL K) (pe_lst (pa_cons pe_int (pa_cons pe_int pa_nil))) (pcall T.d__law_take G__law_take (hr.mono (by decide)) rfl (pa_cons (pv 0) (pa_cons pe_int pa_nil))) (fun _ _ => rfl)) pa_nil))) pa_nil)))) pa_nil))))))))) pss_nil)
 (pss_cons (ps_asg (pe_ix (ixL K) (pv 4) (pcall T.d__law_take G__law_take (hr.mono (by decide)) rfl (pa_cons (pv 0) (pa_cons (pe_callB (lenS K) (by rfl) T.len (by decide +kernel) (pa_cons (pv 4) pa_nil)) pa_nil))) (fun _ _ => rfl)) (pgT K 4 rfl (pgs_cons (pg_name (i := 7) sc__law_team.nd rfl (Or.inl rfl)) (pgs_cons (pg_name (i := 6) sc__law_team.nd rfl (Or.inl rfl)) (pgs_cons (pg_name (i := 8) sc__law_team.nd rfl (Or.inl rfl)) (pgs_cons (pg_name (i := 9) sc__law_team.nd rfl (Or.inl rfl)) pgs_nil))))))
 (pss_cons (ps_set (i := 5) sc__law_team.nd rfl (Or.inl rfl) (pe_op op_add (pv 8) (pcall T.d__law_take G__law_take (hr.mono (by decide)) rfl (pa_cons (pv 0) (pa_cons (pe_op op_sub (pv 9) (pv 8)) pa_nil)))))
 (pss_cons (ps_set (i := 10) sc__law_team.nd rfl (Or.inl rfl) (pe_op op_add (pe_op op_add (pv 5) pe_int) (pcall T.d__law_take G__law_take (hr.mono (by decide)) rfl (pa_cons (pv 0) (pa_cons (pe_op op_sub (pv 9) (pv 5)) pa_nil)))))
 (pss_cons (ps_if (pt_cmpR op_eq (pcall T.d__law_take G__law_take (hr.mono (by decide)) rfl (pa_cons (pv 0) (pa_cons pe_int pa_nil))) pe_int (nomark _)) (pss_one (ps_ret (pe_tup (pa_cons (pv 3) (pa_cons (pv 6) (pa_cons (pe_callB (call_max2 rfl) (by rfl) T.max (by decide +kernel) (pa_cons pe_int (pa_cons (pe_op op_sub (pv 5) pe_int) pa_nil))) (pa_cons (pv 10) pa_nil))))))) pss_nil)
 (pss_one (ps_ret (pe_tup (pa_cons (pv 3) (pa_cons (pv 6) (pa_cons (pv 5) (pa_cons (pe_callB (call_min2 rfl) (by rfl) T.min (by decide +kernel) (pa_cons pe_int (pa_cons (pe_op op_add (pv 10) (pe_callTy call_int1 (by rfl) T.int (by decide +kernel) (pa_cons (pe_cmpR op_eq (pcall T.d__law_take G__law_take (hr.mono (by decide)) rfl (pa_cons (pv 0) (pa_cons pe_int pa_nil))) pe_int (nomark _)) pa_nil))) pa_nil))) pa_nil))))))))))))), ?_⟩
    refine' joinP (b := b) (H := H) (p := p) (fun fin => ?_) ?_
    rotate_left
    · walk_at "go"
      refine ⟨Nat.zero_le _, fun l0 hl0 => ?_⟩
      have s0 : Same H (upd H l0 (.lst [])) := Same.new hl0
      refine ⟨_, _, .lst (SqL.of (s0 _ _ hau)) (DvAll.dp (hxu.same s0)), .lst (SqL.of upd_same) .nil, sh_pots fun ts h => (hok ts h).sok hpo, rfl, ?_⟩
      rw [eqv_nil]
      generalize upd H l0 (.lst []) = H0 at s0 ⊢
      have hb0 := hb.same s0
      refine ⟨_, rfl, ?_⟩
      by_cases hne : pots = []
      · have e : (!(pots.map trnsD).isEmpty) = false := by rw [hne]; rfl
        rw [e]
        refine iteF ?_
        walk_at "go"
        refine ⟨Nat.zero_le _, fun l1 hl1 => ?_⟩
        have s1 : Same H (upd H0 l1 (.lst [])) := Same.new' s0 hl1
        have h1 : upd H0 l1 (.lst []) l1 = some (.lst []) := upd_same
        generalize upd H0 l1 (.lst []) = H1 at s1 h1 ⊢
        exact fin l1 [] [] H1 (Same.fb s1 b) (hb.same s1) h1 rfl PotOk.nil
      · have hpp : 0 < pots.length := List.length_pos_iff.mpr hne
        have e : (!(pots.map trnsD).isEmpty) = true := by
          rw [Bool.not_eq_true', List.isEmpty_eq_false_iff]
          exact fun z => hne (List.map_eq_nil_iff.mp z)
        rw [e]
        refine iteT ?_
        walk_at "go"
        refine ⟨_, _, rfl, .inl (SqL.of (s0 _ _ hau)), ?_⟩
        walk_at "go"
        refine ⟨hb0, by omega, by omega, fun r H1 r0 r1 f1 b1 => ?_⟩
        obtain ⟨n, hrn⟩ : ∃ m : Nat, r = (m : Int) := ⟨r.toNat, by omega⟩
        have hnl : n < pots.length := by omega
        obtain ⟨x, hx, dx⟩ := hxu.of (List.getElem?_eq_getElem hnl)
        have nau : au ≠ b := fun z => by
          obtain ⟨x1, y1, q1, e1⟩ := hb
          rw [z, e1] at hau
          have h2 := Option.some.inj hau
          have h3 : [V.int x1, .int y1, .int q1] = xu := by injection h2
          rw [← h3] at hx
          obtain ⟨_, _, z2, _⟩ := dx
          rw [z2] at hx
          have hm := List.mem_of_getElem? hx
          simp at hm
        have hokn := hok _ (List.getElem_mem hnl)
        have dx1 := (dx.same s0).box f1 hb0 (clTrns _)
        obtain ⟨ph, xs, ex, hph, hxs⟩ := list_of dx1
        refine ⟨_, _, _, _, rfl, rfl, SqL.of (f1 _ _ nau (s0 _ _ hau)), by rw [hrn]; exact atI_nat hx, ?_⟩
        rw [ex]
        exact fin ph pots[n] xs H1 (Fb.sT s0 f1) b1 hph hxs hokn
    · intro ph ts xs H1 f1 b1 hph hxs hts
      have hp1 := hp.box f1 hb (clPal p)
      have hxl := hxs.lenM
      have htl := hts.len
      walk_at "go"
      refine' joinF (b := b) (H := H) (fun fin => ?_) ?_
      rotate_left
      · refine ⟨Nat.zero_le _, fun l0 hl0 => ?_⟩
        have s0 : Same H1 (upd H1 l0 (.lst [])) := Same.new hl0
        refine ⟨_, _, .lst (SqL.of (s0 _ _ hph)) (DvAll.dp (hxs.same s0)), .lst (SqL.of upd_same) .nil, sh_trns (hts.sok hpo), rfl, ?_⟩
        rw [eqv_nil]
        generalize upd H1 l0 (.lst []) = H2 at s0 ⊢
        have b2 := b1.same s0
        have f2 := f1.tS s0
        refine ⟨_, rfl, ?_⟩
        by_cases hne : ts = []
        · have e : (ts.map trnD).isEmpty = true := by rw [hne]; rfl
          rw [e]
          exact iteT (iteT (fin H2 f2 b2))
        · have htp : 0 < ts.length := List.length_pos_iff.mpr hne
          have e : (ts.map trnD).isEmpty = false := by
            rw [List.isEmpty_eq_false_iff]
            exact fun z => hne (List.map_eq_nil_iff.mp z)
          rw [e]
          refine iteF ?_
          walk_at "go"
          refine ⟨b2, by decide, by decide, fun r H3 r0 r1 f3 b3 => ?_⟩
          have f3' := f2.trans f3
          walk_at "go"
          refine ite2 (fun z => fin H3 f3' b3) (fun z => ?_)
          clear fin
          have hxs2 := hxs.same s0
          have hph2 := s0 _ _ hph
          have nph : ph ≠ b := fun z => by
            obtain ⟨x1, y1, q1, e1⟩ := b2
            rw [z, e1] at hph2
            have h3 : [V.int x1, .int y1, .int q1] = xs := by injection Option.some.inj hph2
            obtain ⟨x, hx, dx⟩ := hxs.of (List.getElem?_eq_getElem htp)
            obtain ⟨_, rfl, _⟩ := trn_of dx
            rw [← h3] at hx
            have hm := List.mem_of_getElem? hx
            simp at hm
          have hph3 := f3 _ _ nph hph2
          have hxs3 := hxs2.box f3 b2 (cleanAll_map clT _)
          walk_at "go"
          refine ⟨_, _, rfl, .inl (SqL.of hph3), ?_⟩
          walk_at "go"
          refine ⟨b3, by omega, by omega, fun ri H4 a0 a1 f4 b4 => ?_⟩
          obtain ⟨n, hrn⟩ : ∃ m : Nat, ri = (m : Int) := ⟨ri.toNat, by omega⟩
          have hnl : n < ts.length := by omega
          obtain ⟨x, hx, dx⟩ := (hxs3.box f4 b3 (cleanAll_map clT _)).of (List.getElem?_eq_getElem hnl)
          obtain ⟨ta, rfl, hta⟩ := trn_of dx
          obtain ⟨g1, g2, g3⟩ := hts.rng _ (List.getElem_mem hnl)
          obtain ⟨cc, hcc, _⟩ := hts.col _ (List.getElem_mem hnl)
          generalize ts[n] = t at hta g1 g2 g3 hcc
          refine ⟨_, _, _, _, rfl, rfl, SqL.of (f4 _ _ nph hph3), by rw [hrn]; exact atI_nat hx, ?_⟩
          refine ⟨ta, _, rfl, SqT.of hta, rfl, ?_⟩
          have f4' := f3'.trans f4
          walk_at "go"
          refine ⟨b4, by omega, by omega, fun rf H5 c0 c1 f5 b5 => ?_⟩
          have f5' := f4'.trans f5
          walk_at "go"
          refine ⟨b5, by omega, by omega, fun rl H6 d0 d1 f6 b6 => ?_⟩
          have f6' := f5'.trans f6
          walk_at "go"
          refine ⟨b6, by decide, by decide, fun r8 H7 e0 e1 f7 b7 => ?_⟩
          have f7' := f6'.trans f7
          walk_at "go"
          refine ite2 (fun z => ?_) (fun z => ?_)
          · walk_at "go"
            refine ⟨by show 4 ≤ sizeLine; decide, fun t4 ht4 => ?_⟩
            have hm := @mx_ge 0 (t.b + rf - 1)
            exact k t4 t.col (mx 0 (t.b + rf - 1)) (t.b + rf + 1 + rl) _ (f7'.free b7 ht4) (f7'.tS (Same.new ht4)) (b7.same (Same.new ht4)) upd_same ⟨cc, hcc⟩ (by omega) (by omega) (by omega)
          · walk_at "go"
            refine ⟨b7, by decide, by decide, fun r9 H8 h0 h1 f8 b8 => ?_⟩
            have f8' := f7'.trans f8
            walk_at "go"
            refine .inr ⟨_, rfl, ?_⟩
            walk_at "go"
            refine ⟨by show 4 ≤ sizeLine; decide, fun t4 ht4 => ?_⟩
            have hb01 : ∀ bb : Bool, 0 ≤ (if bb = true then (1 : Int) else 0) := fun bb => by cases bb <;> decide
            have hm := @mn_le 60 (t.b + rf + 1 + rl + if decide (V.int r9 = V.int 0) = true then 1 else 0)
            have hbb := hb01 (decide (V.int r9 = V.int 0))
            exact k t4 t.col (t.b + rf) (mn 60 (t.b + rf + 1 + rl + if decide (V.int r9 = V.int 0) = true then 1 else 0)) _ (f8'.free b8 ht4) (f8'.tS (Same.new ht4)) (b8.same (Same.new ht4)) upd_same ⟨cc, hcc⟩ (by omega) (by omega) (by omega)
      · intro H2 f2 b2
        have hp2 := hp.box f2 hb (clPal p)
        have hcl := hpo.len
        have hcp : 0 < p.cs.length := List.length_pos_iff.mpr hpo.ne
        walk_at "go"
        refine ⟨b2, by decide, by decide, fun rf H3 a0 a1 f3 b3 => ?_⟩
        have f3' := f2.trans f3
        have hp3 := hp2.box f3 b2 (clPal p)
        obtain ⟨pa, pb, pd, xs3, ys3, rfl, hpa, hpb, hbs, hpd, hds⟩ := pal_of hp3
        have hcsl := hbs.lenM
        walk_at "go"
        refine ⟨_, _, _, _, rfl, rfl, SqT.of hpa, rfl, ?_⟩
        walk_at "go"
        refine ⟨_, _, _, _, rfl, rfl, SqT.of hpa, rfl, ?_⟩
        walk_at "go"
        refine ⟨_, _, rfl, .inr (SqT.of hpb), ?_⟩
        walk_at "go"
        refine ⟨b3, by omega, by omega, fun ri H4 c0 c1 f4 b4 => ?_⟩
        have f4' := f3'.trans f4
        obtain ⟨n, hrn⟩ : ∃ m : Nat, ri = (m : Int) := ⟨ri.toNat, by omega⟩
        have hnl : n < p.cs.length := by omega
        obtain ⟨x, hx, dx⟩ := (hbs.box f4 b3 (cleanAll_map clC _)).of (List.getElem?_eq_getElem hnl)
        obtain ⟨ca, rfl, hca⟩ := col_of dx
        have hfc := find_at hpo (List.getElem?_eq_getElem hnl)
        generalize p.cs[n] = cc at hca hfc
        have npb : pb ≠ b := fun z => by
          obtain ⟨x1, y1, q1, e1⟩ := b3
          rw [z, e1] at hpb
          cases hpb
        refine ⟨_, _, _, _, rfl, rfl, SqT.of (f4 _ _ npb hpb), by rw [hrn]; exact atI_nat hx, ?_⟩
        walk_at "go"
        refine ⟨_, _, _, _, rfl, rfl, SqT.of hca, rfl, ?_⟩
        walk_at "go"
        refine ⟨by show 2 ≤ sizeLine; decide, fun l2 hl2 => ?_⟩
        have s5 : Same H4 (upd H4 l2 (.lst [.int 2, .int 60])) := Same.new hl2
        have hl5 : upd H4 l2 (.lst [.int 2, .int 60]) l2 = some (.lst [.int 2, .int 60]) := upd_same
        have nl2 : l2 ≠ b := b4.ne hl2
        have b5 := b4.same s5
        have f5' := f4'.tS s5
        generalize upd H4 l2 (.lst [.int 2, .int 60]) = H5 at s5 hl5 b5 f5' ⊢
        walk_at "go"
        refine ⟨b5, by decide, by decide, fun r6 H6 d0 d1 f6 b6 => ?_⟩
        obtain ⟨g, hg, ga⟩ := at2 (x := 2) (y := 60) d0 d1
        refine ⟨_, _, _, _, rfl, rfl, SqL.of (f6 _ _ nl2 hl5), ga, ?_⟩
        have f6' := f5'.trans f6
        have hm := @mn_le (60 - rf) g
        walk_at "go"
        refine ⟨b6, by show 1 ≤ mn (60 - rf) g; omega, by show mn (60 - rf) g ≤ 100000; omega, fun r7 H7 e0 e1 f7 b7 => ?_⟩
        have e1' : r7 < mn (60 - rf) g := e1
        have f7' := f6'.trans f7
        walk_at "go"
        refine ⟨by show 4 ≤ sizeLine; decide, fun t4 ht4 => ?_⟩
        exact k t4 cc.name rf (rf + 1 + r7) _ (f7'.free b7 ht4) (f7'.tS (Same.new ht4)) (b7.same (Same.new ht4)) upd_same ⟨cc, hfc⟩ a0 (by omega) (by omega)
end
end K83
set_option maxRecDepth 100000
set_option maxHeartbeats 4000000
namespace K83
open PySem PySem.Spec PyProof.Rows L2
local macro_rules | `(tactic| walk_at "nz") => `(tactic| dsimp -proj only [L2.start, wipe, List.map_cons, List.map_nil, List.set, List.length, List.replicate, List.cons_append, List.nil_append, Nat.reduceSub, Nat.reduceAdd])
local macro_rules | `(tactic| walk_at "gg") => `(tactic| repeat (first | refine ⟨rfl, ?_⟩ | refine ⟨_, rfl, ?_⟩ | refine ⟨_, _, rfl, ?_⟩ | refine ⟨_, _, rfl, rfl, ?_⟩))
local macro_rules | `(tactic| walk_at "go") => `(tactic| ((try walk_at "nz"); walk_at "gg"; (try walk_at "nz")))
abbrev QT := (Nat × Nat) × Trn
def turnsOf (q : List Trn × Nat) : List QT := q.1.zipIdx.map fun z => ((q.2, z.2), z.1)
def allT (pots : List (List Trn)) : List QT := pots.zipIdx.flatMap turnsOf
def qtD (z : QT) : PyData := trnD z.2
theorem noQ (z : QT) : noList (qtD z) = true := rfl
theorem clQ (z : QT) : clean (qtD z) = true := rfl
theorem turnsOf_map (q : List Trn × Nat) : (turnsOf q).map qtD = q.1.map trnD := by
  unfold turnsOf
  rw [List.map_map]
  have : (qtD ∘ fun z : Trn × Nat => ((q.2, z.2), z.1)) = trnD ∘ Prod.fst := rfl
  rw [this, ← List.map_map, List.zipIdx_map_fst]
theorem allT_nd (pots : List (List Trn)) : ((allT pots).map (·.1)).Nodup := by
  unfold allT List.Nodup
  rw [List.pairwise_map, List.pairwise_flatMap]
  refine ⟨fun q _ => ?_, (zip_pw pots).imp fun {a b} hab x hx y hy z => ?_⟩
  · unfold turnsOf
    rw [List.pairwise_map]
    refine (zip_pw q.1).imp fun {a b} hab z => ?_
    have := congrArg Prod.snd z
    simp only at this
    omega
  · obtain ⟨u, _, rfl⟩ := List.mem_map.mp hx
    obtain ⟨w, _, rfl⟩ := List.mem_map.mp hy
    have := congrArg Prod.fst z
    simp only at this
    omega
theorem allT_at {pots : List (List Trn)} {z : QT} (h : z ∈ allT pots) : ∃ ts, pots[z.1.1]? = some ts ∧ ts[z.1.2]? = some z.2 := by
  obtain ⟨⟨ts, i⟩, h1, h2⟩ := List.mem_flatMap.mp h
  obtain ⟨⟨t, j⟩, h3, rfl⟩ := List.mem_map.mp h2
  obtain ⟨k, hk⟩ := List.mem_iff_getElem?.mp h1
  obtain ⟨k2, hk2⟩ := List.mem_iff_getElem?.mp h3
  obtain ⟨e1, rfl⟩ := zip_mem hk
  obtain ⟨e2, rfl⟩ := zip_mem hk2
  exact ⟨ts, e1, e2⟩
theorem erase_perm {α : Type} : ∀ (l : List α) (k : Nat) (h : k < l.length), (l[k] :: l.eraseIdx k).Perm l
  | a :: l, 0, h => List.Perm.refl _
  | a :: l, k + 1, h => (List.Perm.swap a _ _).trans ((erase_perm l k (Nat.lt_of_succ_lt_succ h)).cons a)
structure OwnS (p : Pal) (pots : List (List Trn)) (nms : List Str) (i : Nat) (rem : List QT) (qs : List (Nat × Nat)) (tms : List Tm) : Prop where
  nd : (qs ++ rem.map (·.1)).Nodup
  at_ : ∀ z ∈ rem, ∃ ts, pots[z.1.1]? = some ts ∧ ts[z.1.2]? = some z.2
  own : Paired (Own1 p pots) tms qs
  sub : (tms.map (·.name)).Sublist (nms.take i)
  fd : ∀ tm ∈ tms, ∃ c, p.find tm.col = some c
  ok : TmOk tms
  len : tms.length ≤ i
theorem take_sub {α : Type} (l : List α) (i : Nat) : (l.take i).Sublist (l.take (i + 1)) := by
  rw [List.take_add_one]
  exact List.sublist_append_left _ _
theorem OwnS.skip {p : Pal} {pots : List (List Trn)} {nms : List Str} {i : Nat} {rem : List QT} {qs : List (Nat × Nat)} {tms : List Tm} (s : OwnS p pots nms i rem qs tms) : OwnS p pots nms (i + 1) rem qs tms :=
  { s with sub := s.sub.trans (take_sub _ _), len := by have := s.len; omega }
theorem OwnS.add {p : Pal} {pots : List (List Trn)} {nms : List Str} {i : Nat} {rem : List QT} {qs : List (Nat × Nat)} {tms : List Tm} (s : OwnS p pots nms i rem qs tms) {k : Nat} (hk : k < rem.length) {nm : Str} (hn : nms[i]? = some nm) {f l g : Int} {c : Col}
    (hok : ∀ ts ∈ pots, PotOk p ts) (hc : p.find rem[k].2.col = some c) (h1 : rem[k].2.b ≤ f) (h2 : f ≤ l) (h3 : l ≤ rem[k].2.e) (h4 : l - f ≤ c.gathers) : OwnS p pots nms (i + 1) (rem.eraseIdx k) (qs ++ [rem[k].1]) (tms ++ [⟨nm, rem[k].2.col, f, l⟩]) := by
  obtain ⟨ts, g1, g2⟩ := s.at_ rem[k] (List.getElem_mem hk)
  obtain ⟨r1, r2, r3⟩ := (hok ts (List.mem_of_getElem? g1)).rng _ (List.mem_of_getElem? g2)
  have hgo : gOf p rem[k].2.col = c.gathers := by unfold gOf; rw [hc]; rfl
  refine ⟨?_, fun z hz => s.at_ z (List.mem_of_mem_eraseIdx hz), paired_app s.own (.cons ⟨ts, rem[k].2, g1, g2, rfl, h1, h3, by show l - f ≤ gOf p rem[k].2.col; omega⟩ .nil), ?_, fun tm h => ?_, fun tm h => ?_, by rw [List.length_append]; have := s.len; show tms.length + 1 ≤ _; omega⟩
  · have pm : (rem[k] :: rem.eraseIdx k).Perm rem := erase_perm rem k hk
    have pm2 : (rem[k].1 :: (rem.eraseIdx k).map (·.1)).Perm (rem.map (·.1)) := pm.map fun z : QT => z.1
    rw [List.append_assoc]
    exact ((List.Perm.append_left qs pm2).nodup_iff).mpr s.nd
  · rw [List.map_append, List.take_add_one, hn]
    exact s.sub.append (List.Sublist.refl _)
  · rcases List.mem_append.mp h with q | q
    · exact s.fd tm q
    · rw [List.mem_singleton.mp q]; exact ⟨c, hc⟩
  · rcases List.mem_append.mp h with q | q
    · exact s.ok tm q
    · rw [List.mem_singleton.mp q]
      exact ⟨by show 0 ≤ f; omega, h2, by show l ≤ 60; omega⟩
structure OwnI (b lt lo gd an : Addr) (p : Pal) (nms : List Str) (H H5 : Hp) (rem : List QT) (tms : List Tm) : Prop where
  fr : Fb b H H5
  bx : Bx H5 b
  an : H5 an = some (.lst (nms.map V.str))
  gd : H5 gd = some (.dK (gathE p))
  vt : ∃ xs, H5 lt = some (.lst xs) ∧ DvAll H5 (rem.map qtD) xs
  vo : ∃ xs, H5 lo = some (.lst xs) ∧ DvAll H5 (tms.map tmD) xs
structure OwnN (b lt lo gd an : Addr) (H : Hp) : Prop where
  n1 : lt ≠ b
  n2 : lo ≠ b
  n3 : gd ≠ b
  n4 : an ≠ b
  n5 : lt ≠ lo
  n6 : gd ≠ lt
  n7 : gd ≠ lo
  n8 : an ≠ lt
  n9 : an ≠ lo
  ht : H lt = none
  ho : H lo = none
section
variable {b lt lo gd an : Addr} {p : Pal} {nms : List Str} {H H5 H6 : Hp} {rem : List QT} {tms : List Tm}
theorem OwnI.go (I : OwnI b lt lo gd an p nms H H5 rem tms) (N : OwnN b lt lo gd an H) (f : Fb b H5 H6) (bx : Bx H6 b) : OwnI b lt lo gd an p nms H H6 rem tms := by
  obtain ⟨xs, h1, h2⟩ := I.vt
  obtain ⟨ys, h3, h4⟩ := I.vo
  exact ⟨I.fr.trans f, bx, f _ _ N.n4 I.an, f _ _ N.n3 I.gd, ⟨xs, f _ _ N.n1 h1, h2.box f I.bx (cleanAll_map clQ _)⟩, ⟨ys, f _ _ N.n2 h3, h4.box f I.bx (cleanAll_map clTm _)⟩⟩
theorem OwnI.same (I : OwnI b lt lo gd an p nms H H5 rem tms) (N : OwnN b lt lo gd an H) (s : Same H5 H6) : OwnI b lt lo gd an p nms H H6 rem tms := I.go N (Same.fb s b) (I.bx.same s)
theorem OwnI.pop (I : OwnI b lt lo gd an p nms H H5 rem tms) (N : OwnN b lt lo gd an H) {xs : List V} (h1 : H5 lt = some (.lst xs)) (h2 : DvAll H5 (rem.map qtD) xs) (k : Nat) : OwnI b lt lo gd an p nms H (upd H5 lt (.lst (xs.eraseIdx k))) (rem.eraseIdx k) tms := by
  obtain ⟨ys, h3, h4⟩ := I.vo
  refine ⟨I.fr.mut N.ht, I.bx.upd N.n1, by rw [upd_ne N.n8]; exact I.an, by rw [upd_ne N.n6]; exact I.gd, ⟨_, upd_same, ?_⟩, ⟨ys, by rw [upd_ne N.n5.symm]; exact h3, h4.upd (notup_l h1) (noLA noTm _)⟩⟩
  have := (h2.upd (o := .lst (xs.eraseIdx k)) (notup_l h1) (noLA noQ _)).erase k
  rwa [erase_map] at this
theorem OwnI.add (I : OwnI b lt lo gd an p nms H H5 rem tms) (N : OwnN b lt lo gd an H) {tm : Tm} {x : V} {xs : List V} (h1 : H5 lo = some (.lst xs)) (h2 : DvAll H5 (tms.map tmD) xs) (d : Dv H5 (tmD tm) x) : OwnI b lt lo gd an p nms H (upd H5 lo (.lst (xs ++ [x]))) rem (tms ++ [tm]) := by
  obtain ⟨ys, h3, h4⟩ := I.vt
  refine ⟨I.fr.mut N.ho, I.bx.upd N.n2, by rw [upd_ne N.n9]; exact I.an, by rw [upd_ne N.n7]; exact I.gd, ⟨ys, by rw [upd_ne N.n5]; exact h3, h4.upd (notup_l h1) (noLA noQ _)⟩, ⟨_, upd_same, ?_⟩⟩
  exact (h2.upd (notup_l h1) (noLA noTm _)).snocM (d.upd (notup_l h1) (noTm _))
end
theorem seqIx {n k : Nat} (h : k < n) : seqIndex? ((k : Nat) : Int) n = some k := (ixN_seq (by unfold ixN; rw [if_pos (by omega), if_pos (by omega), Int.toNat_natCast])).1
def spOwn : Sp := fun vs H Q _ => ∃ (b : Addr) (v u : V) (an : Addr) (p : Pal) (pots : List (List Trn)) (nms : List Str), vs = [.ref b, v, u, .ref an] ∧ Bx H b ∧ Dv H (palD p) v ∧ Dv H (potsD pots) u ∧ H an = some (.lst (nms.map V.str)) ∧ POk p ∧ pots.length ≤ 50 ∧ (∀ ts ∈ pots, PotOk p ts ∧ ts.length ≤ 9) ∧ nms.length ≤ 20 ∧
  ∀ q (tms : List Tm) H', Fb b H H' → Bx H' b → Dv H' (tmsD tms) (.ref q) → (tms.map (·.name)).Sublist nms → (∀ tm ∈ tms, ∃ c, p.find tm.col = some c) → TmOk tms → OwnT p pots tms → tms.length ≤ nms.length → Q (.ref q) H'
section
variable {P : Program} {w : World} {K : PySem.W.Frag} {mg : Str → Option Value} {base : Heap} {A : Nat → Addr} {D : Nat → FuncData} {C : Addr} {tk : Tok}
theorem sc__law_own_teams : FnScope ["_law_box_here", "_law_palette_here", "_law_pots_here", "_law_names_here", "_law_gathers", "_law_turns", "_law_some", "_law_found", "_law_name", "_law_at", "_law_colour", "_law_begin", "_law_end", "_law_first", "_law_row"] ["_law_box_here", "_law_palette_here", "_law_pots_here", "_law_names_here"] (defScope (topS 41)) := ⟨rfl, rfl, rfl, by decide +kernel, rfl, by decide +kernel, by decide +kernel⟩
theorem ok_own (T : Tx K mg A D C tk) : FnOk P w K mg base CX0 2 (A 41) (D 41) ["_law_box_here", "_law_palette_here", "_law_pots_here", "_law_names_here"] spOwn := by
  have G__law_take : FnOk P w K mg base CX0 1 (A 33) (D 33) _ _ := ok_ltake T
  refine T.d__law_own_teams.fn.ok sc__law_own_teams (fun vs H Q E h => ?_) (fun cdv A0 outer s H vs Q E hr h => ?_)
  · obtain ⟨b, v, u, an, p, pots, nms, rfl, _⟩ := h
    rfl
  · obtain ⟨b, v, u, an, p, pots, nms, rfl, hb, hp, hu, han, hpo, hpl, hok, hnl, k⟩ := h
    obtain ⟨au, xu, rfl, hau, hxu⟩ := list_of hu
    obtain ⟨pa, pb, pd, xs, ys, rfl, hpa, hpb, hbs, hpd, hds⟩ := pal_of hp
    refine ⟨_, (pss_cons (ps_par (i := 4) (j := 5) rfl sc__law_own_teams.nd rfl rfl (by decide) rfl rfl (pa_cons (pe_callTy (call_dictP rfl) (by rfl) T.dict (by decide +kernel) (pa_cons (pe_lc (own := [("_law_row", 14)]) rfl sc__law_own_teams.nd (piT K (pe_ix (ixT K) (pv 1) pe_int (fun _ _ => rfl))) (blkOk_by (N := ["_law_box_here", "_law_palette_here", "_law_pots_here", "_law_names_here", "_law_gathers", "_law_turns", "_law_some", "_law_found", "_law_name", "_law_at", "_law_colour", "_law_begin", "_law_end", "_law_first", "_law_row"]) (sc := defScope (topS 41)) (by decide +kernel)) (fun _ _ _ _ _ => (pg_name (i := 14) sc__law_own_teams.nd rfl (Or.inl rfl))) (fun _ _ _ _ _ => pts_nil) (fun _ _ _ _ _ => (pe_tup (pa_cons (pe_ix (ixT K) (pv 14) pe_int (fun _ _ => rfl)) (pa_cons (pe_ix (ixT K) (pv 14) pe_int (fun _ _ => rfl)) pa_nil))))) pa_nil)) (pa_cons (pe_lst pa_nil) pa_nil)) (by rfl))
 (pss_cons (ps_for PassesOwn.never rfl (piL K (pv 2)) (pg_name (i := 6) sc__law_own_teams.nd rfl (Or.inl rfl)) (pss_one (ps_expr (pe_bm PySem.F.plainAttrs_list PySem.F.slot_list_extend PySem.F.type_list_extend mt_extend (pv 5) (pa_cons (pv 6) pa_nil)))))
 (pss_cons (ps_set (i := 7) sc__law_own_teams.nd rfl (Or.inl rfl) (pe_lst pa_nil))
 (pss_cons (ps_for PassesOwn.never rfl (piL K (pv 3)) (pg_name (i := 8) sc__law_own_teams.nd rfl (Or.inl rfl)) (pss_one (ps_if (pt_cmpR (neDt K hr.units) (pv 5) (pe_lst pa_nil) (nomark _)) (pss_cons (ps_asg (pe_bm PySem.F.plainAttrs_list PySem.F.slot_list_pop PySem.F.type_list_pop mt_popAt (pv 5) (pa_cons (pcall T.d__law_take G__law_take (hr.mono (by decide)) rfl (pa_cons (pv 0) (pa_cons (pe_callB (lenS K) (by rfl) T.len (by decide +kernel) (pa_cons (pv 5) pa_nil)) pa_nil))) pa_nil)) (pgT K 4 rfl (pgs_cons (pg_name (i := 9) sc__law_own_teams.nd rfl (Or.inl rfl)) (pgs_cons (pg_name (i := 10) sc__law_own_teams.nd rfl (Or.inl rfl)) (pgs_cons (pg_name (i := 11) sc__law_own_teams.nd rfl (Or.inl rfl)) (pgs_cons (pg_name (i := 12) sc__law_own_teams.nd rfl (Or.inl rfl)) pgs_nil))))))
 (pss_cons (ps_set (i := 13) sc__law_own_teams.nd rfl (Or.inl rfl) (pe_op op_add (pv 11) (pcall T.d__law_take G__law_take (hr.mono (by decide)) rfl (pa_cons (pv 0) (pa_cons (pe_op op_sub (pv 12) (pv 11)) pa_nil)))))
 (pss_one (ps_expr (pe_bm PySem.F.plainAttrs_list PySem.F.slot_list_append PySem.F.type_list_append mt_append (pv 7) (pa_cons (pe_tup (pa_cons (pv 8) (pa_cons (pv 10) (pa_cons (pv 13) (pa_cons (pe_op op_add (pe_op op_add (pv 13) pe_int) (pcall T.d__law_take G__law_take (hr.mono (by decide)) rfl (pa_cons (pv 0) (pa_cons (pe_callB (call_min2 rfl) (by rfl) T.min (by decide +kernel) (pa_cons (pe_op op_sub (pv 12) (pv 13)) (pa_cons (pe_dget (hu_of hr) (pv 4) (pv 10) (fun _ _ => rfl)) pa_nil))) pa_nil)))) pa_nil))))) pa_nil)))))) pss_nil)))
 (pss_one (ps_ret (pv 7))))))), ?_⟩
    walk_at "go"
    refine ⟨_, _, _, _, rfl, rfl, SqT.of hpa, rfl, _, rfl, ⟨_, SqT.of hpb⟩, ?_⟩
    obtain ⟨m1, m2, m3⟩ := src_t (K := K) (e := colD) hpb hbs
    refine lcG (e' := kiD) p.cs (fun c => some (c.name, c.gathers)) (fun t x H => Dv H (colD t) x) (fun _ => rfl) (by have := hpo.len; omega) m1 m2 m3 ?_ ?_
    · intro c x H3 N M _ sm dx hy hn
      obtain ⟨e, rfl, he⟩ := col_of dx
      walk_at "go"
      refine ⟨_, _, _, _, rfl, rfl, SqT.of he, rfl, ?_⟩
      walk_at "go"
      refine ⟨_, _, _, _, rfl, rfl, SqT.of he, rfl, ?_⟩
      refine ⟨by show 2 ≤ sizeLine; decide, fun q hq => ?_⟩
      exact hy _ rfl _ _ (Same.new hq) (ki_mk (by rw [upd_same]))
    rw [fm_map]
    intro lc2 cs2 H3 hlc2 s3 hcs2 dcs2
    obtain ⟨ps2, rfl, hps2⟩ := kis_of (K := K) dcs2
    walk_at "go"
    refine ⟨lc2, ps2, _, rfl, SqL.of hcs2, hps2, fun gd hgd => ?_⟩
    have hgdH : H gd = none := s3.free hgd
    have FF : ∀ o, Same H (upd H3 gd o) ∧ upd H3 gd o gd = some o := fun o => ⟨Same.new' s3 hgd, upd_same⟩
    obtain ⟨s4, hg4⟩ := FF (.dK (mergeK [] ((p.cs.map fun c => (c.name, c.gathers)).map kiE)))
    generalize upd H3 gd (.dK (mergeK [] ((p.cs.map fun c => (c.name, c.gathers)).map kiE))) = H4 at s4 hg4 ⊢
    have hg4' : H4 gd = some (.dK (gathE p)) := hg4
    clear hg4 FF
    walk_at "go"
    refine ⟨Nat.zero_le _, fun lt hlt => ?_⟩
    refine ⟨_, _, rfl, ?_⟩
    have s5 : Same H (upd H4 lt (.lst [])) := Same.new' s4 hlt
    have hg5 : upd H4 lt (.lst []) gd = some (.dK (gathE p)) := (Same.new hlt) _ _ hg4'
    have hl5 : upd H4 lt (.lst []) lt = some (.lst []) := upd_same
    have hltH : H lt = none := s4.free hlt
    have ngl : gd ≠ lt := ne_of_none hg4' hlt
    generalize upd H4 lt (.lst []) = H5 at s5 hg5 hl5 ⊢
    walk_at "go"
    have hau5 := s5 _ _ hau
    let Pv : Nat → L2.St → Hp → Prop := fun i σ H6 => ∃ (z6 z7 z8 z9 z10 z11 z12 z13 z14 : Option V) (xs : List V), σ = [some (.ref b), some (.ref pa), some (.ref au), some (.ref an), some (.ref gd), some (.ref lt), z6, z7, z8, z9, z10, z11, z12, z13, z14] ∧
      Same H H6 ∧ H6 gd = some (.dK (gathE p)) ∧ H6 lt = some (.lst xs) ∧ DvAll H6 (((pots.zipIdx.take i).flatMap turnsOf).map qtD) xs ∧ xs.length ≤ 9 * i
    refine ⟨⟨_, SqL.of hau5⟩, forG pots.length Pv ?_ ?_ ?_ ?_⟩
    · exact ⟨_, _, _, _, _, _, _, _, _, [], rfl, s5, hg5, hl5, rfl, Nat.le_refl _⟩
    · rintro i σ H6 hi ⟨z6, z7, z8, z9, z10, z11, z12, z13, z14, xs6, rfl, s6, hg6, hl6, dl6, hll⟩
      exact (src_l (K := K) (e := trnsD) (s6 _ _ hau) (hxu.same s6)).1 i _ H6 (List.getElem?_eq_getElem hi) (Same.refl _)
    · rintro i x σ H6 H7 hi ⟨z6, z7, z8, z9, z10, z11, z12, z13, z14, xs6, rfl, s6, hg6, hl6, dl6, hll⟩ y
      have hpi : pots[i]? = some pots[i] := List.getElem?_eq_getElem hi
      obtain ⟨s7, dx⟩ := (src_l (K := K) (e := trnsD) (s6 _ _ hau) (hxu.same s6)).2.1 i _ H6 x H7 hpi (Same.refl _) y
      have hzi : pots.zipIdx[i]? = some (pots[i], i) := by rw [List.getElem?_zipIdx, hpi]; simp
      have hts9 := (hok _ (List.getElem_mem hi)).2
      generalize pots[i] = ts at dx hzi hts9
      obtain ⟨ta, zs, rfl, hta, dzs⟩ := list_of dx
      have hl7 := s7 _ _ hl6
      have dzl := dzs.lenM
      walk_at "go"
      refine ⟨tyL hl7, ?_⟩
      walk_at "go"
      refine ⟨lt, ta, _, _, rfl, rfl, hl7, hta, by rw [sizeLine_eq]; omega, ?_⟩
      refine ⟨_, _, _, _, _, _, _, _, _, xs6 ++ zs, rfl, Same.mut (s6.trans s7) hltH, by rw [upd_ne ngl]; exact s7 _ _ hg6, upd_same, ?_, by rw [List.length_append]; omega⟩
      rw [fl_snoc turnsOf hzi, List.map_append, turnsOf_map]
      exact ((dl6.same s7).upd (notup_l hl7) (noLA noQ _)).append (dzs.upd (notup_l hl7) (noLA noT _))
    · rintro σ H6 ⟨z6, z7, z8, z9, z10, z11, z12, z13, z14, xs6, rfl, s6, hg6, hl6, dl6, hll⟩
      refine ⟨(src_l (K := K) (e := trnsD) (s6 _ _ hau) (hxu.same s6)).2.2 H6 (Same.refl _), ?_⟩
      rw [List.take_of_length_le (by rw [List.length_zipIdx]; exact Nat.le_refl _)] at dl6
      have dl6' : DvAll H6 ((allT pots).map qtD) xs6 := dl6
      clear dl6
      walk_at "go"
      refine ⟨Nat.zero_le _, fun lo hlo => ?_⟩
      have nab : an ≠ b := fun z => by
        obtain ⟨x1, y1, q1, e1⟩ := hb
        rw [z, e1] at han
        cases nms with
        | nil => cases han
        | cons n0 nr => cases han
      have hloH := s6.free hlo
      have N0 : OwnN b lt lo gd an H := ⟨hb.ne hltH, hb.ne hloH, hb.ne hgdH, nab, ne_of_none hl6 hlo, ngl, ne_of_none hg6 hlo, ne_of_none han hltH, ne_of_none han hloH, hltH, hloH⟩
      have s7 : Same H6 (upd H6 lo (.lst [])) := Same.new hlo
      have s07 := s6.trans s7
      have I0 : OwnI b lt lo gd an p nms H (upd H6 lo (.lst [])) (allT pots) [] := ⟨Same.fb s07 b, hb.same s07, s07 _ _ han, s7 _ _ hg6, ⟨xs6, s7 _ _ hl6, dl6'.same s7⟩, ⟨[], upd_same, rfl⟩⟩
      generalize upd H6 lo (.lst []) = H7 at I0 ⊢
      walk_at "go"
      let Pw : Nat → L2.St → Hp → Prop := fun i σ H8 => ∃ (y6 y8 y9 y10 y11 y12 y13 y14 : Option V) (rem : List QT) (qs : List (Nat × Nat)) (tms : List Tm), σ = [some (.ref b), some (.ref pa), some (.ref au), some (.ref an), some (.ref gd), some (.ref lt), y6, some (.ref lo), y8, y9, y10, y11, y12, y13, y14] ∧
        OwnI b lt lo gd an p nms H H8 rem tms ∧ OwnS p pots nms i rem qs tms ∧ rem.length ≤ 450
      refine ⟨⟨_, SqL.of I0.an⟩, forG nms.length Pw ?_ ?_ ?_ ?_⟩
      · refine ⟨_, _, _, _, _, _, _, _, allT pots, [], [], rfl, I0, ⟨by rw [List.nil_append]; exact allT_nd pots, fun z hz => allT_at hz, .nil, List.Sublist.slnil.trans (List.nil_sublist _), by simp, (fun tm h => nomatch h), Nat.zero_le _⟩, ?_⟩
        have := dl6'.lenM
        omega
      · rintro i σ H8 hi ⟨y6, y8, y9, y10, y11, y12, y13, y14, rem, qs, tms, rfl, I8, S8, hrl⟩
        exact (src_l (K := K) (e := PyData.str) (ts := nms) I8.an (DvAll.strs nms)).1 i _ H8 (List.getElem?_eq_getElem hi) (Same.refl _)
      · rintro i x σ H8 H9 hi ⟨y6, y8, y9, y10, y11, y12, y13, y14, rem, qs, tms, rfl, I8, S8, hrl⟩ y
        have hni : nms[i]? = some nms[i] := List.getElem?_eq_getElem hi
        obtain ⟨s9, dx⟩ := (src_l (K := K) (e := PyData.str) (ts := nms) I8.an (DvAll.strs nms)).2.1 i _ H8 x H9 hni (Same.refl _) y
        generalize nms[i] = nm at dx hni
        cases dx
        have I9 := I8.same N0 s9
        obtain ⟨xs9, hv9, dv9⟩ := I9.vt
        clear I8
        have hcolOf : ∀ z ∈ rem, ∃ c, p.find z.2.col = some c := fun z hz => by
          obtain ⟨ts, g1, g2⟩ := S8.at_ z hz
          obtain ⟨c, hc, _⟩ := (hok ts (List.mem_of_getElem? g1)).1.col _ (List.mem_of_getElem? g2)
          exact ⟨c, hc⟩
        walk_at "go"
        refine ⟨Nat.zero_le _, fun l0 hl0 => ?_⟩
        have sa : Same H9 (upd H9 l0 (.lst [])) := Same.new hl0
        refine ⟨_, _, .lst (SqL.of (sa _ _ hv9)) (DvAll.dp (dv9.same sa)), .lst (SqL.of upd_same) .nil, sh_list (fun d hd => by
          obtain ⟨z, hz, rfl⟩ := List.mem_map.mp hd
          obtain ⟨c, hc⟩ := hcolOf z hz
          exact lay_trn (hpo.ok hc)), rfl, ?_⟩
        rw [eqv_nil]
        have Ia := I9.same N0 sa
        have hva := sa _ _ hv9
        have dva := dv9.same sa
        clear I9
        generalize upd H9 l0 (.lst []) = Ha at Ia hva dva ⊢
        refine ⟨_, rfl, ?_⟩
        by_cases hne : rem = []
        · have e : (!(rem.map qtD).isEmpty) = false := by rw [hne]; rfl
          rw [e]
          refine iteF ?_
          exact ⟨_, _, _, _, _, _, _, _, rem, qs, tms, rfl, Ia, S8.skip, hrl⟩
        · have hrp : 0 < rem.length := List.length_pos_iff.mpr hne
          have e : (!(rem.map qtD).isEmpty) = true := by
            rw [Bool.not_eq_true', List.isEmpty_eq_false_iff]
            exact fun z => hne (List.map_eq_nil_iff.mp z)
          rw [e]
          refine iteT ?_
          have hxl := dva.lenM
          walk_at "go"
          refine ⟨tyL hva, ?_⟩
          walk_at "go"
          refine ⟨_, _, rfl, .inl (SqL.of hva), ?_⟩
          walk_at "go"
          refine ⟨Ia.bx, by omega, by omega, fun rk Hb r0 r1 fb bb => ?_⟩
          have Ib := Ia.go N0 fb bb
          obtain ⟨kk0, hrk⟩ : ∃ m : Nat, rk = (m : Int) := ⟨rk.toNat, by omega⟩
          have hkl : kk0 < rem.length := by omega
          have hvb := fb _ _ N0.n1 hva
          have dvb := dva.box fb Ia.bx (cleanAll_map clQ _)
          obtain ⟨x, hx, dx⟩ := dvb.of (List.getElem?_eq_getElem hkl)
          obtain ⟨c, hc⟩ := hcolOf _ (List.getElem_mem hkl)
          have hgth := (hpo.col c (find_name hc).1).2.2.2
          obtain ⟨tss, g1, g2⟩ := S8.at_ _ (List.getElem_mem hkl)
          obtain ⟨q1, q2, q3⟩ := (hok tss (List.mem_of_getElem? g1)).1.rng _ (List.mem_of_getElem? g2)
          obtain ⟨ta, rfl, hta⟩ := trn_of dx
          walk_at "go"
          refine ⟨lt, _, _, kk0, _, rfl, rfl, hvb, by omega, by omega, by rw [hrk]; exact seqIx (by omega), hx, ?_⟩
          have Ic := Ib.pop N0 hvb dvb kk0
          have htc : upd Hb lt (.lst (xs9.eraseIdx kk0)) ta = some (.tup [.int rem[kk0].2.t, .str rem[kk0].2.col, .int rem[kk0].2.b, .int rem[kk0].2.e]) := by rw [upd_ne (ne_of hta hvb (by intro z; cases z))]; exact hta
          have Sadd := fun (f l : Int) => S8.add hkl hni (f := f) (l := l) (g := 0) (c := c) (fun ts h => (hok ts h).1) hc
          have hrel : (rem.eraseIdx kk0).length ≤ 450 := by
            have := List.length_eraseIdx_le rem kk0
            omega
          generalize upd Hb lt (.lst (xs9.eraseIdx kk0)) = Hc at Ic htc ⊢
          generalize rem[kk0] = z0 at *
          refine ⟨ta, _, rfl, SqT.of htc, rfl, ?_⟩
          walk_at "go"
          refine ⟨Ic.bx, by omega, by omega, fun rf Hd a0 a1 fd bd => ?_⟩
          have Id := Ic.go N0 fd bd
          obtain ⟨vo, hvo, dvo⟩ := Id.vo
          walk_at "go"
          refine ⟨tyL hvo, ?_⟩
          walk_at "go"
          refine ⟨gd, .int c.gathers, rfl, ?_, ?_⟩
          · have := DGet.k (k := .inr z0.2.col) Id.gd
            rw [gath_at hpo hc] at this
            exact this
          walk_at "go"
          have hm := @mn_le (z0.2.e - (z0.2.b + rf)) c.gathers
          refine ⟨bd, by show 1 ≤ mn (z0.2.e - (z0.2.b + rf)) c.gathers; omega, by show mn (z0.2.e - (z0.2.b + rf)) c.gathers ≤ 100000; omega, fun rl He e0 e1 fe be => ?_⟩
          have e1' : rl < mn (z0.2.e - (z0.2.b + rf)) c.gathers := e1
          have Ie := Id.go N0 fe be
          walk_at "go"
          refine ⟨by show 4 ≤ sizeLine; decide, fun t4 ht4 => ?_⟩
          have If := Ie.same N0 (Same.new (o := .tup [.str nm, .str z0.2.col, .int (z0.2.b + rf), .int (z0.2.b + rf + 1 + rl)]) ht4)
          have df : Dv (upd He t4 (.tup [.str nm, .str z0.2.col, .int (z0.2.b + rf), .int (z0.2.b + rf + 1 + rl)])) (tmD ⟨nm, z0.2.col, z0.2.b + rf, z0.2.b + rf + 1 + rl⟩) (.ref t4) := tm_mk upd_same
          obtain ⟨vf, hvf, dvf⟩ := If.vo
          have htl := S8.len
          refine ⟨lo, _, _, rfl, rfl, hvf, by rw [dvf.lenM, sizeLine_eq]; omega, ?_⟩
          exact ⟨_, _, _, _, _, _, _, _, _, _, _, rfl, If.add N0 hvf dvf df, Sadd (z0.2.b + rf) (z0.2.b + rf + 1 + rl) (by omega) (by omega) (by omega) (by omega), hrel⟩
      · rintro σ H8 ⟨y6, y8, y9, y10, y11, y12, y13, y14, rem, qs, tms, rfl, I8, S8, hrl⟩
        refine ⟨(src_l (K := K) (e := PyData.str) (ts := nms) I8.an (DvAll.strs nms)).2.2 H8 (Same.refl _), ?_⟩
        obtain ⟨vo, hvo, dvo⟩ := I8.vo
        have hsub := S8.sub
        rw [List.take_length] at hsub
        have hnq : qs.Nodup := (List.nodup_append.mp S8.nd).1
        walk_at "go"
        exact k lo tms H8 I8.fr I8.bx (list_mk hvo dvo) hsub S8.fd S8.ok ⟨qs, hnq, S8.own⟩ S8.len
end
end K83
set_option maxRecDepth 100000
set_option maxHeartbeats 4000000
namespace K83
open PySem PySem.Spec PyProof.Rows L2
/-! ### a broken pot's turns -/
/-- turns without fault, of any hours -/
structure PotG (p : Pal) (ts : List Trn) : Prop where
  col : ∀ t ∈ ts, ∃ c, p.find t.col = some c ∧ 0 ≤ c.charge ∧ 0 ≤ c.melt ∧ t.t + c.charge + c.melt ≤ t.b
  rng : ∀ t ∈ ts, 0 ≤ t.b ∧ t.b < t.e
  step : ∀ i a b, ts[i]? = some a → ts[i + 1]? = some b → ∃ n, washF p.ws (some a.col) b.col = some n ∧ 0 ≤ n ∧ a.e + n ≤ b.t
theorem PotOk.g {p : Pal} {ts : List Trn} (o : PotOk p ts) : PotG p ts := ⟨o.col, fun t h => ⟨(o.rng t h).1, (o.rng t h).2.1⟩, o.step⟩
theorem PotG.tail {p : Pal} {a : Trn} {ts : List Trn} (g : PotG p (a :: ts)) : PotG p ts :=
  ⟨fun t h => g.col t (List.mem_cons_of_mem _ h), fun t h => g.rng t (List.mem_cons_of_mem _ h), fun i x y h1 h2 => g.step (i + 1) x y (by simpa using h1) (by simpa using h2)⟩
theorem PotG.ends {p : Pal} : ∀ {ts : List Trn} {a : Trn}, PotG p (a :: ts) → ∀ y ∈ ts, a.e ≤ y.e
  | [], _, _, y, h => nomatch h
  | b :: ts, a, g, y, h => by
    obtain ⟨n, _, h0, h1⟩ := g.step 0 a b rfl rfl
    obtain ⟨c, _, c1, c2, c3⟩ := g.col b (List.mem_cons_of_mem _ List.mem_cons_self)
    obtain ⟨r1, r2⟩ := g.rng b (List.mem_cons_of_mem _ List.mem_cons_self)
    have hab : a.e ≤ b.e := by omega
    rcases List.mem_cons.mp h with rfl | q
    · exact hab
    · have := PotG.ends g.tail y q
      omega
theorem PotG.pre {p : Pal} (h : Int) : ∀ {ts : List Trn}, PotG p ts → ∃ k, (ts.filter fun t => decide (t.e ≤ h)) = ts.take k
  | [], _ => ⟨0, rfl⟩
  | a :: ts, g => by
    rw [List.filter_cons]
    by_cases e : a.e ≤ h
    · obtain ⟨k, hk⟩ := PotG.pre h g.tail
      rw [if_pos (decide_eq_true e), hk]
      exact ⟨k + 1, rfl⟩
    · rw [if_neg (by rw [decide_eq_true_eq]; exact e)]
      refine ⟨0, ?_⟩
      rw [List.take_zero, List.filter_eq_nil_iff]
      intro y hy
      have := g.ends y hy
      rw [decide_eq_true_eq]
      omega
theorem PotG.cut {p : Pal} {ts : List Trn} (g : PotG p ts) (hl : ts.length ≤ 1000) (h : Int) (h60 : h ≤ 60 ∨ ∀ t ∈ ts, t.e ≤ 60) : PotOk p (ts.filter fun t => decide (t.e ≤ h)) := by
  have hm : ∀ t ∈ ts.filter (fun t => decide (t.e ≤ h)), t ∈ ts ∧ t.e ≤ 60 := fun t ht => by
    obtain ⟨h1, h2⟩ := List.mem_filter.mp ht
    have h2' := of_decide_eq_true h2
    rcases h60 with q | q
    · exact ⟨h1, by omega⟩
    · exact ⟨h1, q t h1⟩
  obtain ⟨k, hk⟩ := g.pre h
  refine ⟨Nat.le_trans (List.length_filter_le _ _) hl, fun t ht => g.col t (hm t ht).1, fun t ht => ⟨(g.rng t (hm t ht).1).1, (g.rng t (hm t ht).1).2, (hm t ht).2⟩, fun i a b h1 h2 => ?_⟩
  rw [hk, List.getElem?_take] at h1 h2
  by_cases e : i + 1 < k
  · rw [if_pos (by omega)] at h1
    rw [if_pos e] at h2
    exact g.step i a b h1 h2
  · rw [if_neg e] at h2
    cases h2
theorem PotOk.drop {p : Pal} {ts : List Trn} (o : PotOk p ts) (n : Nat) : PotOk p (ts.drop n) :=
  ⟨by rw [List.length_drop]; have := o.len; omega, fun t h => o.col t (List.mem_of_mem_drop h), fun t h => o.rng t (List.mem_of_mem_drop h), fun i a b h1 h2 => by
    rw [List.getElem?_drop] at h1 h2
    exact o.step (n + i) a b h1 h2⟩
theorem PotG.cons {p : Pal} {x : Trn} {ts : List Trn} (g : PotG p ts) (h1 : ∃ c, p.find x.col = some c ∧ 0 ≤ c.charge ∧ 0 ≤ c.melt ∧ x.t + c.charge + c.melt ≤ x.b) (h2 : 0 ≤ x.b ∧ x.b < x.e)
    (h3 : ∀ y, ts.head? = some y → ∃ n, washF p.ws (some x.col) y.col = some n ∧ 0 ≤ n ∧ x.e + n ≤ y.t) : PotG p (x :: ts) := by
  refine ⟨fun t h => ?_, fun t h => ?_, fun i a b ha hb => ?_⟩
  · rcases List.mem_cons.mp h with rfl | q
    · exact h1
    · exact g.col t q
  · rcases List.mem_cons.mp h with rfl | q
    · exact h2
    · exact g.rng t q
  · cases i with
    | zero =>
      cases ha
      refine h3 b ?_
      rw [List.head?_eq_getElem?]
      simpa using hb
    | succ i => exact g.step i a b (by simpa using ha) (by simpa using hb)
theorem wash_nn' {p : Pal} (o : POk p) {a : Option Str} {b : Str} {n : Int} (h : washF p.ws a b = some n) : 0 ≤ n := by
  unfold washF at h
  cases e : p.ws.find? (isW a b) with
  | none => rw [e] at h; cases h; exact Int.le_refl _
  | some w =>
    rw [e] at h
    exact (o.wash w (List.mem_of_find?_eq_some e)).2.2 n h
theorem mx_up {i j : Int} : i ≤ mx i j ∧ j ≤ mx i j := by unfold mx; split <;> omega
theorem later_ok {p : Pal} (o : POk p) : ∀ (ts : List Trn) (prev : Option Trn) (free : Int), PotOk p ts → (∀ m0 t, prev = some m0 → ts.head? = some t → ∃ n, washF p.ws (some m0.col) t.col = some n) →
    PotG p (laterF p prev free ts) ∧ ∀ m0 y, prev = some m0 → (laterF p prev free ts).head? = some y → ∃ n, washF p.ws (some m0.col) y.col = some n ∧ 0 ≤ n ∧ m0.e + n ≤ y.t
  | [], prev, free, _, _ => by
    rw [laterF]
    exact ⟨⟨by simp, by simp, by simp⟩, fun m0 y _ h => by cases h⟩
  | t :: r, prev, free, ok, hl => by
    rw [laterF]
    obtain ⟨c, hc, c1, c2, c3⟩ := ok.col t List.mem_cons_self
    obtain ⟨r1, r2, r3⟩ := ok.rng t List.mem_cons_self
    have okr : PotOk p r := ok.drop 1
    rw [hc]
    show PotG p (movedF c t (nextFree p prev free t) :: laterF p (some (movedF c t (nextFree p prev free t))) free r) ∧ _
    have u1 := @mx_up t.t (nextFree p prev free t)
    have u2 := @mx_up t.b (mx t.t (nextFree p prev free t) + c.charge + c.melt)
    obtain ⟨g, hg⟩ := later_ok o r (some (movedF c t (nextFree p prev free t))) free okr fun m0 y e hy => by
      cases e
      cases r with
      | nil => cases hy
      | cons y' r' =>
        cases hy
        obtain ⟨n, hn, _⟩ := ok.step 0 t _ rfl rfl
        exact ⟨n, hn⟩
    refine ⟨g.cons ⟨c, hc, c1, c2, ?_⟩ ⟨?_, ?_⟩ fun y hy => hg _ y rfl hy, fun m0 y e hy => ?_⟩
    · show mx t.t (nextFree p prev free t) + c.charge + c.melt ≤ mx t.b (mx t.t (nextFree p prev free t) + c.charge + c.melt)
      omega
    · show 0 ≤ mx t.b (mx t.t (nextFree p prev free t) + c.charge + c.melt)
      omega
    · show mx t.b (mx t.t (nextFree p prev free t) + c.charge + c.melt) < mx t.b (mx t.t (nextFree p prev free t) + c.charge + c.melt) + t.e - t.b
      omega
    · cases hy
      obtain ⟨n, hn⟩ := hl m0 t e rfl
      refine ⟨n, hn, wash_nn' o hn, ?_⟩
      subst e
      show m0.e + n ≤ mx t.t (m0.e + (washF p.ws (some m0.col) t.col).getD 0)
      rw [hn]
      have := @mx_up t.t (m0.e + n)
      exact this.2
theorem ended_ok {p : Pal} {ts : List Trn} (ok : PotOk p ts) (hour : Int) : PotOk p (endedF ts hour) := ok.g.cut ok.len hour (.inr fun t h => (ok.rng t h).2.2)
theorem behind_ok {p : Pal} (o : POk p) {ts : List Trn} (ok : PotOk p ts) (hour warm : Int) : PotOk p ((behindF p ts hour warm).filter fun t => decide (t.e ≤ 60)) := by
  unfold behindF
  generalize (ts.filter fun t => decide (t.t ≤ hour)).length = n
  refine (later_ok o _ none (hour + warm) (ok.drop n) fun m0 t e => by cases e).1.cut ?_ 60 (.inl (Int.le_refl _))
  rw [laterF_len]
  exact (ok.drop n).len
theorem behind_len {p : Pal} {ts : List Trn} (hour warm : Int) : (behindF p ts hour warm).length ≤ ts.length := by
  unfold behindF
  rw [laterF_len, List.length_drop]
  omega
end K83
set_option maxRecDepth 100000
set_option maxHeartbeats 4000000
namespace K83
open PySem PySem.Spec PyProof.Rows L2
local macro_rules | `(tactic| walk_at "nz") => `(tactic| dsimp -proj only [L2.start, wipe, List.map_cons, List.map_nil, List.set, List.length, List.replicate, List.cons_append, List.nil_append, Nat.reduceSub, Nat.reduceAdd])
local macro_rules | `(tactic| walk_at "gg") => `(tactic| repeat (first | refine ⟨rfl, ?_⟩ | refine ⟨_, rfl, ?_⟩ | refine ⟨_, _, rfl, ?_⟩ | refine ⟨_, _, rfl, rfl, ?_⟩))
local macro_rules | `(tactic| walk_at "go") => `(tactic| ((try walk_at "nz"); walk_at "gg"; (try walk_at "nz")))
theorem joinT {b : Addr} {Hn : Hp} {p : Pal} {pots : List (List Trn)} {ow : Bool} {G : Addr → Hp → Prop} {X : Prop} (use : (∀ ta (tms : List Tm) H1, Fb b Hn H1 → Bx H1 b → Dv H1 (tmsD tms) (.ref ta) → TmsOk p tms → (ow = true → OwnT p pots tms) → G ta H1) → X)
    (prf : ∀ ta (tms : List Tm) H1, Fb b Hn H1 → Bx H1 b → Dv H1 (tmsD tms) (.ref ta) → TmsOk p tms → (ow = true → OwnT p pots tms) → G ta H1) : X := use prf
theorem joinS {H : Hp} {G : Hp → Prop} {X : Prop} (use : (∀ H1, Same H H1 → G H1) → X) (prf : ∀ H1, Same H H1 → G H1) : X := use prf
def spRight : Sp := fun vs H Q _ => ∃ (b : Addr), vs = [.ref b] ∧ Bx H b ∧ ∀ H', Fb b H H' → Bx H' b → Q (.bl true) H'
section
variable {P : Program} {w : World} {K : PySem.W.Frag} {mg : Str → Option Value} {base : Heap} {A : Nat → Addr} {D : Nat → FuncData} {C : Addr} {tk : Tok}
theorem sc__law_right : FnScope ["_law_box_here", "_law_palette_here", "_law_own", "_law_pots_here", "_law_names_here", "_law_teams", "_law_at", "_law_ended", "_law_lost", "_law_behind", "_law_moved", "_law_new", "_law_turn", "_law_name"] ["_law_box_here"] (defScope (topS 46)) := ⟨rfl, rfl, rfl, by decide +kernel, rfl, by decide +kernel, by decide +kernel⟩
theorem ok_right (T : Tx K mg A D C tk) : FnOk P w K mg base CX0 10 (A 46) (D 46) ["_law_box_here"] spRight := by
  have G__law_take : FnOk P w K mg base CX0 1 (A 33) (D 33) _ _ := ok_ltake T
  have G__law_palette : FnOk P w K mg base CX0 3 (A 36) (D 36) _ _ := ok_pal T
  have G__law_pots : FnOk P w K mg base CX0 3 (A 39) (D 39) _ _ := ok_pots T
  have G__law_names : FnOk P w K mg base CX0 2 (A 35) (D 35) _ _ := ok_names T
  have G__law_own_teams : FnOk P w K mg base CX0 2 (A 41) (D 41) _ _ := ok_own T
  have G__law_team : FnOk P w K mg base CX0 2 (A 40) (D 40) _ _ := ok_team T
  have G__law_day_right : FnOk P w K mg base CX0 9 (A 45) (D 45) _ _ := ok_day T
  have G_worked_by : FnOk P w K mg base CX0 7 (A 15) (D 15) _ _ := ok_worked_by T
  have G_broken : FnOk P w K mg base CX0 5 (A 30) (D 30) _ _ := ok_broken T
  refine T.d__law_right.fn.ok sc__law_right (fun vs H Q E h => ?_) (fun cdv A0 outer s H vs Q E hr h => ?_)
  · obtain ⟨b, rfl, _⟩ := h
    rfl
  · obtain ⟨b, rfl, hb, k⟩ := h
    refine ⟨_, (pss_cons (ps_asg (pe_tup (pa_cons (pcall T.d__law_palette G__law_palette (hr.mono (by decide)) rfl (pa_cons (pv 0) (pa_cons pe_int pa_nil))) (pa_cons (pe_cmpR op_eq (pcall T.d__law_take G__law_take (hr.mono (by decide)) rfl (pa_cons (pv 0) (pa_cons pe_int pa_nil))) pe_int (nomark _)) pa_nil))) (pgT K 2 rfl (pgs_cons (pg_name (i := 1) sc__law_right.nd rfl (Or.inr rfl)) (pgs_cons (pg_name (i := 2) sc__law_right.nd rfl (Or.inl rfl)) pgs_nil))))
 (pss_cons (ps_asg (pe_tup (pa_cons (pcall T.d__law_pots G__law_pots (hr.mono (by decide)) rfl (pa_cons (pv 0) (pa_cons (pv 1) (pa_cons pe_int pa_nil)))) (pa_cons (pcall T.d__law_names G__law_names (hr.mono (by decide)) rfl (pa_cons (pv 0) (pa_cons (pcall T.d__law_take G__law_take (hr.mono (by decide)) rfl (pa_cons (pv 0) (pa_cons pe_int pa_nil))) pa_nil))) pa_nil))) (pgT K 2 rfl (pgs_cons (pg_name (i := 3) sc__law_right.nd rfl (Or.inr rfl)) (pgs_cons (pg_name (i := 4) sc__law_right.nd rfl (Or.inl rfl)) pgs_nil))))
 (pss_cons (ps_if (pt_val (pv 2)) (pss_one (ps_set (i := 5) sc__law_right.nd rfl (Or.inl rfl) (pcall T.d__law_own_teams G__law_own_teams (hr.mono (by decide)) rfl (pa_cons (pv 0) (pa_cons (pv 1) (pa_cons (pv 3) (pa_cons (pv 4) pa_nil))))))) (pss_one (ps_setLc (i := 5) (own := [("_law_name", 13)]) rfl sc__law_right.nd rfl rfl (sw_true rfl rfl rfl (by decide +kernel)) (piL K (pv 4)) (blkOk_by (N := ["_law_box_here", "_law_palette_here", "_law_own", "_law_pots_here", "_law_names_here", "_law_teams", "_law_at", "_law_ended", "_law_lost", "_law_behind", "_law_moved", "_law_new", "_law_turn", "_law_name"]) (sc := defScope (topS 46)) (by decide +kernel)) (fun _ _ _ _ _ => (pg_name (i := 13) sc__law_right.nd rfl (Or.inl rfl))) (fun _ _ _ _ _ => pts_nil) (fun _ _ _ _ _ => (pcall T.d__law_team G__law_team (hr.mono (by decide)) rfl (pa_cons (pv 0) (pa_cons (pv 1) (pa_cons (pv 3) (pa_cons (pv 13) pa_nil)))))))))
 (pss_cons (ps_if (PW.pt (pw_or (pt_not (pt_val (pcall T.d__law_day_right G__law_day_right (hr.mono (by decide)) rfl (pa_cons (pv 1) (pa_cons (pv 3) (pa_cons (pv 5) pa_nil)))))) (pw_or1 (PW.pt (pw_and (pt_val (pv 2)) (pw_and1 (pt_cmpR op_notN (pe_ix (ixT K) (pcall T.d_worked_by G_worked_by (hr.mono (by decide)) rfl (pa_cons (pv 1) (pa_cons (pv 3) (pa_cons (pv 5) pa_nil)))) pe_int (fun _ _ => rfl)) pe_non (nomark _)))))))) (pss_one (ps_ret pe_bl)) pss_nil)
 (pss_cons (ps_if (pt_cmpR (eqDt K hr.units) (pv 3) (pe_lst pa_nil) (nomark _)) (pss_one (ps_ret pe_bl)) pss_nil)
 (pss_cons (ps_set (i := 6) sc__law_right.nd rfl (Or.inl rfl) (pcall T.d__law_take G__law_take (hr.mono (by decide)) rfl (pa_cons (pv 0) (pa_cons (pe_callB (lenS K) (by rfl) T.len (by decide +kernel) (pa_cons (pv 3) pa_nil)) pa_nil))))
 (pss_cons (ps_asg (pe_call G_broken (hr.mono (by decide)) rfl T.mg_broken T.fn_broken.kp T.b_broken .nil pass0 (pa_cons (pv 1) (pa_cons (pe_ix (ixL K) (pv 3) (pv 6) (fun _ _ => rfl)) (pa_cons (pcall T.d__law_take G__law_take (hr.mono (by decide)) rfl (pa_cons (pv 0) (pa_cons pe_int pa_nil))) (pa_cons (pcall T.d__law_take G__law_take (hr.mono (by decide)) rfl (pa_cons (pv 0) (pa_cons pe_int pa_nil))) pa_nil))))) (pgT K 4 rfl (pgs_cons (pg_name (i := 7) sc__law_right.nd rfl (Or.inl rfl)) (pgs_cons (pg_name (i := 8) sc__law_right.nd rfl (Or.inl rfl)) (pgs_cons (pg_name (i := 9) sc__law_right.nd rfl (Or.inl rfl)) (pgs_cons (pg_name (i := 10) sc__law_right.nd rfl (Or.inl rfl)) pgs_nil))))))
 (pss_cons (ps_setLc (i := 11) (own := [("_law_turn", 12)]) rfl sc__law_right.nd rfl rfl (sw_true rfl rfl rfl (by decide +kernel)) (piL K (pv 9)) (blkOk_by (N := ["_law_box_here", "_law_palette_here", "_law_own", "_law_pots_here", "_law_names_here", "_law_teams", "_law_at", "_law_ended", "_law_lost", "_law_behind", "_law_moved", "_law_new", "_law_turn", "_law_name"]) (sc := defScope (topS 46)) (by decide +kernel)) (fun _ _ _ _ _ => (pg_name (i := 12) sc__law_right.nd rfl (Or.inl rfl))) (fun _ _ _ _ _ => (pts_one (pt_cmpR op_le (pe_ix (ixT K) (pv 12) pe_int (fun _ _ => rfl)) pe_int (nomark _)))) (fun _ _ _ _ _ => (pv 12)))
 (pss_one (ps_ret (pcall T.d__law_day_right G__law_day_right (hr.mono (by decide)) rfl (pa_cons (pv 1) (pa_cons (pe_op op_cat (pe_op op_cat (pe_op op_cat (pe_slice (slL K) (pv 3) po_none (po_some (pv 6))) (pe_lst (pa_cons (pv 7) pa_nil))) (pe_slice (slL K) (pv 3) (po_some (pe_op op_add (pv 6) pe_int)) po_none)) (pe_lst (pa_cons (pv 11) pa_nil))) (pa_cons (pv 5) pa_nil)))))))))))))), ?_⟩
    walk_at "go"
    refine ⟨hb, fun v p H1 f1 b1 hpo hp1 => ?_⟩
    walk_at "go"
    refine ⟨b1, by decide, by decide, fun r H2 r0 r1 f2 b2 => ?_⟩
    have hp2 := hp1.box f2 b1 (clPal p)
    have f2' := f1.trans f2
    walk_at "go"
    generalize decide (V.int r = V.int 0) = ow
    refine ⟨by show 2 ≤ sizeLine; decide, fun t2 ht2 => ?_⟩
    have s3 : Same H2 (upd H2 t2 (.tup [v, .bl ow])) := Same.new ht2
    have h3 : upd H2 t2 (.tup [v, .bl ow]) t2 = some (.tup [v, .bl ow]) := upd_same
    have f3' := f2'.tS s3
    have b3 := b2.same s3
    have hp3 := hp2.same s3
    generalize upd H2 t2 (.tup [v, .bl ow]) = H3 at h3 f3' b3 hp3 ⊢
    refine ⟨t2, _, rfl, SqT.of h3, rfl, ?_⟩
    walk_at "go"
    refine ⟨b, v, p, rfl, b3, hp3, hpo, fun pq pots H4 f4 b4 hq4 hpl4 hok4 => ?_⟩
    have hp4 := hp3.box f4 b3 (clPal p)
    have f4' := f3'.trans f4
    walk_at "go"
    refine ⟨b4, by decide, by decide, fun rn H5 n0 n1 f5 b5 => ?_⟩
    have hp5 := hp4.box f5 b4 (clPal p)
    have hq5 := hq4.box f5 b4 (clPots pots)
    have f5' := f4'.trans f5
    obtain ⟨nn, hnn⟩ : ∃ m : Nat, rn = (m : Int) := ⟨rn.toNat, by omega⟩
    subst hnn
    walk_at "go"
    refine ⟨b5, by omega, fun an nms H6 han6 f6 b6 han hnl hnd hnok => ?_⟩
    have hp6 := hp5.box f6 b5 (clPal p)
    have hq6 := hq5.box f6 b5 (clPots pots)
    have f6' := f5'.trans f6
    walk_at "go"
    refine ⟨by show 2 ≤ sizeLine; decide, fun t6 ht6 => ?_⟩
    have s7 : Same H6 (upd H6 t6 (.tup [.ref pq, .ref an])) := Same.new ht6
    have h7 : upd H6 t6 (.tup [.ref pq, .ref an]) t6 = some (.tup [.ref pq, .ref an]) := upd_same
    have f7' := f6'.tS s7
    have b7 := b6.same s7
    have hp7 := hp6.same s7
    have hq7 := hq6.same s7
    have han7 := s7 _ _ han
    have nab : an ≠ b := b5.ne han6
    generalize upd H6 t6 (.tup [.ref pq, .ref an]) = H7 at h7 f7' b7 hp7 hq7 han7 ⊢
    refine ⟨t6, _, rfl, SqT.of h7, rfl, ?_⟩
    clear hp1 hp2 hp3 hp4 hp5 hp6 hq4 hq5 hq6 f1 f2 f4 f5 f6 f2' f3' f4' f5' f6' b1 b2 b3 b4 b5 b6 s3 s7 h3 h7
    walk_at "go"
    refine' joinT (b := b) (Hn := H7) (p := p) (pots := pots) (ow := ow) (fun fin => ?_) ?_
    rotate_left
    · refine ite2 (fun z => ?_) (fun z => ?_)
      · walk_at "go"
        refine ⟨b, v, .ref pq, an, p, pots, nms, rfl, b7, hp7, hq7, han7, hpo, by omega, hok4, by omega, fun q tms H8 f8 b8 hq8 hsub hfd hok8 hown hlen => ?_⟩
        exact fin q tms H8 f8 b8 hq8 ⟨by omega, List.Nodup.sublist hsub hnd, hfd, fun tm h => hnok _ (hsub.subset (List.mem_map.mpr ⟨tm, h, rfl⟩)), hok8⟩ fun _ => hown
      · walk_at "go"
        refine ⟨⟨_, SqL.of han7⟩, ?_⟩
        refine lcB nms.length (fun D i acc H1 => acc.length = i ∧ Fb b H7 H1 ∧ Bx H1 b ∧ H1 D = some (.lst acc) ∧ ∃ tms : List Tm, DvAll H1 (tms.map tmD) acc ∧ tms.map (·.name) = nms.take i ∧ ∀ tm ∈ tms, (∃ c, p.find tm.col = some c) ∧ 0 ≤ tm.first ∧ tm.first ≤ tm.last ∧ tm.last ≤ 60) ?_ ?_ ?_ ?_ ?_
        · intro D hD
          exact ⟨rfl, Fb.mut (Fb.refl b H7) hD, b7.upd (b7.ne hD), upd_same, [], rfl, rfl, by simp⟩
        · rintro D i acc H1 hi ⟨h1, _⟩
          rw [sizeLine_eq]; omega
        · rintro D i acc H1 _ hi ⟨e1, f2, b2, d2, tms, dt, hn2, hk2⟩
          exact (src_l (K := K) (e := PyData.str) (ts := nms) (f2 _ _ nab han7) (DvAll.strs nms)).1 i _ H1 (List.getElem?_eq_getElem hi) (Same.refl _)
        · rintro D i acc x H1 H2 N M hD hi ⟨e1, f1, b1, d1, tms, dt, hn1, hk1⟩ hy hN
          have hni : nms[i]? = some nms[i] := List.getElem?_eq_getElem hi
          obtain ⟨s2, dx⟩ := (src_l (K := K) (e := PyData.str) (ts := nms) (f1 _ _ nab han7) (DvAll.strs nms)).2.1 i _ H1 x H2 hni (Same.refl _) hy
          generalize nms[i] = nm at dx hni
          cases dx
          have f2 := f1.tS s2
          have b2 := b1.same s2
          have nD : D ≠ b := b7.ne hD
          walk_at "go"
          refine ⟨b, v, .ref pq, nm, p, pots, rfl, b2, hp7.box f2 b7 (clPal p), hq7.box f2 b7 (clPots pots), hpo, by omega, fun ts h => (hok4 ts h).1, fun a col f l H3 ha f3 b3 ha3 hcol g1 g2 g3 => ?_⟩
          have d3 := f3 _ _ nD (s2 _ _ d1)
          have f3' := f2.trans f3
          have dt3 := (dt.same s2).box f3 b2 (cleanAll_map clTm _)
          have da : Dv H3 (tmD ⟨nm, col, f, l⟩) (.ref a) := tm_mk ha3
          refine hN _ _ d3 ⟨by rw [List.length_append, e1]; rfl, f3'.mut hD, b3.upd nD, upd_same, tms ++ [⟨nm, col, f, l⟩], (dt3.upd (notup_l d3) (noLA noTm _)).snocM (da.upd (notup_l d3) (noTm _)), ?_, fun tm h => ?_⟩
          · rw [List.map_append, hn1, List.take_add_one, hni]; rfl
          · rcases List.mem_append.mp h with q | q
            · exact hk1 tm q
            · rw [List.mem_singleton.mp q]
              exact ⟨hcol, g1, g2, g3⟩
        · rintro D acc H1 hD ⟨e1, f1, b1, d1, tms, dt, hn1, hk1⟩
          refine ⟨(src_l (K := K) (e := PyData.str) (ts := nms) (f1 _ _ nab han7) (DvAll.strs nms)).2.2 H1 (Same.refl _), ?_⟩
          rw [List.take_length] at hn1
          have htl : tms.length = nms.length := by
            have := congrArg List.length hn1
            rwa [List.length_map] at this
          exact fin D tms H1 f1 b1 (list_mk d1 dt) ⟨by omega, by rw [hn1]; exact hnd, fun tm h => (hk1 tm h).1, fun tm h => hnok _ (by rw [← hn1]; exact List.mem_map.mpr ⟨tm, h, rfl⟩), fun tm h => (hk1 tm h).2⟩ fun q => (z q).elim
    · intro ta tms H8 f8 b8 hta htm how
      have hp8 := hp7.box f8 b7 (clPal p)
      have hq8 := hq7.box f8 b7 (clPots pots)
      have f8' := f7'.trans f8
      have hokp : ∀ ts ∈ pots, PotOk p ts := fun ts h => (hok4 ts h).1
      have hday : DayOk p pots tms := ⟨hpo, by omega, hokp, htm⟩
      clear hp7 hq7 han7 f7' b7 f8
      walk_at "go"
      refine' joinS (H := H8) (fun fin => ?_) ?_
      rotate_left
      · refine ⟨v, .ref pq, .ref ta, p, pots, tms, rfl, hp8, hq8, hta, hday, fun H9 s9 => ?_⟩
        walk_at "go"
        refine ite2 (fun z => ?_) (fun z => iteF (fin H9 s9))
        walk_at "go"
        refine ⟨v, .ref pq, .ref ta, p, pots, tms, rfl, hp8.same s9, hq8.same s9, hta.same s9, hpo, hday.len, fun ts h => (hokp ts h).len, htm.len, htm.col, ?_, ?_⟩
        · intro a q rs sv Hf sf ha hq drs nd mem vr
          refine ⟨_, _, _, _, rfl, rfl, SqT.of ha, rfl, ?_⟩
          refine ⟨rfl, _, rfl, ?_⟩
          exact ite2 (fun q => by simp at q) (fun _ => fin Hf (s9.trans sf))
        · intro a b2 q hour c ns Hf sf ha hb2 hq hc hlk hearly
          have hg : 0 ≤ gOf p c := by
            obtain ⟨tm, h1, h2⟩ := hc
            obtain ⟨cc, h3⟩ := htm.col tm h1
            rw [h2] at h3
            have h4 := (hpo.col cc (find_name h3).1).2.2.2.1
            unfold gOf
            rw [h3]
            show 0 ≤ cc.gathers
            omega
          exact ((how z).no htm.hrs hg hlk).elim
      · intro H9 s9
        have hp9 := hp8.same s9
        have hq9 := hq8.same s9
        have hta9 := hta.same s9
        have f9' := f8'.tS s9
        have b9 := b8.same s9
        clear hp8 hq8 hta f8' b8 s9
        obtain ⟨au, xu, eu, hau, hxu⟩ := list_of hq9
        cases eu
        have hul := hxu.lenM
        walk_at "go"
        refine ⟨Nat.zero_le _, fun l0 hl0 => ?_⟩
        have sa : Same H9 (upd H9 l0 (.lst [])) := Same.new hl0
        refine ⟨_, _, .lst (SqL.of (sa _ _ hau)) (DvAll.dp (hxu.same sa)), .lst (SqL.of upd_same) .nil, sh_pots fun ts h => (hokp ts h).sok hpo, rfl, ?_⟩
        rw [eqv_nil]
        have fa' := f9'.tS sa
        have ba := b9.same sa
        generalize upd H9 l0 (.lst []) = Ha at sa fa' ba ⊢
        refine ⟨_, rfl, ?_⟩
        by_cases hne : pots = []
        · have e : (pots.map trnsD).isEmpty = true := by rw [hne]; rfl
          rw [e]
          refine iteT ?_
          exact k Ha fa' ba
        have hpp : 0 < pots.length := List.length_pos_iff.mpr hne
        have e : (pots.map trnsD).isEmpty = false := by
          rw [List.isEmpty_eq_false_iff]
          exact fun z => hne (List.map_eq_nil_iff.mp z)
        rw [e]
        refine iteF ?_
        have hpa := hp9.same sa
        have hqa := hq9.same sa
        have htaa := hta9.same sa
        have haua := sa _ _ hau
        have hxua := hxu.same sa
        clear hp9 hq9 hta9 hau hxu f9' b9 sa
        walk_at "go"
        refine ⟨_, _, rfl, .inl (SqL.of haua), ?_⟩
        walk_at "go"
        refine ⟨ba, by omega, by omega, fun ri Hb i0 i1 fb bb => ?_⟩
        obtain ⟨ni, hni⟩ : ∃ m : Nat, ri = (m : Int) := ⟨ri.toNat, by omega⟩
        subst hni
        have hnl : ni < pots.length := by omega
        have hpb := hpa.box fb ba (clPal p)
        have hqb := hqa.box fb ba (clPots pots)
        have htab := htaa.box fb ba (clTms tms)
        have fb' := fa'.trans fb
        obtain ⟨au2, xb, eu2, haub, hxub⟩ := list_of hqb
        cases eu2
        obtain ⟨x, hx, dx⟩ := hxub.of (List.getElem?_eq_getElem hnl)
        walk_at "go"
        refine ⟨_, _, _, _, rfl, rfl, SqL.of haub, atI_nat hx, ?_⟩
        walk_at "go"
        refine ⟨bb, by decide, by decide, fun rh Hc c0 c1 fc bc => ?_⟩
        walk_at "go"
        refine ⟨bc, by decide, by decide, fun rw Hd d0 d1 fd bd => ?_⟩
        have fbd := fc.trans fd
        have hpd' := hpb.box fbd bb (clPal p)
        have hqd := hqb.box fbd bb (clPots pots)
        have htad := htab.box fbd bb (clTms tms)
        have dxd := dx.box fbd bb (clTrns _)
        have fd' := fb'.trans fbd
        have hoki := hokp _ (List.getElem_mem hnl)
        walk_at "go"
        refine ⟨v, x, p, pots[ni], rh, rw, rfl, hpd', dxd, hoki.len, hoki.linked, hoki.sok hpo, fun a x1 y1 z1 z2 He se ha dx1 dy1 => ?_⟩
        have h60 := behind_ok hpo hoki rh rw
        have hen := ended_ok hoki rh
        have hbl := behind_len (p := p) (ts := pots[ni]) rh rw
        have hil := hoki.len
        generalize behindF p pots[ni] rh rw = bh at dy1 h60 hbl
        generalize endedF pots[ni] rh = en at dx1 hen
        refine ⟨a, _, rfl, SqT.of ha, rfl, ?_⟩
        obtain ⟨yb, xs1, ey, hyb, dyb⟩ := list_of dy1
        subst ey
        walk_at "go"
        refine ⟨⟨_, SqL.of hyb⟩, ?_⟩
        obtain ⟨g1, g2, g3⟩ := src_l (K := K) (e := trnD) hyb dyb
        refine lcG (e' := trnD) bh (fun t => if t.e ≤ 60 then some t else none) (fun t x H => Dv H (trnD t) x) noT (by omega) g1 g2 g3 ?_ ?_
        · intro t x2 Hf N M _ sm dt hy hno
          obtain ⟨e2, rfl, he2⟩ := trn_of dt
          walk_at "go"
          refine ⟨_, _, _, _, rfl, rfl, SqT.of he2, rfl, ?_⟩
          walk_at "go"
          refine ite2 (fun q => ?_) (fun q => hno (if_neg fun z => q (decide_eq_true z)) _ (Same.refl _))
          walk_at "go"
          exact hy t (if_pos (of_decide_eq_true q)) _ _ (Same.refl _) dt
        rw [fm_filter]
        intro nl ns Hf hnlf sf hns dns
        have sef := se.trans sf
        have hpf := hpd'.same sef
        have hqf := hqd.same sef
        have htaf := htad.same sef
        have enf := dx1.same sf
        have ff' := fd'.tS sef
        have bf := bd.same sef
        clear hpd' hqd htad hpb hqb htab
        obtain ⟨au3, xf, eu3, hauf, hxuf⟩ := list_of hqf
        cases eu3
        generalize (bh.filter fun t => decide (t.e ≤ 60)) = nw at h60 dns
        have hxl := hxuf.lenM
        walk_at "go"
        refine ⟨_, _, rfl, SqL.of hauf, fun q1 hq1 => ?_⟩
        rw [show cutV xf none (some (ni : Int)) = xf.take ni from cutV_to xf ni]
        have s1 : Same Hf (upd Hf q1 (.lst (xf.take ni))) := Same.new hq1
        have h1 : upd Hf q1 (.lst (xf.take ni)) q1 = some (.lst (xf.take ni)) := upd_same
        generalize upd Hf q1 (.lst (xf.take ni)) = G1 at s1 h1 ⊢
        walk_at "go"
        refine ⟨by show 1 ≤ sizeLine; decide, fun q2 hq2 => ?_⟩
        have s2 : Same G1 (upd G1 q2 (.lst [x1])) := Same.new hq2
        have h2 : upd G1 q2 (.lst [x1]) q2 = some (.lst [x1]) := upd_same
        generalize upd G1 q2 (.lst [x1]) = G2 at s2 h2 ⊢
        refine ⟨_, _, _, _, rfl, rfl, s2 _ _ h1, h2, by rw [List.length_take, sizeLine_eq]; show _ + 1 ≤ _; omega, fun q3 hq3 => ?_⟩
        have s3 : Same G2 (upd G2 q3 (.lst (xf.take ni ++ [x1]))) := Same.new hq3
        have h3 : upd G2 q3 (.lst (xf.take ni ++ [x1])) q3 = some (.lst (xf.take ni ++ [x1])) := upd_same
        generalize upd G2 q3 (.lst (xf.take ni ++ [x1])) = G3 at s3 h3 ⊢
        have s03 := s1.trans (s2.trans s3)
        walk_at "go"
        refine ⟨_, _, rfl, SqL.of (s03 _ _ hauf), fun q4 hq4 => ?_⟩
        rw [show cutV xf (some ((ni : Int) + 1)) none = xf.drop (ni + 1) from cutV_from xf (ni + 1)]
        have s4 : Same G3 (upd G3 q4 (.lst (xf.drop (ni + 1)))) := Same.new hq4
        have h4 : upd G3 q4 (.lst (xf.drop (ni + 1))) q4 = some (.lst (xf.drop (ni + 1))) := upd_same
        generalize upd G3 q4 (.lst (xf.drop (ni + 1))) = G4 at s4 h4 ⊢
        refine ⟨_, _, _, _, rfl, rfl, s4 _ _ h3, h4, by rw [List.length_append, List.length_take, List.length_drop, sizeLine_eq]; show _ + 1 + _ ≤ _; omega, fun q5 hq5 => ?_⟩
        have s5 : Same G4 (upd G4 q5 (.lst (xf.take ni ++ [x1] ++ xf.drop (ni + 1)))) := Same.new hq5
        have h5 : upd G4 q5 (.lst (xf.take ni ++ [x1] ++ xf.drop (ni + 1))) q5 = some (.lst (xf.take ni ++ [x1] ++ xf.drop (ni + 1))) := upd_same
        generalize upd G4 q5 (.lst (xf.take ni ++ [x1] ++ xf.drop (ni + 1))) = G5 at s5 h5 ⊢
        walk_at "go"
        refine ⟨by show 1 ≤ sizeLine; decide, fun q6 hq6 => ?_⟩
        have s6 : Same G5 (upd G5 q6 (.lst [.ref nl])) := Same.new hq6
        have h6 : upd G5 q6 (.lst [.ref nl]) q6 = some (.lst [.ref nl]) := upd_same
        generalize upd G5 q6 (.lst [.ref nl]) = G6 at s6 h6 ⊢
        refine ⟨_, _, _, _, rfl, rfl, s6 _ _ h5, h6, by rw [List.length_append, List.length_append, List.length_take, List.length_drop, sizeLine_eq]; show _ + 1 + _ + 1 ≤ _; omega, fun q7 hq7 => ?_⟩
        have s7 : Same G6 (upd G6 q7 (.lst (xf.take ni ++ [x1] ++ xf.drop (ni + 1) ++ [.ref nl]))) := Same.new hq7
        have s07 := s03.trans (s4.trans (s5.trans (s6.trans s7)))
        have hfin : Dv (upd G6 q7 (.lst (xf.take ni ++ [x1] ++ xf.drop (ni + 1) ++ [.ref nl]))) (potsD (pots.take ni ++ [en] ++ pots.drop (ni + 1) ++ [nw])) (.ref q7) := by
          refine list_mk upd_same ?_
          rw [List.map_append, List.map_append, List.map_append, List.map_take, List.map_drop]
          exact ((((hxuf.same s07).take ni).append (.cons (enf.same s07) .nil)).append ((hxuf.same s07).drop (ni + 1))).append (.cons ((list_mk hns dns : Dv Hf (trnsD nw) (.ref nl)).same s07) .nil)
        walk_at "go"
        refine ⟨v, .ref q7, .ref ta, p, pots.take ni ++ [en] ++ pots.drop (ni + 1) ++ [nw], tms, rfl, hpf.same s07, hfin, htaf.same s07, ⟨hpo, ?_, fun ts h => ?_, htm⟩, fun Hz sz => ?_⟩
        · rw [List.length_append, List.length_append, List.length_append, List.length_take, List.length_drop]
          show _ + 1 + _ + 1 ≤ _
          omega
        · rcases List.mem_append.mp h with h | h
          · rcases List.mem_append.mp h with h | h
            · rcases List.mem_append.mp h with h | h
              · exact hokp ts (List.mem_of_mem_take h)
              · rw [List.mem_singleton.mp h]; exact hen
            · exact hokp ts (List.mem_of_mem_drop h)
          · rw [List.mem_singleton.mp h]; exact h60
        · exact k Hz (ff'.tS (s07.trans sz)) (bf.same (s07.trans sz))
end
end K83
set_option maxRecDepth 100000
set_option maxHeartbeats 4000000
namespace K83
open PySem PySem.Spec PyProof.Rows L2
local macro_rules | `(tactic| walk_at "nz") => `(tactic| dsimp -proj only [L2.start, wipe, List.map_cons, List.map_nil, List.set, List.length, List.replicate, List.cons_append, List.nil_append, Nat.reduceSub, Nat.reduceAdd])
local macro_rules | `(tactic| walk_at "gg") => `(tactic| repeat (first | refine ⟨rfl, ?_⟩ | refine ⟨_, rfl, ?_⟩ | refine ⟨_, _, rfl, ?_⟩ | refine ⟨_, _, rfl, rfl, ?_⟩))
local macro_rules | `(tactic| walk_at "go") => `(tactic| ((try walk_at "nz"); walk_at "gg"; (try walk_at "nz")))
def spLaw (K : PySem.W.Frag) : Sp := fun vs H Q _ => ∃ (a : Addr) (ns : List Int), vs = [.ref a] ∧ SqL K H a (ns.map V.int) ∧ ns.length ≤ 63 ∧ ∀ H', Q (.bl true) H'
section
variable {P : Program} {w : World} {K : PySem.W.Frag} {mg : Str → Option Value} {base : Heap} {A : Nat → Addr} {D : Nat → FuncData} {C : Addr} {tk : Tok}
theorem sc_law : FnScope ["_law_script", "_law_cells_here", "_law_k", "_law_box_here", "_law_turn"] ["_law_script"] (defScope (topS 47)) := ⟨rfl, rfl, rfl, by decide +kernel, rfl, by decide +kernel, by decide +kernel⟩
theorem ok_law (T : Tx K mg A D C tk) : FnOk P w K mg base CX0 11 (A 47) (D 47) ["_law_script"] (spLaw K) := by
  have G__law_cells : FnOk P w K mg base CX0 1 (A 34) (D 34) _ _ := ok_cells T
  have G__law_box : FnOk P w K mg base CX0 1 (A 32) (D 32) _ _ := ok_box T
  have G__law_right : FnOk P w K mg base CX0 10 (A 46) (D 46) _ _ := ok_right T
  refine T.d_law.fn.ok sc_law (fun vs H Q E h => ?_) (fun cdv A0 outer s H vs Q E hr h => ?_)
  · obtain ⟨a, ns, rfl, _⟩ := h
    rfl
  · obtain ⟨a, ns, rfl, ha, hl, k⟩ := h
    refine ⟨_, (pss_cons (ps_set (i := 1) sc_law.nd rfl (Or.inl rfl) (pcall T.d__law_cells G__law_cells (hr.mono (by decide)) rfl (pa_cons (pv 0) (pa_cons pe_int pa_nil))))
 (pss_cons (ps_for PassesOwn.never rfl (pi_range1 (by rfl) T.range (pa_cons (pe_callB (lenS K) (by rfl) T.len (by decide +kernel) (pa_cons (pv 1) pa_nil)) pa_nil)) (pg_name (i := 2) sc_law.nd rfl (Or.inl rfl)) (pss_cons (ps_set (i := 3) sc_law.nd rfl (Or.inr rfl) (pcall T.d__law_box G__law_box (hr.mono (by decide)) rfl (pa_cons (pv 1) (pa_cons (pv 2) pa_nil))))
 (pss_one (ps_if (pt_not (pt_val (pe_callB (allB K) (by rfl) T.all (by decide +kernel) (pa_cons (pe_lc (own := [("_law_turn", 4)]) rfl sc_law.nd (pi_range1 (by rfl) T.range (pa_cons pe_int pa_nil)) (blkOk_by (N := ["_law_script", "_law_cells_here", "_law_k", "_law_box_here", "_law_turn"]) (sc := defScope (topS 47)) (by decide +kernel)) (fun _ _ _ _ _ => (pg_name (i := 4) sc_law.nd rfl (Or.inl rfl))) (fun _ _ _ _ _ => pts_nil) (fun _ _ _ _ _ => (pcall T.d__law_right G__law_right (hr.mono (by decide)) rfl (pa_cons (pv 3) pa_nil)))) pa_nil)))) (pss_one (ps_ret pe_bl)) pss_nil))))
 (pss_one (ps_ret pe_bl)))), ?_⟩
    walk_at "go"
    refine ⟨a, ns, rfl, ha, hl, fun lc ms H1 hlc s1 hms hm1 hm2 => ?_⟩
    walk_at "go"
    refine ⟨_, _, rfl, .inl (SqL.of hms), ?_⟩
    have hml : (ms.map V.int).length = ms.length := List.length_map _
    walk_at "go"
    let Pv : Nat → L2.St → Hp → Prop := fun i σ H5 => ∃ (z2 z3 z4 : Option V), σ = [some (.ref a), some (.ref lc), z2, z3, z4] ∧ H5 lc = some (.lst (ms.map V.int))
    refine ⟨by omega, by omega, ?_⟩
    rw [Int.toNat_natCast, hml]
    refine forG ms.length Pv ?_ ?_ ?_ ?_
    · exact ⟨_, _, _, rfl, hms⟩
    · rintro i σ H5 hi _
      exact hi
    · rintro i x σ H5 H6 hi ⟨z2, z3, z4, rfl, hm5⟩ y
      obtain ⟨rfl, rfl⟩ := y
      rw [Int.zero_add]
      walk_at "go"
      refine ⟨lc, ms, i, rfl, hm5, hi, fun b H6 hb s6 b6 => ?_⟩
      have hm6 := s6 _ _ hm5
      have ncb : lc ≠ b := ne_of_none hm5 hb
      walk_at "go"
      refine ⟨by decide, by decide, ?_⟩
      refine lcB 2 (fun D i acc H7 => acc = List.replicate i (V.bl true) ∧ Bx H7 b ∧ H7 lc = some (.lst (ms.map V.int)) ∧ H7 D = some (.lst acc)) ?_ ?_ ?_ ?_ ?_
      · intro D hD
        exact ⟨rfl, b6.upd (b6.ne hD), by rw [upd_ne (ne_of_none hm6 hD)]; exact hm6, upd_same⟩
      · rintro D j acc H7 hj ⟨rfl, _⟩
        rw [List.length_replicate, sizeLine_eq]; omega
      · rintro D j acc H7 _ hj _
        exact hj
      · rintro D j acc x H7 H8 N M hD hj ⟨rfl, b7, m7, d7⟩ hy hN
        obtain ⟨rfl, rfl⟩ := hy
        have nD : D ≠ b := b6.ne hD
        have nDl : lc ≠ D := ne_of_none hm6 hD
        walk_at "go"
        refine ⟨b7, fun H9 f9 b9 => ?_⟩
        exact hN _ _ (f9 _ _ nD d7) ⟨by rw [List.replicate_succ'], b9.upd nD, by rw [upd_ne nDl]; exact f9 _ _ ncb m7, upd_same⟩
      · rintro D acc H7 hD ⟨rfl, b7, m7, d7⟩
        refine ⟨Nat.le_refl _, ?_⟩
        walk_at "go"
        refine ⟨D, [true, true], rfl, SqL.of d7, ?_⟩
        walk_at "go"
        exact ⟨_, _, _, rfl, m7⟩
    · rintro σ H5 ⟨z2, z3, z4, rfl, hm5⟩
      refine ⟨Nat.le_refl _, ?_⟩
      exact k H5
end
end K83
set_option maxRecDepth 100000
set_option maxHeartbeats 4000000
namespace K83
open PySem PySem.Spec PyProof.Rows L2
section
variable {K : PySem.W.Frag} {mg : Str → Option Value} {h : Heap}
/-! ### what the top has written, fact by fact -/
theorem td_step {Z : Prop} {x : Str} {st : Stmt} {ps : List Str} {f : Addr} {oc kV doc pm cdv ct : Value} {od an : Option Addr} {osl : Array (Option Value)} (X : K.In h) (G : h.Ns mainGlobals mg)
    (b : ∀ (kV doc pm : Value) (an : Option Addr) (cdv ct : Value) (us : List Value), us.length = ps.length → bindArgs (PySem.W.fnOf x x (defArgs st) (defBody st) (defScope st) .none kV doc pm an cdv ct) ⟨us, []⟩ = pure (ps.zip us))
    (g : PySem.W.nsIn K mainGlobals x = some (some (.ref f))) (l : K.lookup f = some ⟨oc, od, .func (PySem.W.fnOf x x (defArgs st) (defBody st) (defScope st) .none kV doc pm an cdv ct), osl⟩) (c : PySem.W.codeIn K cdv x = true) (k : PySem.W.keepIn K (.ref f) = true)
    (rest : ∀ fd, TD K mg x st f fd ps → Z) : Z := rest _ ⟨PySem.W.mg_of X G g, fun_mk l c k, (fun_mk l c k).binds b⟩
theorem dv_step {Z : Prop} {x : Str} {st : Stmt} {i : Int} {f T : Addr} {t : Tok} {oc kV doc pm cdv ct oc' : Value} {od an od' : Option Addr} {osl osl' : Array (Option Value)} {n : Nat} (X : K.In h) (G : h.Ns mainGlobals mg)
    (g : PySem.W.nsIn K mainGlobals x = some (some (.ref f))) (l : K.lookup f = some ⟨oc, od, .func (PySem.W.fnOf x x (defArgs st) (defBody st) (defScope st) (.ref T) kV doc pm an cdv ct), osl⟩) (c : PySem.W.codeIn K cdv x = true) (k : PySem.W.keepIn K (.ref f) = true)
    (lT : K.lookup T = some ⟨oc', od', .seq [.int i t].toArray n, osl'⟩) (rest : ∀ fd, mg x = some (.ref f) → FunD K x x (defArgs st) (defBody st) (defScope st) [.int i] [] f fd → Z) : Z :=
  rest _ (PySem.W.mg_of X G g) ⟨⟨oc, od, .ref T, kV, doc, pm, an, cdv, ct, osl, rfl, l, c, .inr ⟨by simp, T, _, _, _, rfl, lT, rfl, .cons ⟨t, rfl⟩ .nil⟩, .inl rfl⟩, k⟩
theorem ns_step {Z : Prop} {x : Str} {v : Value} (X : K.In h) (G : h.Ns mainGlobals mg) (g : PySem.W.nsIn K mainGlobals x = some (some v)) (rest : mg x = some v → Z) : Z := rest (PySem.W.mg_of X G g)
theorem no_step {Z : Prop} {x : Str} (X : K.In h) (G : h.Ns mainGlobals mg) (g : PySem.W.nsIn K mainGlobals x = some none) (rest : mg x = none → Z) : Z := rest (PySem.W.mg_none_of X G g)
theorem cl_step {Z : Prop} {C : Addr} (X : K.In h) (gC : mg "Serving" = some (.ref C)) (pg : PySem.W.plainGet K C Str.empty = true) (hd : PySem.W.hasDictIn K C = true) (po : PySem.W.plainOver K C = true) (sa : PySem.W.findIn K (.ref C) "__setattr__" = some (some (.builtin "object.__setattr__"))) (rest : Cls K C → Z) : Z := rest ⟨pg, hd, po, sa⟩
theorem at_step {Z : Prop} {C : Addr} {x : Str} (cl : Cls K C) (n : PySem.W.findIn K (.ref C) x = some none) (rest : NoAttr K C x → Z) : Z := rest n
theorem me_step {Z : Prop} {C f : Addr} {m q : Str} {st : Stmt} {ps : List Str} {oc kV doc pm cdv ct : Value} {od an : Option Addr} {osl : Array (Option Value)} (cl : Cls K C)
    (b : ∀ (kV doc pm : Value) (an : Option Addr) (cdv ct : Value) (us : List Value), us.length = ps.length → bindArgs (PySem.W.fnOf m q (defArgs st) (defBody st) (defScope st) .none kV doc pm an cdv ct) ⟨us, []⟩ = pure (ps.zip us))
    (a : PySem.W.findIn K (.ref C) m = some (some (.ref f))) (i : PySem.W.isFn K (.ref f) = true) (l : K.lookup f = some ⟨oc, od, .func (PySem.W.fnOf m q (defArgs st) (defBody st) (defScope st) .none kV doc pm an cdv ct), osl⟩) (c : PySem.W.codeIn K cdv q = true) (k : PySem.W.keepIn K (.ref f) = true)
    (rest : ∀ fd, Meth K C m f → Fun K m q st f fd → Binds K fd ps [] → PySem.W.fnIn K f = true → Z) : Z := rest _ ⟨a, i, k⟩ (fun_mk l c k) ((fun_mk l c k).binds b) (by unfold PySem.W.fnIn; rw [l])
theorem mk_step {Z : Prop} {C f : Addr} (m : Meth K C "__init__" f) (mk : PySem.W.makesIn K C = true) (kc : PySem.W.keepIn K (.ref C) = true) (rest : Mk K C f → Z) : Z := rest ⟨mk, m.at_, m.fn, kc⟩
theorem bm_step {Z : Prop} {C g : Addr} {m : Str} (mt : Meth K C m g) (gf : PySem.W.specialIn K (.ref g) "__get__" = some (some (.builtin "function.__get__"))) (tk : PySem.W.takesIn K (.ref g) = some false) (cp : PySem.W.copiedNames.contains m = false) (fi : PySem.W.fnIn K g = true) (rest : BMeth K C m g → Z) : Z := rest ⟨mt, gf, tk, cp, fi⟩
theorem vals_nil {ds : List Value} (h : Vals [] ds) : ds = [] := by cases h; rfl

theorem b_ready_at {f : Addr} {fd : FuncData} (F : FunD K "ready_at" "ready_at" (defArgs (topS 8)) (defBody (topS 8)) (defScope (topS 8)) [.int 0] [] f fd) : Binds K fd ["palette", "colour", "at"] [] := by
  obtain ⟨ds, h1, h2⟩ := F.binds1 (ps := ["palette", "colour", "at"]) 3 1 (by simp) rfl fun T kV doc pm an cdv ct us its hu hi => match us, its, hu, hi with | [_, _, _], [_], _, _ => ⟨_, rfl, rfl⟩
  rw [vals_nil h1] at h2
  exact h2
theorem b_broken {f : Addr} {fd : FuncData} (F : FunD K "broken" "broken" (defArgs (topS 30)) (defBody (topS 30)) (defScope (topS 30)) [.int 24] [] f fd) : Binds K fd ["palette", "turns", "hour", "warm"] [] := by
  obtain ⟨ds, h1, h2⟩ := F.binds1 (ps := ["palette", "turns", "hour", "warm"]) 4 1 (by simp) rfl fun T kV doc pm an cdv ct us its hu hi => match us, its, hu, hi with | [_, _, _, _], [_], _, _ => ⟨_, rfl, rfl⟩
  rw [vals_nil h1] at h2
  exact h2
theorem b_wants_of {f : Addr} {fd : FuncData} (F : FunD K "wants_of" "wants_of" (defArgs (topS 12)) (defBody (topS 12)) (defScope (topS 12)) [.int 60] [] f fd) : ∃ ds, Vals [.int 60] ds ∧ Binds K fd ["teams", "colour", "hours"] ds :=
  F.binds1 (ps := ["teams", "colour", "hours"]) 2 0 (by simp) rfl fun T kV doc pm an cdv ct us its hu hi => match us, its, hu, hi with | [_, _], [_], _, _ => ⟨_, rfl, rfl⟩
theorem tx_mk {C : Addr} {tk : Tok} {f2 f6 f7 f8 f10 f11 f12 f13 f14 f15 f18 f19 f20 f21 f22 f23 f24 f25 f27 f28 f29 f30 f32 f33 f34 f35 f36 f37 f38 f39 f40 f41 f42 f43 f44 f45 f46 f47 f100 f101 f102 f103 f104 f105 f106 f107 : Addr} {D2 D6 D7 D8 D10 D11 D12 D13 D14 D15 D18 D19 D20 D21 D22 D23 D24 D25 D27 D28 D29 D30 D32 D33 D34 D35 D36 D37 D38 D39 D40 D41 D42 D43 D44 D45 D46 D47 D100 D101 D102 D103 D104 D105 D106 D107 : FuncData}
    (z_len : mg "len" = none)
    (z_range : mg "range" = none)
    (z_enumerate : mg "enumerate" = none)
    (z_zip : mg "zip" = none)
    (z_sorted : mg "sorted" = none)
    (z_set : mg "set" = none)
    (z_sum : mg "sum" = none)
    (z_all : mg "all" = none)
    (z_abs : mg "abs" = none)
    (z_int : mg "int" = none)
    (z_list : mg "list" = none)
    (z_tuple : mg "tuple" = none)
    (z_dict : mg "dict" = none)
    (z_min : mg "min" = none)
    (z_max : mg "max" = none)
    (zOUT : mg "OUT" = some (.str "out" tk))
    (d2 : TD K mg "served" (topS 2) f2 D2 ["offers", "wants"])
    (d6 : TD K mg "colour_row" (topS 6) f6 D6 ["palette", "colour"])
    (d7 : TD K mg "wash_for" (topS 7) f7 D7 ["palette", "ahead", "behind"])
    (d10 : TD K mg "offers_of" (topS 10) f10 D10 ["palette", "pots", "colour"])
    (d11 : TD K mg "wanting_at" (topS 11) f11 D11 ["teams", "colour", "hour"])
    (d13 : TD K mg "served_by" (topS 13) f13 D13 ["offers", "wants"])
    (d14 : TD K mg "hour_and_colour" (topS 14) f14 D14 ["lack"])
    (d15 : TD K mg "worked_by" (topS 15) f15 D15 ["palette", "pots", "teams"])
    (d18 : TD K mg "step_fault" (topS 18) f18 D18 ["palette", "ahead", "turn"])
    (d19 : TD K mg "turn_fault" (topS 19) f19 D19 ["palette", "turns", "number"])
    (d20 : TD K mg "fault_of" (topS 20) f20 D20 ["palette", "turns"])
    (d21 : TD K mg "word_ends" (topS 21) f21 D21 ["palette", "turn", "wash"])
    (d22 : TD K mg "word_by" (topS 22) f22 D22 ["palette", "turn", "wash", "hour"])
    (d23 : TD K mg "wash_behind" (topS 23) f23 D23 ["palette", "turns", "number"])
    (d24 : TD K mg "last_filled" (topS 24) f24 D24 ["turns", "hour"])
    (d25 : TD K mg "state_at" (topS 25) f25 D25 ["palette", "turns", "hour"])
    (d27 : TD K mg "moved_turn" (topS 27) f27 D27 ["palette", "turn", "free"])
    (d28 : TD K mg "later_turns" (topS 28) f28 D28 ["palette", "rest", "free"])
    (d29 : TD K mg "first_behind" (topS 29) f29 D29 ["turns", "hour"])
    (d32 : TD K mg "_law_box" (topS 32) f32 D32 ["_law_cells_here", "_law_k"])
    (d33 : TD K mg "_law_take" (topS 33) f33 D33 ["_law_box_here", "_law_many"])
    (d34 : TD K mg "_law_cells" (topS 34) f34 D34 ["_law_script", "_law_most"])
    (d35 : TD K mg "_law_names" (topS 35) f35 D35 ["_law_box_here", "_law_many"])
    (d36 : TD K mg "_law_palette" (topS 36) f36 D36 ["_law_box_here", "_law_most"])
    (d37 : TD K mg "_law_wash" (topS 37) f37 D37 ["_law_palette_here", "_law_ahead", "_law_behind"])
    (d38 : TD K mg "_law_pot" (topS 38) f38 D38 ["_law_box_here", "_law_palette_here", "_law_counts"])
    (d39 : TD K mg "_law_pots" (topS 39) f39 D39 ["_law_box_here", "_law_palette_here", "_law_most"])
    (d40 : TD K mg "_law_team" (topS 40) f40 D40 ["_law_box_here", "_law_palette_here", "_law_pots_here", "_law_name"])
    (d41 : TD K mg "_law_own_teams" (topS 41) f41 D41 ["_law_box_here", "_law_palette_here", "_law_pots_here", "_law_names_here"])
    (d42 : TD K mg "_law_worked_now" (topS 42) f42 D42 ["_law_palette_here", "_law_pots_here", "_law_hour"])
    (d43 : TD K mg "_law_walked" (topS 43) f43 D43 ["_law_palette_here", "_law_pots_here", "_law_teams", "_law_rows"])
    (d44 : TD K mg "_law_lack_right" (topS 44) f44 D44 ["_law_palette_here", "_law_pots_here", "_law_teams", "_law_lack"])
    (d45 : TD K mg "_law_day_right" (topS 45) f45 D45 ["_law_palette_here", "_law_pots_here", "_law_teams"])
    (d46 : TD K mg "_law_right" (topS 46) f46 D46 ["_law_box_here"])
    (d47 : TD K mg "law" (topS 47) f47 D47 ["_law_script"])
    (g8 : mg "ready_at" = some (.ref f8)) (e8 : FunD K "ready_at" "ready_at" (defArgs (topS 8)) (defBody (topS 8)) (defScope (topS 8)) [.int 0] [] f8 D8)
    (g30 : mg "broken" = some (.ref f30)) (e30 : FunD K "broken" "broken" (defArgs (topS 30)) (defBody (topS 30)) (defScope (topS 30)) [.int 24] [] f30 D30)
    (g12 : mg "wants_of" = some (.ref f12)) (e12 : FunD K "wants_of" "wants_of" (defArgs (topS 12)) (defBody (topS 12)) (defScope (topS 12)) [.int 60] [] f12 D12)
    (gC : mg "Serving" = some (.ref C)) (cl : Cls K C) (mk : Mk K C f100)
    (n_offers : NoAttr K C "offers")
    (n_left : NoAttr K C "left")
    (n_hourly : NoAttr K C "hourly")
    (m100 : Meth K C "__init__" f100) (u100 : Fun K "__init__" "Serving.__init__" (inClass (topS 1) 0) f100 D100) (b100 : Binds K D100 ["self", "offers"] [])
    (m101 : Meth K C "gathers_left" f101) (u101 : Fun K "gathers_left" "Serving.gathers_left" (inClass (topS 1) 1) f101 D101) (b101 : Binds K D101 ["self", "number"] [])
    (m102 : Meth K C "untaken_at" f102) (u102 : Fun K "untaken_at" "Serving.untaken_at" (inClass (topS 1) 2) f102 D102) (b102 : Binds K D102 ["self", "hour"] [])
    (m103 : Meth K C "hours_of" f103) (u103 : Fun K "hours_of" "Serving.hours_of" (inClass (topS 1) 3) f103 D103) (b103 : Binds K D103 ["self", "number"] [])
    (m104 : Meth K C "way_from" f104) (u104 : Fun K "way_from" "Serving.way_from" (inClass (topS 1) 4) f104 D104) (b104 : Binds K D104 ["self", "hour"] [])
    (m105 : Meth K C "take" f105) (u105 : Fun K "take" "Serving.take" (inClass (topS 1) 5) f105 D105) (b105 : Binds K D105 ["self", "ways", "number"] [])
    (m106 : Meth K C "hours_met" f106) (u106 : Fun K "hours_met" "Serving.hours_met" (inClass (topS 1) 6) f106 D106) (b106 : Binds K D106 ["self", "ways", "hour"] [])
    (m107 : Meth K C "lack_at" f107) (u107 : Fun K "lack_at" "Serving.lack_at" (inClass (topS 1) 7) f107 D107) (b107 : Binds K D107 ["self", "hour", "many"] [])
    (bm : BMeth K C "gathers_left" f101) :
    Tx K mg (fun i => match i with | 2 => f2 | 6 => f6 | 7 => f7 | 8 => f8 | 10 => f10 | 11 => f11 | 12 => f12 | 13 => f13 | 14 => f14 | 15 => f15 | 18 => f18 | 19 => f19 | 20 => f20 | 21 => f21 | 22 => f22 | 23 => f23 | 24 => f24 | 25 => f25 | 27 => f27 | 28 => f28 | 29 => f29 | 30 => f30 | 32 => f32 | 33 => f33 | 34 => f34 | 35 => f35 | 36 => f36 | 37 => f37 | 38 => f38 | 39 => f39 | 40 => f40 | 41 => f41 | 42 => f42 | 43 => f43 | 44 => f44 | 45 => f45 | 46 => f46 | 47 => f47 | 100 => f100 | 101 => f101 | 102 => f102 | 103 => f103 | 104 => f104 | 105 => f105 | 106 => f106 | 107 => f107 | _ => C) (fun i => match i with | 2 => D2 | 6 => D6 | 7 => D7 | 8 => D8 | 10 => D10 | 11 => D11 | 12 => D12 | 13 => D13 | 14 => D14 | 15 => D15 | 18 => D18 | 19 => D19 | 20 => D20 | 21 => D21 | 22 => D22 | 23 => D23 | 24 => D24 | 25 => D25 | 27 => D27 | 28 => D28 | 29 => D29 | 30 => D30 | 32 => D32 | 33 => D33 | 34 => D34 | 35 => D35 | 36 => D36 | 37 => D37 | 38 => D38 | 39 => D39 | 40 => D40 | 41 => D41 | 42 => D42 | 43 => D43 | 44 => D44 | 45 => D45 | 46 => D46 | 47 => D47 | 100 => D100 | 101 => D101 | 102 => D102 | 103 => D103 | 104 => D104 | 105 => D105 | 106 => D106 | 107 => D107 | _ => D2) C tk where
  len := z_len
  range := z_range
  enumerate := z_enumerate
  zip := z_zip
  sorted := z_sorted
  set := z_set
  sum := z_sum
  all := z_all
  abs := z_abs
  int := z_int
  list := z_list
  tuple := z_tuple
  dict := z_dict
  min := z_min
  max := z_max
  OUT := zOUT
  d_served := d2
  d_colour_row := d6
  d_wash_for := d7
  d_offers_of := d10
  d_wanting_at := d11
  d_served_by := d13
  d_hour_and_colour := d14
  d_worked_by := d15
  d_step_fault := d18
  d_turn_fault := d19
  d_fault_of := d20
  d_word_ends := d21
  d_word_by := d22
  d_wash_behind := d23
  d_last_filled := d24
  d_state_at := d25
  d_moved_turn := d27
  d_later_turns := d28
  d_first_behind := d29
  d__law_box := d32
  d__law_take := d33
  d__law_cells := d34
  d__law_names := d35
  d__law_palette := d36
  d__law_wash := d37
  d__law_pot := d38
  d__law_pots := d39
  d__law_team := d40
  d__law_own_teams := d41
  d__law_worked_now := d42
  d__law_walked := d43
  d__law_lack_right := d44
  d__law_day_right := d45
  d__law_right := d46
  d_law := d47
  mg_ready_at := g8
  fn_ready_at := e8
  b_ready_at := b_ready_at e8
  mg_broken := g30
  fn_broken := e30
  b_broken := b_broken e30
  mg_wants_of := g12
  fn_wants_of := e12
  b_wants_of := b_wants_of e12
  mgC := gC
  cl := cl
  mkS := mk
  n_offers := n_offers
  n_left := n_left
  n_hourly := n_hourly
  f_init := u100
  b_init := b100
  f_gathers_left := u101
  b_gathers_left := b101
  m_gathers_left := m101
  f_untaken_at := u102
  b_untaken_at := b102
  m_untaken_at := m102
  f_hours_of := u103
  b_hours_of := b103
  m_hours_of := m103
  f_way_from := u104
  b_way_from := b104
  m_way_from := m104
  f_take := u105
  b_take := b105
  m_take := m105
  f_hours_met := u106
  b_hours_met := b106
  m_hours_met := m106
  f_lack_at := u107
  b_lack_at := b107
  m_lack_at := m107
  bm_gathers_left := bm
theorem law_fin {P : Program} {w : World} {A : Nat → Addr} {D : Nat → FuncData} {C fa : Addr} {tk : Tok} (T : Tx K mg A D C tk) (hfa : mg "law" = some (.ref fa)) :
    ∃ fd : FuncData, (∀ (s : Shared) (u : Value), BindsTo s fd ⟨[u], []⟩ [("_law_script", u)]) ∧ ∀ base : Heap, K.In base → base.Ns mainGlobals mg → FnOk P w K mg base CX0 11 fa fd ["_law_script"] (spLaw K) := by
  have e := hfa.symm.trans T.d_law.mg
  cases e
  refine ⟨D 47, fun s u => ?_, fun base _ _ => ok_law T⟩
  obtain ⟨oc, od, kV, doc, pm, an, cdv, ct, osl, e1, _, _⟩ := T.d_law.fn.ex
  rw [e1]
  exact .of_eq rfl
end
theorem walk {l : PySem.W.OpenLaw} {q : Program} {loose : List Str} {XP : (Str → Option Value) → Heap → Prop} {YP : World → Heap → Prop} {d : DefRec} {K : Params → PySem.W.Frag} (hn : l.most = some 63) (hdf : d.params.defaults = [])
    (hY : ∀ (w : World) (h : Heap), YP w h → (K w.params).In h)
    (F : ∀ (w : World) (mg : Str → Option Value) (fa : Addr) (h : Heap), (K w.params).In h → h.Ns mainGlobals mg → mg d.name = some (.ref fa) →
      ∃ fd : FuncData, (∀ (s : Shared) (u : Value), BindsTo s fd ⟨[u], []⟩ [("_law_script", u)]) ∧ ∀ base : Heap, (K w.params).In base → base.Ns mainGlobals mg → FnOk l.prog w (K w.params) mg base CX0 11 fa fd ["_law_script"] (spLaw (K w.params))) :
    PySem.W.WalkO q loose XP YP l.row.toRowW d [] (fun f vs => PySem.call f vs) :=
  L2.walk_of (n := 63) (k := 11) (x := "_law_script") (CX := fun _ => CX0) (sp := fun w => spLaw (K w.params)) hn (by decide) hdf ⟨rfl, by decide, by decide⟩ hY F (fun _ _ a ns hl _ hS => ⟨a, ns, rfl, hS, hl, fun _ => rfl⟩) fun _ _ _ _ _ z => z
end K83
open PySem PySem.W PyProof.Rows
set_option maxRecDepth 100000
set_option maxHeartbeats 0
open_top k83head for PySem.Challenge.rw_potround_k83_whole_a_day_of_all_teams
set_option maxRecDepth 100000 in
set_option maxHeartbeats 0 in
theorem PySem.Challenge.cw_potround_k83_whole_a_day_of_all_teams_holds : PySem.Challenge.rw_potround_k83_whole_a_day_of_all_teams.Holds := by
  refine k83head ?_
  k_fill
  refine K83.walk (l := PySem.Challenge.rw_potround_k83_whole_a_day_of_all_teams) rfl rfl (fun w h Y => PySem.W.kIn_of Y) ?F
  case F =>
    intro w mg fa h KX G hmg
    refine' K83.no_step KX G (x := "len") ?g_1 ?rest_1; (case g_1 => k_is); intro z_len
    refine' K83.no_step KX G (x := "range") ?g_2 ?rest_2; (case g_2 => k_is); intro z_range
    refine' K83.no_step KX G (x := "enumerate") ?g_3 ?rest_3; (case g_3 => k_is); intro z_enumerate
    refine' K83.no_step KX G (x := "zip") ?g_4 ?rest_4; (case g_4 => k_is); intro z_zip
    refine' K83.no_step KX G (x := "sorted") ?g_5 ?rest_5; (case g_5 => k_is); intro z_sorted
    refine' K83.no_step KX G (x := "set") ?g_6 ?rest_6; (case g_6 => k_is); intro z_set
    refine' K83.no_step KX G (x := "sum") ?g_7 ?rest_7; (case g_7 => k_is); intro z_sum
    refine' K83.no_step KX G (x := "all") ?g_8 ?rest_8; (case g_8 => k_is); intro z_all
    refine' K83.no_step KX G (x := "abs") ?g_9 ?rest_9; (case g_9 => k_is); intro z_abs
    refine' K83.no_step KX G (x := "int") ?g_10 ?rest_10; (case g_10 => k_is); intro z_int
    refine' K83.no_step KX G (x := "list") ?g_11 ?rest_11; (case g_11 => k_is); intro z_list
    refine' K83.no_step KX G (x := "tuple") ?g_12 ?rest_12; (case g_12 => k_is); intro z_tuple
    refine' K83.no_step KX G (x := "dict") ?g_13 ?rest_13; (case g_13 => k_is); intro z_dict
    refine' K83.no_step KX G (x := "min") ?g_14 ?rest_14; (case g_14 => k_is); intro z_min
    refine' K83.no_step KX G (x := "max") ?g_15 ?rest_15; (case g_15 => k_is); intro z_max
    refine' K83.ns_step KX G (x := "OUT") ?g_16 ?rest_16; (case g_16 => k_is); intro zOUT
    refine' K83.td_step KX G (x := "served") (st := K83.topS 2) (ps := ["offers", "wants"]) (fun _ _ _ _ _ _ us hl => match us, hl with | [_, _], _ => rfl) ?g_17 ?l_17 ?c_17 ?k_17 ?rest_17; (case g_17 => k_is); (case l_17 => k_is); (case c_17 => k_is); (case k_17 => k_is); intro D2 d2
    refine' K83.td_step KX G (x := "colour_row") (st := K83.topS 6) (ps := ["palette", "colour"]) (fun _ _ _ _ _ _ us hl => match us, hl with | [_, _], _ => rfl) ?g_18 ?l_18 ?c_18 ?k_18 ?rest_18; (case g_18 => k_is); (case l_18 => k_is); (case c_18 => k_is); (case k_18 => k_is); intro D6 d6
    refine' K83.td_step KX G (x := "wash_for") (st := K83.topS 7) (ps := ["palette", "ahead", "behind"]) (fun _ _ _ _ _ _ us hl => match us, hl with | [_, _, _], _ => rfl) ?g_19 ?l_19 ?c_19 ?k_19 ?rest_19; (case g_19 => k_is); (case l_19 => k_is); (case c_19 => k_is); (case k_19 => k_is); intro D7 d7
    refine' K83.td_step KX G (x := "offers_of") (st := K83.topS 10) (ps := ["palette", "pots", "colour"]) (fun _ _ _ _ _ _ us hl => match us, hl with | [_, _, _], _ => rfl) ?g_20 ?l_20 ?c_20 ?k_20 ?rest_20; (case g_20 => k_is); (case l_20 => k_is); (case c_20 => k_is); (case k_20 => k_is); intro D10 d10
    refine' K83.td_step KX G (x := "wanting_at") (st := K83.topS 11) (ps := ["teams", "colour", "hour"]) (fun _ _ _ _ _ _ us hl => match us, hl with | [_, _, _], _ => rfl) ?g_21 ?l_21 ?c_21 ?k_21 ?rest_21; (case g_21 => k_is); (case l_21 => k_is); (case c_21 => k_is); (case k_21 => k_is); intro D11 d11
    refine' K83.td_step KX G (x := "served_by") (st := K83.topS 13) (ps := ["offers", "wants"]) (fun _ _ _ _ _ _ us hl => match us, hl with | [_, _], _ => rfl) ?g_22 ?l_22 ?c_22 ?k_22 ?rest_22; (case g_22 => k_is); (case l_22 => k_is); (case c_22 => k_is); (case k_22 => k_is); intro D13 d13
    refine' K83.td_step KX G (x := "hour_and_colour") (st := K83.topS 14) (ps := ["lack"]) (fun _ _ _ _ _ _ us hl => match us, hl with | [_], _ => rfl) ?g_23 ?l_23 ?c_23 ?k_23 ?rest_23; (case g_23 => k_is); (case l_23 => k_is); (case c_23 => k_is); (case k_23 => k_is); intro D14 d14
    refine' K83.td_step KX G (x := "worked_by") (st := K83.topS 15) (ps := ["palette", "pots", "teams"]) (fun _ _ _ _ _ _ us hl => match us, hl with | [_, _, _], _ => rfl) ?g_24 ?l_24 ?c_24 ?k_24 ?rest_24; (case g_24 => k_is); (case l_24 => k_is); (case c_24 => k_is); (case k_24 => k_is); intro D15 d15
    refine' K83.td_step KX G (x := "step_fault") (st := K83.topS 18) (ps := ["palette", "ahead", "turn"]) (fun _ _ _ _ _ _ us hl => match us, hl with | [_, _, _], _ => rfl) ?g_25 ?l_25 ?c_25 ?k_25 ?rest_25; (case g_25 => k_is); (case l_25 => k_is); (case c_25 => k_is); (case k_25 => k_is); intro D18 d18
    refine' K83.td_step KX G (x := "turn_fault") (st := K83.topS 19) (ps := ["palette", "turns", "number"]) (fun _ _ _ _ _ _ us hl => match us, hl with | [_, _, _], _ => rfl) ?g_26 ?l_26 ?c_26 ?k_26 ?rest_26; (case g_26 => k_is); (case l_26 => k_is); (case c_26 => k_is); (case k_26 => k_is); intro D19 d19
    refine' K83.td_step KX G (x := "fault_of") (st := K83.topS 20) (ps := ["palette", "turns"]) (fun _ _ _ _ _ _ us hl => match us, hl with | [_, _], _ => rfl) ?g_27 ?l_27 ?c_27 ?k_27 ?rest_27; (case g_27 => k_is); (case l_27 => k_is); (case c_27 => k_is); (case k_27 => k_is); intro D20 d20
    refine' K83.td_step KX G (x := "word_ends") (st := K83.topS 21) (ps := ["palette", "turn", "wash"]) (fun _ _ _ _ _ _ us hl => match us, hl with | [_, _, _], _ => rfl) ?g_28 ?l_28 ?c_28 ?k_28 ?rest_28; (case g_28 => k_is); (case l_28 => k_is); (case c_28 => k_is); (case k_28 => k_is); intro D21 d21
    refine' K83.td_step KX G (x := "word_by") (st := K83.topS 22) (ps := ["palette", "turn", "wash", "hour"]) (fun _ _ _ _ _ _ us hl => match us, hl with | [_, _, _, _], _ => rfl) ?g_29 ?l_29 ?c_29 ?k_29 ?rest_29; (case g_29 => k_is); (case l_29 => k_is); (case c_29 => k_is); (case k_29 => k_is); intro D22 d22
    refine' K83.td_step KX G (x := "wash_behind") (st := K83.topS 23) (ps := ["palette", "turns", "number"]) (fun _ _ _ _ _ _ us hl => match us, hl with | [_, _, _], _ => rfl) ?g_30 ?l_30 ?c_30 ?k_30 ?rest_30; (case g_30 => k_is); (case l_30 => k_is); (case c_30 => k_is); (case k_30 => k_is); intro D23 d23
    refine' K83.td_step KX G (x := "last_filled") (st := K83.topS 24) (ps := ["turns", "hour"]) (fun _ _ _ _ _ _ us hl => match us, hl with | [_, _], _ => rfl) ?g_31 ?l_31 ?c_31 ?k_31 ?rest_31; (case g_31 => k_is); (case l_31 => k_is); (case c_31 => k_is); (case k_31 => k_is); intro D24 d24
    refine' K83.td_step KX G (x := "state_at") (st := K83.topS 25) (ps := ["palette", "turns", "hour"]) (fun _ _ _ _ _ _ us hl => match us, hl with | [_, _, _], _ => rfl) ?g_32 ?l_32 ?c_32 ?k_32 ?rest_32; (case g_32 => k_is); (case l_32 => k_is); (case c_32 => k_is); (case k_32 => k_is); intro D25 d25
    refine' K83.td_step KX G (x := "moved_turn") (st := K83.topS 27) (ps := ["palette", "turn", "free"]) (fun _ _ _ _ _ _ us hl => match us, hl with | [_, _, _], _ => rfl) ?g_33 ?l_33 ?c_33 ?k_33 ?rest_33; (case g_33 => k_is); (case l_33 => k_is); (case c_33 => k_is); (case k_33 => k_is); intro D27 d27
    refine' K83.td_step KX G (x := "later_turns") (st := K83.topS 28) (ps := ["palette", "rest", "free"]) (fun _ _ _ _ _ _ us hl => match us, hl with | [_, _, _], _ => rfl) ?g_34 ?l_34 ?c_34 ?k_34 ?rest_34; (case g_34 => k_is); (case l_34 => k_is); (case c_34 => k_is); (case k_34 => k_is); intro D28 d28
    refine' K83.td_step KX G (x := "first_behind") (st := K83.topS 29) (ps := ["turns", "hour"]) (fun _ _ _ _ _ _ us hl => match us, hl with | [_, _], _ => rfl) ?g_35 ?l_35 ?c_35 ?k_35 ?rest_35; (case g_35 => k_is); (case l_35 => k_is); (case c_35 => k_is); (case k_35 => k_is); intro D29 d29
    refine' K83.td_step KX G (x := "_law_box") (st := K83.topS 32) (ps := ["_law_cells_here", "_law_k"]) (fun _ _ _ _ _ _ us hl => match us, hl with | [_, _], _ => rfl) ?g_36 ?l_36 ?c_36 ?k_36 ?rest_36; (case g_36 => k_is); (case l_36 => k_is); (case c_36 => k_is); (case k_36 => k_is); intro D32 d32
    refine' K83.td_step KX G (x := "_law_take") (st := K83.topS 33) (ps := ["_law_box_here", "_law_many"]) (fun _ _ _ _ _ _ us hl => match us, hl with | [_, _], _ => rfl) ?g_37 ?l_37 ?c_37 ?k_37 ?rest_37; (case g_37 => k_is); (case l_37 => k_is); (case c_37 => k_is); (case k_37 => k_is); intro D33 d33
    refine' K83.td_step KX G (x := "_law_cells") (st := K83.topS 34) (ps := ["_law_script", "_law_most"]) (fun _ _ _ _ _ _ us hl => match us, hl with | [_, _], _ => rfl) ?g_38 ?l_38 ?c_38 ?k_38 ?rest_38; (case g_38 => k_is); (case l_38 => k_is); (case c_38 => k_is); (case k_38 => k_is); intro D34 d34
    refine' K83.td_step KX G (x := "_law_names") (st := K83.topS 35) (ps := ["_law_box_here", "_law_many"]) (fun _ _ _ _ _ _ us hl => match us, hl with | [_, _], _ => rfl) ?g_39 ?l_39 ?c_39 ?k_39 ?rest_39; (case g_39 => k_is); (case l_39 => k_is); (case c_39 => k_is); (case k_39 => k_is); intro D35 d35
    refine' K83.td_step KX G (x := "_law_palette") (st := K83.topS 36) (ps := ["_law_box_here", "_law_most"]) (fun _ _ _ _ _ _ us hl => match us, hl with | [_, _], _ => rfl) ?g_40 ?l_40 ?c_40 ?k_40 ?rest_40; (case g_40 => k_is); (case l_40 => k_is); (case c_40 => k_is); (case k_40 => k_is); intro D36 d36
    refine' K83.td_step KX G (x := "_law_wash") (st := K83.topS 37) (ps := ["_law_palette_here", "_law_ahead", "_law_behind"]) (fun _ _ _ _ _ _ us hl => match us, hl with | [_, _, _], _ => rfl) ?g_41 ?l_41 ?c_41 ?k_41 ?rest_41; (case g_41 => k_is); (case l_41 => k_is); (case c_41 => k_is); (case k_41 => k_is); intro D37 d37
    refine' K83.td_step KX G (x := "_law_pot") (st := K83.topS 38) (ps := ["_law_box_here", "_law_palette_here", "_law_counts"]) (fun _ _ _ _ _ _ us hl => match us, hl with | [_, _, _], _ => rfl) ?g_42 ?l_42 ?c_42 ?k_42 ?rest_42; (case g_42 => k_is); (case l_42 => k_is); (case c_42 => k_is); (case k_42 => k_is); intro D38 d38
    refine' K83.td_step KX G (x := "_law_pots") (st := K83.topS 39) (ps := ["_law_box_here", "_law_palette_here", "_law_most"]) (fun _ _ _ _ _ _ us hl => match us, hl with | [_, _, _], _ => rfl) ?g_43 ?l_43 ?c_43 ?k_43 ?rest_43; (case g_43 => k_is); (case l_43 => k_is); (case c_43 => k_is); (case k_43 => k_is); intro D39 d39
    refine' K83.td_step KX G (x := "_law_team") (st := K83.topS 40) (ps := ["_law_box_here", "_law_palette_here", "_law_pots_here", "_law_name"]) (fun _ _ _ _ _ _ us hl => match us, hl with | [_, _, _, _], _ => rfl) ?g_44 ?l_44 ?c_44 ?k_44 ?rest_44; (case g_44 => k_is); (case l_44 => k_is); (case c_44 => k_is); (case k_44 => k_is); intro D40 d40
    refine' K83.td_step KX G (x := "_law_own_teams") (st := K83.topS 41) (ps := ["_law_box_here", "_law_palette_here", "_law_pots_here", "_law_names_here"]) (fun _ _ _ _ _ _ us hl => match us, hl with | [_, _, _, _], _ => rfl) ?g_45 ?l_45 ?c_45 ?k_45 ?rest_45; (case g_45 => k_is); (case l_45 => k_is); (case c_45 => k_is); (case k_45 => k_is); intro D41 d41
    refine' K83.td_step KX G (x := "_law_worked_now") (st := K83.topS 42) (ps := ["_law_palette_here", "_law_pots_here", "_law_hour"]) (fun _ _ _ _ _ _ us hl => match us, hl with | [_, _, _], _ => rfl) ?g_46 ?l_46 ?c_46 ?k_46 ?rest_46; (case g_46 => k_is); (case l_46 => k_is); (case c_46 => k_is); (case k_46 => k_is); intro D42 d42
    refine' K83.td_step KX G (x := "_law_walked") (st := K83.topS 43) (ps := ["_law_palette_here", "_law_pots_here", "_law_teams", "_law_rows"]) (fun _ _ _ _ _ _ us hl => match us, hl with | [_, _, _, _], _ => rfl) ?g_47 ?l_47 ?c_47 ?k_47 ?rest_47; (case g_47 => k_is); (case l_47 => k_is); (case c_47 => k_is); (case k_47 => k_is); intro D43 d43
    refine' K83.td_step KX G (x := "_law_lack_right") (st := K83.topS 44) (ps := ["_law_palette_here", "_law_pots_here", "_law_teams", "_law_lack"]) (fun _ _ _ _ _ _ us hl => match us, hl with | [_, _, _, _], _ => rfl) ?g_48 ?l_48 ?c_48 ?k_48 ?rest_48; (case g_48 => k_is); (case l_48 => k_is); (case c_48 => k_is); (case k_48 => k_is); intro D44 d44
    refine' K83.td_step KX G (x := "_law_day_right") (st := K83.topS 45) (ps := ["_law_palette_here", "_law_pots_here", "_law_teams"]) (fun _ _ _ _ _ _ us hl => match us, hl with | [_, _, _], _ => rfl) ?g_49 ?l_49 ?c_49 ?k_49 ?rest_49; (case g_49 => k_is); (case l_49 => k_is); (case c_49 => k_is); (case k_49 => k_is); intro D45 d45
    refine' K83.td_step KX G (x := "_law_right") (st := K83.topS 46) (ps := ["_law_box_here"]) (fun _ _ _ _ _ _ us hl => match us, hl with | [_], _ => rfl) ?g_50 ?l_50 ?c_50 ?k_50 ?rest_50; (case g_50 => k_is); (case l_50 => k_is); (case c_50 => k_is); (case k_50 => k_is); intro D46 d46
    refine' K83.td_step KX G (x := "law") (st := K83.topS 47) (ps := ["_law_script"]) (fun _ _ _ _ _ _ us hl => match us, hl with | [_], _ => rfl) ?g_51 ?l_51 ?c_51 ?k_51 ?rest_51; (case g_51 => k_is); (case l_51 => k_is); (case c_51 => k_is); (case k_51 => k_is); intro D47 d47
    refine' K83.dv_step KX G (x := "ready_at") (st := K83.topS 8) (i := 0) ?g_52 ?l_52 ?c_52 ?k_52 ?lT_52 ?rest_52; (case g_52 => k_is); (case l_52 => k_is); (case c_52 => k_is); (case k_52 => k_is); (case lT_52 => k_is); intro D8 g8 e8
    refine' K83.dv_step KX G (x := "broken") (st := K83.topS 30) (i := 24) ?g_53 ?l_53 ?c_53 ?k_53 ?lT_53 ?rest_53; (case g_53 => k_is); (case l_53 => k_is); (case c_53 => k_is); (case k_53 => k_is); (case lT_53 => k_is); intro D30 g30 e30
    refine' K83.dv_step KX G (x := "wants_of") (st := K83.topS 12) (i := 60) ?g_54 ?l_54 ?c_54 ?k_54 ?lT_54 ?rest_54; (case g_54 => k_is); (case l_54 => k_is); (case c_54 => k_is); (case k_54 => k_is); (case lT_54 => k_is); intro D12 g12 e12
    refine' K83.ns_step KX G (x := "Serving") ?g_55 ?rest_55; (case g_55 => k_is); intro gC
    refine' K83.cl_step KX gC ?pg_56 ?hd_56 ?po_56 ?sa_56 ?rest_56; (case pg_56 => k_is); (case hd_56 => k_is); (case po_56 => k_is); (case sa_56 => k_is); intro cl
    refine' K83.at_step (x := "offers") cl ?n_57 ?rest_57; (case n_57 => k_is); intro n_offers
    refine' K83.at_step (x := "left") cl ?n_58 ?rest_58; (case n_58 => k_is); intro n_left
    refine' K83.at_step (x := "hourly") cl ?n_59 ?rest_59; (case n_59 => k_is); intro n_hourly
    refine' K83.me_step (m := "__init__") (q := "Serving.__init__") (st := L2.inClass (K83.topS 1) 0) (ps := ["self", "offers"]) cl (fun _ _ _ _ _ _ us hl => match us, hl with | [_, _], _ => rfl) ?a_60 ?i_60 ?l_60 ?c_60 ?k_60 ?rest_60; (case a_60 => k_is); (case i_60 => k_is); (case l_60 => k_is); (case c_60 => k_is); (case k_60 => k_is); intro D100 m100 u100 b100 fi100
    refine' K83.me_step (m := "gathers_left") (q := "Serving.gathers_left") (st := L2.inClass (K83.topS 1) 1) (ps := ["self", "number"]) cl (fun _ _ _ _ _ _ us hl => match us, hl with | [_, _], _ => rfl) ?a_61 ?i_61 ?l_61 ?c_61 ?k_61 ?rest_61; (case a_61 => k_is); (case i_61 => k_is); (case l_61 => k_is); (case c_61 => k_is); (case k_61 => k_is); intro D101 m101 u101 b101 fi101
    refine' K83.me_step (m := "untaken_at") (q := "Serving.untaken_at") (st := L2.inClass (K83.topS 1) 2) (ps := ["self", "hour"]) cl (fun _ _ _ _ _ _ us hl => match us, hl with | [_, _], _ => rfl) ?a_62 ?i_62 ?l_62 ?c_62 ?k_62 ?rest_62; (case a_62 => k_is); (case i_62 => k_is); (case l_62 => k_is); (case c_62 => k_is); (case k_62 => k_is); intro D102 m102 u102 b102 fi102
    refine' K83.me_step (m := "hours_of") (q := "Serving.hours_of") (st := L2.inClass (K83.topS 1) 3) (ps := ["self", "number"]) cl (fun _ _ _ _ _ _ us hl => match us, hl with | [_, _], _ => rfl) ?a_63 ?i_63 ?l_63 ?c_63 ?k_63 ?rest_63; (case a_63 => k_is); (case i_63 => k_is); (case l_63 => k_is); (case c_63 => k_is); (case k_63 => k_is); intro D103 m103 u103 b103 fi103
    refine' K83.me_step (m := "way_from") (q := "Serving.way_from") (st := L2.inClass (K83.topS 1) 4) (ps := ["self", "hour"]) cl (fun _ _ _ _ _ _ us hl => match us, hl with | [_, _], _ => rfl) ?a_64 ?i_64 ?l_64 ?c_64 ?k_64 ?rest_64; (case a_64 => k_is); (case i_64 => k_is); (case l_64 => k_is); (case c_64 => k_is); (case k_64 => k_is); intro D104 m104 u104 b104 fi104
    refine' K83.me_step (m := "take") (q := "Serving.take") (st := L2.inClass (K83.topS 1) 5) (ps := ["self", "ways", "number"]) cl (fun _ _ _ _ _ _ us hl => match us, hl with | [_, _, _], _ => rfl) ?a_65 ?i_65 ?l_65 ?c_65 ?k_65 ?rest_65; (case a_65 => k_is); (case i_65 => k_is); (case l_65 => k_is); (case c_65 => k_is); (case k_65 => k_is); intro D105 m105 u105 b105 fi105
    refine' K83.me_step (m := "hours_met") (q := "Serving.hours_met") (st := L2.inClass (K83.topS 1) 6) (ps := ["self", "ways", "hour"]) cl (fun _ _ _ _ _ _ us hl => match us, hl with | [_, _, _], _ => rfl) ?a_66 ?i_66 ?l_66 ?c_66 ?k_66 ?rest_66; (case a_66 => k_is); (case i_66 => k_is); (case l_66 => k_is); (case c_66 => k_is); (case k_66 => k_is); intro D106 m106 u106 b106 fi106
    refine' K83.me_step (m := "lack_at") (q := "Serving.lack_at") (st := L2.inClass (K83.topS 1) 7) (ps := ["self", "hour", "many"]) cl (fun _ _ _ _ _ _ us hl => match us, hl with | [_, _, _], _ => rfl) ?a_67 ?i_67 ?l_67 ?c_67 ?k_67 ?rest_67; (case a_67 => k_is); (case i_67 => k_is); (case l_67 => k_is); (case c_67 => k_is); (case k_67 => k_is); intro D107 m107 u107 b107 fi107
    refine' K83.mk_step m100 ?mk_68 ?kc_68 ?rest_68; (case mk_68 => k_is); (case kc_68 => k_is); intro mk
    refine' K83.bm_step m101 ?gf_69 ?tk_69 (by decide +kernel) fi101 ?rest_69; (case gf_69 => k_is); (case tk_69 => k_is); intro bm
    exact K83.law_fin (K83.tx_mk z_len z_range z_enumerate z_zip z_sorted z_set z_sum z_all z_abs z_int z_list z_tuple z_dict z_min z_max zOUT d2 d6 d7 d10 d11 d13 d14 d15 d18 d19 d20 d21 d22 d23 d24 d25 d27 d28 d29 d32 d33 d34 d35 d36 d37 d38 d39 d40 d41 d42 d43 d44 d45 d46 d47 g8 e8 g30 e30 g12 e12 gC cl mk n_offers n_left n_hourly m100 u100 b100 m101 u101 b101 m102 u102 b102 m103 u103 b103 m104 u104 b104 m105 u105 b105 m106 u106 b106 m107 u107 b107 bm) hmg
