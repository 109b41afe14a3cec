import PyProof.Rows.All
import Wide.All
import OpenK.AllK
import Wide.FinOn
import HandS.ForMost
import HandS.Exc
import HandS.TryOnly
import HandS.ExcOwn
import HandS.WordsExc
import HandS.Zip
import HandS.IsInst
import HandS.Conv
import HandS.DictTup
import HandS.Deep
import HandS.TupAny
import HandS.SortInts
import HandS.SetFor
import HandS.Style
import KE.KeyNested
import KE.SortKeyHeap
import HandS.DictComp
import HandS.More
import HandS.Strs
import KE.KDictDisplayH
import HandS.TupLen
import KE.KSortKey
import KE.DataMinMax
import KE.KDictWalk
import HandS.Zip0
import HandS.MapObj
import HandS.ExcValue
import PyProof.StrBlock2
import HandS.Text
import HandS.Small
import HandS.Wide
import PyProof.EqAt
import PyProof.NeKinds
import KE.KDictPairs
import HandS.RaiseMore
import HandS.ExcIs
import KE.GoesEnum
import HandS.NoneIn
import PyProof.ExcBaseAll.ValueError
import PySem.Challenge.RW_blockfall_k16_rows_of_gos
set_option Elab.async false
set_option linter.all false
set_option maxRecDepth 100000
set_option maxHeartbeats 4000000
/-! Ev, part E: dicts whose keys are nested tuples, over the tracked heap. -/
namespace Ev
open PySem PySem.Spec PyProof.Rows L2

abbrev NK := PySem.NestedKey
abbrev NE := NK × Addr × V
abbrev NV : List NE → List (NK × Addr × Value) → Prop := Paired fun p q => p.1 = q.1 ∧ p.2.1 = q.2.1 ∧ RelV p.2.2 q.2.2
/-- the dict at a holds us (what is true of its one object) -/
def dNO (P : Program) (w : World) (a : Addr) (us : List NE) : HO := .ext fun h => us.length ≤ sizeLine ∧ (a == sysModules) = false ∧ ∃ xs, NV us xs ∧
  ∃ o es ep, h.get? a = some o ∧ o.ExactDict ∧ o.data = .dict es ep ∧ es.toList = xs.map (entryOfKey (nestedKind P w)) ∧ (xs.map (·.1)).Nodup
mutual
/-- the value is the key, its tuples tracked -/
def KeyAt (H : Hp) : NK → V → Prop
  | .none, v => v = .non
  | .num i, v => v = .int i
  | .text x, v => v = .str x
  | .tup ks, v => ∃ b vs, v = .ref b ∧ H b = some (.tup vs) ∧ KeyAtL H ks vs
def KeyAtL (H : Hp) : List NK → List V → Prop
  | [], vs => vs = []
  | k :: ks, vs => ∃ v r, vs = v :: r ∧ KeyAt H k v ∧ KeyAtL H ks r
end
mutual
theorem KeyAt.ext {H H' : Hp} (x : ∀ b vs, H b = some (.tup vs) → H' b = some (.tup vs)) : ∀ (k : NK) (v : V), KeyAt H k v → KeyAt H' k v
  | .none, _, h => by unfold KeyAt at h ⊢; exact h
  | .num _, _, h => by unfold KeyAt at h ⊢; exact h
  | .text _, _, h => by unfold KeyAt at h ⊢; exact h
  | .tup ks, v, h => by
    unfold KeyAt at h ⊢
    obtain ⟨b, vs, e, q, r⟩ := h
    exact ⟨b, vs, e, x _ _ q, KeyAtL.ext x ks vs r⟩
theorem KeyAtL.ext {H H' : Hp} (x : ∀ b vs, H b = some (.tup vs) → H' b = some (.tup vs)) : ∀ (ks : List NK) (vs : List V), KeyAtL H ks vs → KeyAtL H' ks vs
  | [], _, h => by unfold KeyAtL at h ⊢; exact h
  | k :: ks, vs, h => by
    unfold KeyAtL at h ⊢
    obtain ⟨v, r, e, a, b⟩ := h
    exact ⟨v, r, e, KeyAt.ext x k v a, KeyAtL.ext x ks r b⟩
end
section
variable {P : Program} {w : World} {H : Hp} {h : Heap}
mutual
theorem nis_of (ok : HOk P w H h) : ∀ (k : NK) (v : V) (u : Value), KeyAt H k v → RelV v u → NestedIs h k u
  | .none, v, u, x, r => by
    unfold KeyAt at x; subst x
    cases (show u = Value.none from r)
    exact .none
  | .num i, v, u, x, r => by
    unfold KeyAt at x; subst x
    obtain ⟨t, rfl⟩ := (show ∃ t, u = Value.int i t from r)
    exact .int i t
  | .text y, v, u, x, r => by
    unfold KeyAt at x; subst x
    obtain ⟨t, rfl⟩ := (show ∃ t, u = Value.str y t from r)
    exact .text y t
  | .tup ks, v, u, x, r => by
    unfold KeyAt at x
    obtain ⟨b, vs, e, q, rl⟩ := x
    subst e
    cases (show u = Value.ref b from r)
    obtain ⟨_, its, rv, o, h1, h2, n, h3⟩ := (show ObjOk P w H h b (.tup vs) from ok b _ q)
    exact .tup h1 h2 h3 (by simpa using nisl_of ok ks vs its rl rv)
theorem nisl_of (ok : HOk P w H h) : ∀ (ks : List NK) (vs : List V) (us : List Value), KeyAtL H ks vs → Vals vs us → NestedAll h ks us
  | [], vs, us, x, r => by
    unfold KeyAtL at x; subst x
    cases r
    exact .nil
  | k :: ks, vs, us, x, r => by
    unfold KeyAtL at x
    obtain ⟨v, r', e, a, b⟩ := x
    subst e
    cases r with
    | cons h1 h2 => exact .cons (nis_of ok k v _ a h1) (nisl_of ok ks r' _ b h2)
end
end
/-- a key at an address, not too deep -/
def KeyRef (H : Hp) (k : NK) (b : Addr) : Prop := KeyAt H k (.ref b) ∧ k.depth ≤ 8
theorem KeyRef.ext {H H' : Hp} {k : NK} {b : Addr} (x : ∀ b vs, H b = some (.tup vs) → H' b = some (.tup vs)) (r : KeyRef H k b) : KeyRef H' k b := ⟨r.1.ext x k _, r.2⟩
def Keyed (H : Hp) (us : List NE) : Prop := ∀ u ∈ us, KeyRef H u.1 u.2.1
/-- what the dict holds at the key -/
def nAt (us : List NE) (k : NK) : Option V := (us.find? fun x => decide (x.1 = k)).map (·.2.2)
def nPut (us : List NE) (k : NK) (b : Addr) (v : V) : List NE := if (nAt us k).isSome then us.map fun x => if x.1 = k then (x.1, x.2.1, v) else x else us ++ [(k, b, v)]
theorem NV.at {us : List NE} {xs : List (NK × Addr × Value)} (r : NV us xs) (k : NK) : RelO (nAt us k) ((atKey xs k).map (·.2)) := by
  induction r with
  | nil => exact True.intro
  | @cons p q ps qs h t ih =>
    obtain ⟨h1, _, h2⟩ := h
    by_cases e : p.1 = k
    · have e' : q.1 = k := h1.symm.trans e
      have b : atKey (q :: qs) k = some q.2 := by simp [atKey, List.find?_cons, e']
      have c : nAt (p :: ps) k = some p.2.2 := by simp [nAt, List.find?_cons, e]
      rw [c, b]; exact h2
    · have e' : ¬ q.1 = k := fun z => e (h1.trans z)
      have b : atKey (q :: qs) k = atKey qs k := by simp [atKey, List.find?_cons, e']
      have c : nAt (p :: ps) k = nAt ps k := by simp [nAt, List.find?_cons, e]
      rw [c, b]; exact ih
theorem NV.put {us : List NE} {xs : List (NK × Addr × Value)} (r : NV us xs) (k : NK) (b : Addr) {y : V} {u : Value} (ry : RelV y u) : NV (nPut us k b y) (storedH xs k b u) := by
  have e : (nAt us k).isSome = (atKey xs k).isSome := by rw [(r.at k).isSome_eq, Option.isSome_map]
  unfold nPut storedH
  rw [e]
  by_cases q : (atKey xs k).isSome = true
  · rw [if_pos q, if_pos q]
    clear e q
    induction r with
    | nil => exact .nil
    | @cons p q ps qs h t ih =>
      rw [List.map_cons, List.map_cons]
      refine .cons ?_ ih
      obtain ⟨h1, h2, h3⟩ := h
      unfold putAt
      by_cases e : p.1 = k
      · rw [if_pos e, if_pos (h1.symm.trans e)]; exact ⟨h1, h2, ry⟩
      · rw [if_neg e, if_neg (fun z => e (h1.trans z))]; exact ⟨h1, h2, h3⟩
  · rw [if_neg q, if_neg q]; exact Paired.snoc r ⟨rfl, rfl, ry⟩
theorem length_nPut (us : List NE) (k : NK) (b : Addr) (v : V) : (nPut us k b v).length ≤ us.length + 1 := by
  unfold nPut; split <;> simp
section
variable {P : Program} {w : World} {H : Hp} {h : Heap} {a : Addr} {us : List NE}
theorem dn_of (ok : HOk P w H h) (e : Rd H a (dNO P w a us)) (hk : Keyed H us) : us.length ≤ sizeLine ∧ (a == sysModules) = false ∧ ∃ xs, NV us xs ∧ h.DictOfH (nestedKind P w) a xs := by
  obtain ⟨⟨z, y, xs, r, o, es, ep, h1, h2, h3, h4, h5⟩, _, _⟩ := (show ObjOk P w H h a (dNO P w a us) from e.ok ok)
  refine ⟨z, y, xs, r, o, es, ep, h1, h2, h3, h4, ?_, h5⟩
  have all : ∀ {l : List NE} {m : List (NK × Addr × Value)}, NV l m → Keyed H l → ∀ x ∈ m, (nestedKind P w).is h x.1 x.2.1 := by
    intro l m q
    induction q with
    | nil => intro _ x hx; exact nomatch hx
    | @cons p q ps qs hq t ih =>
      intro hk x hx
      rcases List.mem_cons.mp hx with e | hx
      · subst e
        have := hk p List.mem_cons_self
        rw [← hq.1, ← hq.2.1]
        exact ⟨nis_of ok _ _ _ this.1 rfl, this.2⟩
      · exact ih (fun u hu => hk u (List.mem_cons_of_mem _ hu)) x hx
  exact all r hk
theorem kis_of {k : NK} {b : Addr} (ok : HOk P w H h) (x : KeyRef H k b) : (nestedKind P w).is h k b := ⟨nis_of ok _ _ _ x.1 rfl, x.2⟩
theorem dn_new {H' : Hp} {xs : List (NK × Addr × Value)} (z : us.length ≤ sizeLine) (hd : (a == sysModules) = false) (r : NV us xs) (dd : h.DictOfH (nestedKind P w) a xs) : ObjOk P w H' h a (dNO P w a us) := by
  obtain ⟨o, es, ep, h1, h2, h3, h4, _, h5⟩ := dd
  refine ⟨⟨z, hd, xs, r, o, es, ep, h1, h2, h3, h4, h5⟩, ⟨o, h1⟩, fun g1 g2 ⟨z, y, xs, r, o, es, ep, h1, h2, h3, h4, h5⟩ k => ⟨z, y, xs, r, o, es, ep, k _ h1, h2, h3, h4, h5⟩⟩
theorem dn_empty (h : Heap) (hb : sysModules < h.objs.size) : ObjOk P w H (h.push { cls := .type "dict", data := .dict #[] }) h.objs.size (dNO P w h.objs.size []) :=
  dn_new (xs := []) (Nat.zero_le _) (beq_eq_false_iff_ne.mpr (Ne.symm (Nat.ne_of_lt hb))) .nil ⟨_, #[], 0, Heap.get?_push_size _ rfl, ⟨rfl, rfl, rfl⟩, rfl, rfl, fun _ h => (nomatch h), List.nodup_nil⟩
end
/-- what the dict at a holds at the key y -/
def NGet (P : Program) (w : World) (H : Hp) (a : Addr) (y : V) (r : Option V) : Prop := ∃ us k b, Rd H a (dNO P w a us) ∧ Keyed H us ∧ y = .ref b ∧ KeyRef H k b ∧ r = nAt us k
def NPut (P : Program) (w : World) (H : Hp) (a : Addr) (y v : V) (H' : Hp) : Prop := ∃ us k b, H a = some (dNO P w a us) ∧ Keyed H us ∧ y = .ref b ∧ KeyRef H k b ∧ us.length < sizeLine ∧ H' = upd H a (dNO P w a (nPut us k b v))
section
variable {X : Cx} {pins : List (Addr × Obj)} {σ : L2.St} {H : Hp} {s : Shared} {a : Addr} {y v : V} {u r : Value} {o : Option V} {A : Around} {E : Value → Shared → Prop}
theorem nroom (hu : A.units + 9 < cLine) : (nestedKind X.prog X.w).room A.in1 := by
  show A.units + 1 + 8 < cLine
  omega
theorem n_getItem {Q : Value → Shared → Prop} (hu : A.units + 9 < cLine) (I : Inv X pins σ H s) (g : NGet X.prog X.w H a y (some v)) (ry : RelV y u) (h : ∀ w' s', Inv X pins σ H s' → RelV v w' → Q w' s') :
    wpAny (model X.prog X.w) A (getItem (.ref a) u) Q E s := by
  obtain ⟨us, k, b, e, hk, ey, eb, l⟩ := g
  subst ey
  cases (show u = Value.ref b from ry)
  obtain ⟨z, hd, xs, rel, dd⟩ := dn_of I.hok e hk
  obtain ⟨w', hw, rw'⟩ := RelO.some_of (v := v) (o := (atKey xs k).map (·.2)) (by rw [l]; exact rel.at k)
  obtain ⟨p, hp, hp2⟩ := Option.map_eq_some_iff.mp hw
  refine wpAny_getItem_heap (nroom hu) (kis_of I.hok eb) dd hp ?_
  rw [hp2]
  exact h w' _ (I.tok _) rw'
theorem n_in {Q : Value → Shared → Prop} (hu : A.units + 9 < cLine) (I : Inv X pins σ H s) (g : NGet X.prog X.w H a y o) (ry : RelV y u) (h : ∀ s', Inv X pins σ H s' → Q (.bool o.isSome) s') :
    wpAny (model X.prog X.w) A (compareOp .In u (.ref a)) Q E s := by
  obtain ⟨us, k, b, e, hk, ey, eb, l⟩ := g
  subst ey
  cases (show u = Value.ref b from ry)
  obtain ⟨z, hd, xs, rel, dd⟩ := dn_of I.hok e hk
  refine wpAny_in_heap (nroom hu) (kis_of I.hok eb) hd dd ?_
  have q := (rel.at k).isSome_eq
  rw [Option.isSome_map] at q
  rw [← q, ← l]
  exact h _ (I.tok _)
theorem n_notIn {Q : Value → Shared → Prop} (hu : A.units + 9 < cLine) (I : Inv X pins σ H s) (g : NGet X.prog X.w H a y o) (ry : RelV y u) (h : ∀ s', Inv X pins σ H s' → Q (.bool (!o.isSome)) s') :
    wpAny (model X.prog X.w) A (compareOp .NotIn u (.ref a)) Q E s := by
  obtain ⟨us, k, b, e, hk, ey, eb, l⟩ := g
  subst ey
  cases (show u = Value.ref b from ry)
  obtain ⟨z, hd, xs, rel, dd⟩ := dn_of I.hok e hk
  refine wpAny_notIn_heap (nroom hu) (kis_of I.hok eb) hd dd ?_
  have q := (rel.at k).isSome_eq
  rw [Option.isSome_map] at q
  rw [← q, ← l]
  exact h _ (I.tok _)
theorem n_setItem {H' : Hp} {Q : Unit → Shared → Prop} (hu : A.units + 9 < cLine) (I : Inv X pins σ H s) (g : NPut X.prog X.w H a y v H') (ry : RelV y u) (rv : RelV v r) (h : ∀ s', Inv X pins σ H' s' → Q () s') :
    wpAny (model X.prog X.w) A (setItem (.ref a) u r) Q E s := by
  obtain ⟨us, k, b, e, hk, ey, eb, l, eH⟩ := g
  subst ey eH
  cases (show u = Value.ref b from ry)
  obtain ⟨z, hd, xs, rel, dd⟩ := dn_of I.hok (Rd.of e) hk
  have hz : xs.length ≤ sizeLine := by rw [← Paired.length rel]; exact z
  have hl : (nPut us k b v).length ≤ sizeLine := by have := length_nPut us k b v; omega
  refine wpAny_setItem_heap (hsz := hz) (nroom hu) (kis_of I.hok eb) dd fun h' dd' hs => h _ ?_
  have he : ∃ q, h'.get? a = some q := let ⟨q, _, _, hq, _⟩ := dd'; ⟨q, hq⟩
  exact d_write I (by rw [e]; exact True.intro) hs he (dn_new hl hd (rel.put k b rv) dd')
theorem n_get1 {Q : Value → Shared → Prop} (hu : A.units + 9 < cLine) (I : Inv X pins σ H s) (g : NGet X.prog X.w H a y o) (ry : RelV y u) (h : ∀ w' s', Inv X pins σ H s' → RelV (o.getD .non) w' → Q w' s') :
    wpAny (model X.prog X.w) A (call (.builtin "dict.get") [.ref a, u]) Q E s := by
  obtain ⟨us, k, b, e, hk, ey, eb, l⟩ := g
  subst ey
  cases (show u = Value.ref b from ry)
  obtain ⟨z, hd, xs, rel, dd⟩ := dn_of I.hok e hk
  refine call_meetsIn PySem.F.slot_dict_get dd.typeIs PySem.F.entry_dict_get (PySem.F.args_dict_get_2 _ _) (meetsH_dict_get (nestedKind X.prog X.w) a b hd) ⟨nroom hu, k, xs, kis_of I.hok eb, dd, h _ _ (I.tok _) ?_⟩
  rw [l]
  exact (rel.at k).getD rfl
theorem n_get2 {d : V} {Q : Value → Shared → Prop} (hu : A.units + 9 < cLine) (I : Inv X pins σ H s) (g : NGet X.prog X.w H a y o) (ry : RelV y u) (rd : RelV d r) (h : ∀ w' s', Inv X pins σ H s' → RelV (o.getD d) w' → Q w' s') :
    wpAny (model X.prog X.w) A (call (.builtin "dict.get") [.ref a, u, r]) Q E s := by
  obtain ⟨us, k, b, e, hk, ey, eb, l⟩ := g
  subst ey
  cases (show u = Value.ref b from ry)
  obtain ⟨z, hd, xs, rel, dd⟩ := dn_of I.hok e hk
  refine call_meetsIn PySem.F.slot_dict_get dd.typeIs PySem.F.entry_dict_get (PySem.F.args_dict_get_3 _ _ _) (meetsH_dict_get_default (nestedKind X.prog X.w) a b hd r) ⟨nroom hu, k, xs, kis_of I.hok eb, dd, h _ _ (I.tok _) ?_⟩
  rw [l]
  exact (rel.at k).getD rd
theorem n_typeIs (I : Inv X pins σ H s) {us : List NE} (e : Rd H a (dNO X.prog X.w a us)) : s.TypeIs (.ref a) "dict" ∧ ∀ b, Value.ref a = .ref b → ∃ ob, s.heap.get? b = some ob ∧ ob.dict = none := by
  obtain ⟨⟨z, y, xs, r, o, es, ep, h1, h2, h3, h4, h5⟩, _, _⟩ := (show ObjOk X.prog X.w H s.heap a (dNO X.prog X.w a us) from e.ok I.hok)
  exact ⟨⟨o, h1, h2.1⟩, fun b q => by cases q; exact ⟨o, h1, h2.2.1⟩⟩
/-! dicts of any of the three kinds -/
def XGet (P : Program) (w : World) (H : Hp) (a : Addr) (y : V) (r : Option V) : Prop := DGet H a y r ∨ NGet P w H a y r
def XPut (P : Program) (w : World) (H : Hp) (a : Addr) (y v : V) (H' : Hp) : Prop := DPut H a y v H' ∨ NPut P w H a y v H'
theorem x_getItem {Q : Value → Shared → Prop} (hu : A.units + 9 < cLine) (I : Inv X pins σ H s) (g : XGet X.prog X.w H a y (some v)) (ry : RelV y u) (h : ∀ w' s', Inv X pins σ H s' → RelV v w' → Q w' s') :
    wpAny (model X.prog X.w) A (getItem (.ref a) u) Q E s := by
  rcases g with g | g
  · exact d_getItem (by omega) I g ry h
  · exact n_getItem hu I g ry h
theorem x_in {Q : Value → Shared → Prop} (hu : A.units + 9 < cLine) (I : Inv X pins σ H s) (g : XGet X.prog X.w H a y o) (ry : RelV y u) (h : ∀ s', Inv X pins σ H s' → Q (.bool o.isSome) s') :
    wpAny (model X.prog X.w) A (compareOp .In u (.ref a)) Q E s := by
  rcases g with g | g
  · exact d_in (by omega) I g ry h
  · exact n_in hu I g ry h
theorem x_notIn {Q : Value → Shared → Prop} (hu : A.units + 9 < cLine) (I : Inv X pins σ H s) (g : XGet X.prog X.w H a y o) (ry : RelV y u) (h : ∀ s', Inv X pins σ H s' → Q (.bool (!o.isSome)) s') :
    wpAny (model X.prog X.w) A (compareOp .NotIn u (.ref a)) Q E s := by
  rcases g with g | g
  · exact d_notIn (by omega) I g ry h
  · exact n_notIn hu I g ry h
theorem x_setItem {H' : Hp} {Q : Unit → Shared → Prop} (hu : A.units + 9 < cLine) (I : Inv X pins σ H s) (g : XPut X.prog X.w H a y v H') (ry : RelV y u) (rv : RelV v r) (h : ∀ s', Inv X pins σ H' s' → Q () s') :
    wpAny (model X.prog X.w) A (setItem (.ref a) u r) Q E s := by
  rcases g with g | g
  · exact d_setItem (by omega) I g ry rv h
  · exact n_setItem hu I g ry rv h
theorem x_get1 {Q : Value → Shared → Prop} (hu : A.units + 9 < cLine) (I : Inv X pins σ H s) (g : XGet X.prog X.w H a y o) (ry : RelV y u) (h : ∀ w' s', Inv X pins σ H s' → RelV (o.getD .non) w' → Q w' s') :
    wpAny (model X.prog X.w) A (call (.builtin "dict.get") [.ref a, u]) Q E s := by
  rcases g with g | g
  · exact d_get1 (by omega) I g ry h
  · exact n_get1 hu I g ry h
theorem x_get2 {d : V} {Q : Value → Shared → Prop} (hu : A.units + 9 < cLine) (I : Inv X pins σ H s) (g : XGet X.prog X.w H a y o) (ry : RelV y u) (rd : RelV d r) (h : ∀ w' s', Inv X pins σ H s' → RelV (o.getD d) w' → Q w' s') :
    wpAny (model X.prog X.w) A (call (.builtin "dict.get") [.ref a, u, r]) Q E s := by
  rcases g with g | g
  · exact d_get2 (by omega) I g ry rd h
  · exact n_get2 hu I g ry rd h
theorem x_typeIs (I : Inv X pins σ H s) (g : XGet X.prog X.w H a y o) : s.TypeIs (.ref a) "dict" := by
  rcases g with g | ⟨us, k, b, e, _⟩
  · exact dict_typeIs I g
  · exact (n_typeIs I e).1
/-- {} -/
def tDNewN (P : Program) (w : World) : TE := fun _ H Q => ∀ p, H p = none → Q (.ref p) (upd H p (dNO P w p []))
theorem pe_dnewN {pos : Pos} : PE X (.Dict [] [] pos) (tDNewN X.prog X.w) := ⟨fun pins s σ H Q I h =>
  wpAny_Dict_empty ⟨.ref s.heap.objs.size, _, I.laid (a := s.heap.objs.size) (o := dNO X.prog X.w s.heap.objs.size []) (t' := s.toks) (fun _ _ q => Heap.get?_push_of_some _ q) (Nat.le_refl _) (dn_empty s.heap I.big), rfl, h _ (I.hok.fresh (Nat.le_refl _))⟩⟩
end
/-! ### calls of methods, the receiver of one of these types or a dict of nested keys -/
def tyW (K : PySem.W.Frag) (P : Program) (w : World) (T : String) (x : V) (H : Hp) : Prop := tyV K T x H ∨ (T = "dict" ∧ ∃ a us, x = .ref a ∧ Rd H a (dNO P w a us)) ∨ (T = "tuple" ∧ ∃ a o xs, x = .ref a ∧ H a = some (.frz o (.tup xs)) ∧ o.cls = .type "tuple" ∧ o.dict = none)
def tBW0 (K : PySem.W.Frag) (P : Program) (w : World) (T : String) (r : V → List V → Hp → VK → Prop) (to : TE) : TE := fun σ H Q => to σ H fun x H1 => tyW K P w T x H1 ∧ r x [] H1 Q
def tBW (K : PySem.W.Frag) (P : Program) (w : World) (T : String) (r : V → List V → Hp → VK → Prop) (to : TE) (t : TA) : TE := fun σ H Q => to σ H fun x H1 => tyW K P w T x H1 ∧ t σ H1 fun xs H2 => r x xs H2 Q
section
variable {X : Cx} {pins : List (Addr × Obj)} {σ : L2.St} {H : Hp} {s : Shared} {x : V} {v : Value}
variable {o e : Expr} {es : List Expr} {to : TE} {t : TA} {name : Str} {apos cpos : Pos} {T id : String} {r : V → List V → Hp → VK → Prop}
theorem tyW_is (I : Inv X pins σ H s) (r : RelV x v) (ty : tyW X.K X.prog X.w T x H) : s.TypeIs v T ∧ ∀ a, v = .ref a → ∃ ob, s.heap.get? a = some ob ∧ ob.dict = none := by
  rcases ty with ty | ⟨rfl, a, us, rfl, e⟩ | ⟨rfl, a, o, xs, rfl, e, hc, hd⟩
  · exact tyV_is I r ty
  · cases (show v = Value.ref a from r)
    exact n_typeIs I e
  · cases (show v = Value.ref a from r)
    obtain ⟨h1, _⟩ := (show ObjOk X.prog X.w H s.heap a (.frz o (.tup xs)) from I.hok a _ e)
    exact ⟨⟨o, h1, hc⟩, fun b q => by cases q; exact ⟨o, h1, hd⟩⟩
theorem pe_bw0 (pa : PlainAttrs T) (slot : Slot T name id) (hty : typeOf (.builtin id) = pure (.type "method_descriptor")) (hm : MtR X id r) (ho : PE X o to)
    (hbase : attributeBase o name X.env (eval o X.env) = eval o X.env := by rfl) (hline : (apos.endLine == cpos.line) = true := by rfl) : PE X (.Call (.Attribute o name apos) [] [] cpos) (tBW0 X.K X.prog X.w T r to) := by
  refine ⟨fun pins s σ H Q I h => ?_⟩
  refine wpAny_Call_method0_late hbase hline (thn (ho.run pins s σ H _ I h) fun v s1 ⟨x, H1, I1, r1, ty, q1⟩ => ?_)
  obtain ⟨h1, h2⟩ := tyW_is I1 r1 ty
  exact ⟨T, id, pa, slot, hty, h1, h2, Calls.callWith_builtin rfl (PySem.evalArgs_none (hm pins s1 σ H1 x [] v [] Q I1 r1 .nil q1))⟩
theorem pe_bw (pa : PlainAttrs T) (slot : Slot T name id) (hty : typeOf (.builtin id) = pure (.type "method_descriptor")) (hm : MtR X id r) (ho : PE X o to) (ha : PA X (e :: es) t)
    (hbase : attributeBase o name X.env (eval o X.env) = eval o X.env := by rfl)
    (hfew : ((backTo cpos (starEach (e :: es) X.env)).all (fun x => !x.1) && (backToKw cpos (keywordEach [] X.env)).all (fun x => x.1.isSome)
      && decide ((e :: es).length + ([] : List Keyword).length + (if ([] : List Keyword).isEmpty then 0 else 1) < 30)) = true := by rfl)
    (hline : (apos.endLine == cpos.line) = true := by rfl) (hs : starEach (e :: es) X.env = (false, eval e X.env) :: starEach es X.env := by rfl) (hplain : (backTo cpos (starEach es X.env)).any (·.1) = false := by rfl) :
    PE X (.Call (.Attribute o name apos) (e :: es) [] cpos) (tBW X.K X.prog X.w T r to t) := by
  refine ⟨fun pins s σ H Q I h => ?_⟩
  refine wpAny_Call_method_late hbase hfew hline rfl (thn (ho.run pins s σ H _ I h) fun v s1 ⟨x, H1, I1, r1, ty, q1⟩ => ?_)
  obtain ⟨h1, h2⟩ := tyW_is I1 r1 ty
  refine ⟨T, id, pa, slot, hty, h1, h2, ?_⟩
  have hA := ha.run cpos pins s1 σ H1 _ I1 q1
  rw [hs] at hA ⊢
  refine Calls.callWith_builtin (by show (false || (backTo cpos (starEach es X.env)).any (·.1)) = false; rw [hplain] <;> rfl) (Calls.evalArgs_plain ?_)
  exact thn hA fun us s2 ⟨vs, H2, I2, r2, q2⟩ => hm pins s2 σ H2 x vs v us Q I2 r1 r2 q2
end
/-! ### sorted data -/
theorem each_of_vals : ∀ {bs : List (V × PyData)} {us : List Value}, Vals (bs.map (·.1)) us → PySem.W.EachIs (fun u b => RelV b.1 u) us bs
  | [], us, r => by cases r; exact .nil
  | b :: bs, us, r => by
    rw [List.map_cons] at r
    cases r with
    | cons h t => exact .cons h (each_of_vals t)
theorem vals_of_each : ∀ {bs : List (V × PyData)} {us : List Value}, PySem.W.EachIs (fun u b => RelV b.1 u) us bs → Vals (bs.map (·.1)) us
  | _, _, .nil => .nil
  | _, _, .cons h t => .cons h (vals_of_each t)
theorem each_more {α β : Type} {R S : α → β → Prop} : ∀ {us : List α} {bs : List β}, PySem.W.EachIs R us bs → (∀ u b, b ∈ bs → R u b → S u b) → PySem.W.EachIs S us bs
  | _, _, .nil, _ => .nil
  | _, _, .cons h t, f => .cons (f _ _ (by simp) h) (each_more t fun u b hb => f u b (List.mem_cons_of_mem _ hb))
abbrev leD (x y : V × PyData) : Bool := PySem.W.dataLe false (fun b : V × PyData => b.2) x y
structure SortB (K : PySem.W.Frag) (H : Hp) (bs : List (V × PyData)) : Prop where
  dp : ∀ b ∈ bs, Dp K H b.1 b.2
  al : PySem.W.AllAlike (bs.map (·.2))
  so : PySem.W.Sortable (bs.map (·.2))
  de : ∀ b ∈ bs, b.2.depth ≤ 60
def rSortedDat (K : PySem.W.Frag) : List V → Hp → VK → Prop := fun vs H Q => ∃ (a : Addr) (bs : List (V × PyData)), vs = [.ref a] ∧ SqL K H a (bs.map (·.1)) ∧ SortB K H bs ∧ ∀ p, H p = none → Q (.ref p) (upd H p (.lst ((bs.mergeSort leD).map (·.1))))
theorem cr_sortedDat {X : Cx} (hu : X.A.units + 65 < cLine) : CallR X (.builtin "sorted") (rSortedDat X.K) := by
  intro pins s σ H vs us Q I r h
  obtain ⟨a, bs, rfl, hs, hb, q⟩ := h
  obtain ⟨its, rv, hl, hz⟩ := I.list hs
  rw [Vals.ref1 r]
  have e := each_of_vals rv
  rw [List.length_map] at hz
  refine PySem.W.sorted_data (enc := fun b : V × PyData => b.2) hl.isList e (each_more e fun u b hbm hr => Dp.reads I b.2 b.1 u (hb.dp b hbm) hr) hb.al hb.so hz (fun b hbm => by have := hb.de b hbm; omega) fun out hlen hout => ?_
  obtain ⟨ep, he'⟩ := PyProof.Rows.sortedAll_at s.heap its (List.toArray out)
  have hv : Vals ((bs.mergeSort leD).map (·.1)) out := vals_of_each hout
  exact ⟨.ref _, upd H (s.heap.objs.size + 1) (.lst ((bs.mergeSort leD).map (·.1))), I.laid (t' := s.toks) (fun _ _ => PyProof.Rows.sortedAll_old) (Nat.le_succ _) ⟨by rw [List.length_map, List.length_mergeSort]; exact hz, out, ep, hv, he'⟩, rfl, q _ (I.hok.fresh (Nat.le_succ _))⟩
/-- what is sorted: a list's or a tuple's items, a nested dict's keys -/
def Sorts (K : PySem.W.Frag) (P : Program) (w : World) (H : Hp) (a : Addr) (xs : List V) : Prop := SqT K H a xs ∨ ∃ us : List NE, Rd H a (dNO P w a us) ∧ xs = us.map fun u => V.ref u.2.1
theorem reads_here {h : Heap} {d : PyData} {v : Value} {as : List Addr} (r : Reads h v d as) : ∀ b ∈ as, ∃ o, h.get? b = some o := PyProof.On.reads_mem_get r
theorem keys_each {es : List DictEntry} {xs : List (NK × Addr × Value)} {us : List NE} {P : Program} {w : World} (r : NV us xs) (he : es = xs.map (entryOfKey (nestedKind P w))) : ∀ {acc : List Value}, acc.length = es.length → (∀ (j : Nat) v, acc[j]? = some v → ∃ en : DictEntry, es[j]? = some en ∧ v = en.key) → acc = us.map fun u => Value.ref u.2.1 := by
  subst he
  intro acc hl hj
  have e1 : us.length = xs.length := Paired.length r
  apply List.ext_getElem?
  intro j
  cases e : acc[j]? with
  | none =>
    have h := List.getElem?_eq_none_iff.mp e
    rw [List.length_map] at hl
    symm
    rw [List.getElem?_eq_none_iff, List.length_map]; omega
  | some v =>
    obtain ⟨en, h1, h2⟩ := hj j v e
    rw [List.getElem?_map] at h1
    cases q : xs[j]? with
    | none => rw [q] at h1; cases h1
    | some x =>
      rw [q] at h1
      cases h1
      have hlt : j < us.length := by rw [e1]; exact (List.getElem?_eq_some_iff.mp q).1
      obtain ⟨b, hb, g1, g2, _⟩ := paired_get r (List.getElem?_eq_getElem hlt)
      rw [q] at hb
      cases hb
      rw [List.getElem?_map, List.getElem?_eq_getElem hlt]
      subst h2
      rw [Option.map_some, g2]; rfl
theorem vals_refs : ∀ us : List NE, Vals (us.map fun u => V.ref u.2.1) (us.map fun u => Value.ref u.2.1)
  | [] => .nil
  | _ :: us => .cons rfl (vals_refs us)
def rSortedS (K : PySem.W.Frag) (P : Program) (w : World) : List V → Hp → VK → Prop := fun vs H Q => ∃ (a : Addr) (bs : List (V × PyData)), vs = [.ref a] ∧ Sorts K P w H a (bs.map (·.1)) ∧ SortB K H bs ∧ ∀ p, H p = none → Q (.ref p) (upd H p (.lst ((bs.mergeSort leD).map (·.1))))
theorem cr_sortedS {X : Cx} (hc : X.calm = true) (hu : X.A.units + 65 < cLine) : CallR X (.builtin "sorted") (rSortedS X.K X.prog X.w) := by
  intro pins s σ H vs us Q I r h
  obtain ⟨a, bs, rfl, hs, hb, q⟩ := h
  rw [Vals.ref1 r]
  have fin : ∀ (acc : List Value) (h' : Heap) (tk : Nat), (∀ b o, s.heap.get? b = some o → h'.get? b = some o) → Vals (bs.map (·.1)) acc → bs.length ≤ sizeLine →
      wpAny (model X.prog X.w) X.A.in1 (newList acc >>= fun l => holding [l] (call (.builtin "list.sort") [l]) >>= fun _ => pure (PySem.Fin.done (.ret l))) (fun r s' => ∃ u, r = .done (.ret u) ∧ EP X pins σ Q u s') X.xe { s with heap := h', toks := tk } := by
    intro acc h' tk hk rv hz
    have I1 : Inv X pins σ H { s with heap := h', toks := tk } := I.kept hk
    have e := each_of_vals rv
    have hal : acc.length = bs.length := by have := rv.length; rw [List.length_map] at this; omega
    refine wpAny_bind (wpAny_newList ?_ (by rw [hal]; exact hz))
    have hoL : (h'.push (seqObj "list" acc.toArray 0)).get? h'.objs.size = some (seqObj "list" acc.toArray 0) := Heap.get?_push_size _ rfl
    show wpAny _ _ _ _ _ { s with heap := h'.push (seqObj "list" acc.toArray 0), toks := tk }
    have I2 : Inv X pins σ H { s with heap := h'.push (seqObj "list" acc.toArray 0), toks := tk } := I1.kept (t' := tk) fun _ _ q => Heap.get?_push_of_some _ q
    have er : PySem.W.EachIs (fun v (b : V × PyData) => ∃ as, Reads (h'.push (seqObj "list" acc.toArray 0)) v b.2 as ∧ h'.objs.size ∉ as) acc bs := each_more e fun u b hbm hr => by
      obtain ⟨as, ha⟩ := Dp.reads I1 b.2 b.1 u (hb.dp b hbm) hr
      refine ⟨as, PyProof.Rows.Reads.keeps (fun _ _ q => Heap.get?_push_of_some _ q) ha, fun hm => ?_⟩
      obtain ⟨o, ho⟩ := reads_here ha _ hm
      exact absurd (Heap.lt_size ho) (Nat.lt_irrefl _)
    refine wpAny_bind (wpAny_holding (PySem.W.list_sort_data (enc := fun b : V × PyData => b.2) hoL e er hb.al hb.so hz (fun b hbm => by have := hb.de b hbm; show X.A.units + 1 + 1 + _ < _; omega) fun out hlen hout => ?_))
    obtain ⟨e', he'⟩ := PyProof.Rows.sortedHeap_at (vs := acc) (out := List.toArray out) hoL
    have hv : Vals ((bs.mergeSort leD).map (·.1)) out := vals_of_each hout
    refine wpAny_pure ⟨_, rfl, .ref h'.objs.size, upd H h'.objs.size (.lst ((bs.mergeSort leD).map (·.1))), I1.laid (t' := tk) (fun b u e => ?_) (Nat.le_refl _)
      (show ObjOk X.prog X.w _ _ _ (.lst ((bs.mergeSort leD).map (·.1))) from ⟨by rw [List.length_map, List.length_mergeSort]; exact hz, out, e', hv, he'⟩), rfl, q _ (I1.hok.fresh (Nat.le_refl _))⟩
    have hb : b < h'.objs.size := Heap.lt_size e
    rw [PyProof.Rows.sortedHeap_old (Nat.ne_of_lt hb) (by rw [size_push']; exact Nat.lt_succ_of_lt hb)]
    exact Heap.get?_push_of_some _ e
  refine Calls.call_function_entry PyProof.Rows.kind_sorted PyProof.Rows.plain_sorted PyProof.Rows.entry_sorted (PyProof.Rows.args_sorted1 _) ?_
  unfold Builtin.«sorted»
  refine wpAny_bind (m := checkCount "sorted" 1 1 _) (wpAny_pure ?_)
  rcases hs with hs | ⟨us, hd, ek⟩
  · obtain ⟨its, rv, pl, hz⟩ := I.tuple hs
    rw [List.length_map] at hz
    obtain ⟨o, ho, hcl, n, hdat⟩ := pl
    refine wpAny_bind (wpAny_collect_seq a (.inr rfl) ho hcl hdat (fun h' hk => ?_) (by rw [List.size_toArray]; have := rv.length; rw [List.length_map] at this; omega))
    exact fin its h' s.toks hk rv hz
  · obtain ⟨⟨z, hd', xs, r, o, es, ep, h1, h2, h3, h4, h5⟩, _, _⟩ := (show ObjOk X.prog X.w H s.heap a (dNO X.prog X.w a us) from hd.ok I.hok)
    have l1 : es.size = xs.length := by rw [← Array.length_toList, h4, List.length_map]
    have l2 : us.length = xs.length := Paired.length r
    have l3 : bs.length = us.length := by have := congrArg List.length ek; rwa [List.length_map, List.length_map] at this
    refine wpAny_bind (PySem.W.kdu_collect (A := X.A.in1) (kdl_raw (es := es) (ep := ep) hd' h2 h3) (I.ok.hd hc) h1 (by omega) fun h' tk acc hk hacc => ?_)
    have e : acc.toList = us.map fun u => Value.ref u.2.1 := keys_each r h4 (by rw [Array.length_toList, Array.length_toList, hacc.1]) fun j v e => by
      obtain ⟨en, g1, g2⟩ := hacc.2 j v (by rw [← Array.getElem?_toList]; exact e)
      exact ⟨en, by rw [Array.getElem?_toList]; exact g1, g2⟩
    rw [e]
    exact fin _ h' tk hk (by rw [ek]; exact vals_refs us) (by omega)
/-! ### sorted(x, key=len) -/
abbrev leL (x y : V × Nat) : Bool := PySem.W.dataLe false (fun b : V × Nat => .int (b.2 : Nat)) x y
section
variable {X : Cx} {pins : List (Addr × Obj)} {σ : L2.St} {H : Hp} {s : Shared}
def tSortLen (K : PySem.W.Frag) (te : TE) : TE := fun σ H Q => te σ H fun v H1 => ∃ (a : Addr) (bs : List (V × Nat)), v = .ref a ∧ SqL K H1 a (bs.map (·.1)) ∧ (∀ b ∈ bs, ∃ t ys, b.1 = .ref t ∧ SqT K H1 t ys ∧ ys.length = b.2) ∧
  ∀ p, H1 p = none → Q (.ref p) (upd H1 p (.lst ((bs.mergeSort leL).map (·.1))))
theorem boot_sorted' : bootBuiltins ("sorted" : Str) = some (.builtin "sorted") := by decide +kernel
theorem boot_len' : bootBuiltins ("len" : Str) = some (.builtin "len") := by decide +kernel
theorem vals_of_eachL : ∀ {bs : List (V × Nat)} {us : List Value}, PySem.W.EachIs (fun u b => RelV b.1 u) us bs → Vals (bs.map (·.1)) us
  | _, _, .nil => .nil
  | _, _, .cons h t => .cons h (vals_of_eachL t)
theorem each_of_valsL : ∀ {bs : List (V × Nat)} {us : List Value}, Vals (bs.map (·.1)) us → PySem.W.EachIs (fun u b => RelV b.1 u) us bs
  | [], us, r => by cases r; exact .nil
  | b :: bs, us, r => by
    rw [List.map_cons] at r
    cases r with
    | cons h t => exact .cons h (each_of_valsL t)
theorem pe_sortLen {e : Expr} {te : TE} {p p2 kpos pos : Pos} (hu : X.A.units + 65 < cLine) (hg : Gl X "sorted") (hm : X.mg "sorted" = none) (hg2 : Gl X "len") (hm2 : X.mg "len" = none) (he : PE X e te)
    (hs : starEach [e] X.env = (false, eval e X.env) :: starEach [] X.env) (hpl : (backTo pos (starEach [e] X.env)).any (·.1) = false) :
    PE X (.Call (.Name "sorted" p) [e] [⟨some "key", .Name "len" p2, kpos⟩] pos) (tSortLen X.K te) := by
  refine ⟨fun pins s σ H Q I h => ?_⟩
  refine wpAny_Call_Name_kw (ld_blt I hg hm boot_sorted' ?_)
  refine PyProof.Rows.callWith_kw ?_ (by rw [hs]; rfl) hpl rfl rfl
  rw [hs]
  show wpAny _ _ (spliced ((false, eval e X.env) :: backTo pos (starEach [] X.env))) _ _ s
  refine Calls.spliced_cons (thn (he.run pins s σ H _ I h) fun u s1 ⟨x, H1, I1, r1, a, bs, ev, hq, hb, q⟩ => ?_)
  refine Calls.spliced_nil ?_
  subst ev
  obtain rfl : u = Value.ref a := r1
  show wpAny _ _ (evalAll ((do let v ← eval (.Name "len" p2) X.env; standAt pos; pure v) :: [])) _ _ s1
  refine wpAny_evalAll_cons (wpAny_bind (ld_blt I1 hg2 hm2 boot_len' (wpAny_bind (wpAny_standAt (wpAny_pure ?_)))))
  refine wpAny_evalAll_nil ?_
  obtain ⟨its, rv, hl, hz⟩ := I1.list hq
  have e := each_of_valsL rv
  rw [List.length_map] at hz
  show wpAny _ _ (call (.builtin "sorted") [.ref a] [(Str.ofString "key", .builtin "len")]) _ _ s1
  refine PySem.W.sorted_key_data (b := false) (kw := [(Str.ofString "key", .builtin "len")]) (fun b : V × Nat => .int (b.2 : Nat)) hl.isList e (PySem.W.AllAlike.of fun _ _ => by simp [PySem.W.alike]) (.inr fun d hd => ?_) hz (fun x hx => ?_) (PyProof.Rows.ksk_s1 _ _) (fun _ => PyProof.Rows.ksk_l1 _ _) (fun _ => PyProof.Rows.ksk_t4 _ _) (fun v x hr hx h tk kp => ?_) fun out c h' tk kp fr hD hlen eo => ?_
  · obtain ⟨b, _, rfl⟩ := List.mem_map.mp hd
    exact ⟨by simp, by simp⟩
  · show X.A.units + 2 + PyData.depth (.int _) < _
    simp only [PyData.depth]; omega
  · obtain ⟨t, ys, e1, e2, e3⟩ := hb x hx
    rw [e1] at hr
    cases (show v = Value.ref t from hr)
    have I2 : Inv X pins σ H1 { s1 with heap := h, toks := tk } := I1.kept kp
    obtain ⟨its2, rv2, pl2, hz2⟩ := I2.tuple e2
    have hl2 : its2.length = x.2 := by rw [← rv2.length]; exact e3
    refine PyProof.Rows.len_tuple pl2 (by rw [List.size_toArray, hl2, ← e3]; have : ys.length ≤ sizeLine := hz2; rw [sizeLine_eq] at this; omega) ⟨h, tk + 1 + 1, rfl, fun _ _ e => e, ?_⟩
    rw [List.size_toArray, hl2]
    exact .int _ _
  · have hv : Vals ((bs.mergeSort leL).map (·.1)) out := vals_of_eachL eo
    exact ⟨.ref _, upd H1 (s1.heap.objs.size + 1) (.lst ((bs.mergeSort leL).map (·.1))), I1.laid (t' := tk) kp (Nat.le_succ _) ⟨by rw [List.length_map, List.length_mergeSort]; exact hz, out, c, hv, hD⟩, rfl, q _ (I1.hok.fresh (Nat.le_succ _))⟩
end
/-! ### len(d) -/
def rLenN (P : Program) (w : World) : List V → Hp → VK → Prop := fun xs H Q => ∃ (p : Addr) (us : List NE), xs = [.ref p] ∧ Rd H p (dNO P w p us) ∧ Keyed H us ∧ Q (.int (us.length : Nat)) H
theorem call_len_dN {X : Cx} : CallR X (.builtin "len") (rLenN X.prog X.w) := by
  intro pins s σ H xs us Q I r h
  obtain ⟨p, kvs, rfl, hp, hk, q⟩ := h
  obtain ⟨u, rfl, rx⟩ := vals1 r
  obtain rfl : u = .ref p := rx
  obtain ⟨z, hd, ys, rel, dd⟩ := dn_of I.hok hp hk
  have hl : kvs.length = ys.length := Paired.length rel
  refine call_len_dictH hd dd (by rw [← hl]; rw [sizeLine_eq] at z; omega) ?_
  rw [← hl]
  exact ⟨.int ((kvs.length : Nat) : Int), H, I.tok _, ⟨_, rfl⟩, q⟩
/-! ### locking a dict -/
section
variable {X : Cx} {e : Expr}
def tLockN (P : Program) (w : World) (t : TE) : TE := fun σ H Q => t σ H fun v H1 => Q v H1 ∨ ∃ d us, v = .ref d ∧ H1 d = some (dNO P w d us) ∧ ∀ o, Q v (upd H1 d (.frz o (dNO P w d us)))
theorem pe_lockN {t : TE} (h : PE X e t) : PE X e (tLockN X.prog X.w t) := ⟨fun pins s σ H Q I q => thn (h.run pins s σ H _ I q) fun u s1 ⟨x, H1, I1, r1, q1⟩ => by
  rcases q1 with q1 | ⟨d, us, e, hd, q1⟩
  · exact ⟨x, H1, I1, r1, q1⟩
  · obtain ⟨o, I2⟩ := I1.lock hd True.intro
    exact ⟨x, _, I2, r1, q1 o⟩⟩
end
/-! ### walking a locked dict -/
theorem Inv.frzN {X : Cx} {pins : List (Addr × Obj)} {σ : L2.St} {H : Hp} {s : Shared} {d : Addr} {o : Obj} {us : List NE} (I : Inv X pins σ H s) (h : H d = some (.frz o (dNO X.prog X.w d us))) :
    (d == sysModules) = false ∧ s.heap.get? d = some o ∧ o.ExactDict ∧ ∃ (es : Array DictEntry) (ep : Nat), o.data = .dict es ep ∧ es.size = us.length ∧
      ∀ (i : Nat) (u : NE), us[i]? = some u → ∃ (en : DictEntry), es[i]? = some en ∧ en.key = .ref u.2.1 ∧ RelV u.2.2 en.val := by
  obtain ⟨hd, ⟨z, hs, xs, pr, o', es, ep, ho, hx, hdt, he, _⟩, _, _⟩ := I.hok d _ h
  rw [hd] at ho
  cases ho
  refine ⟨hs, hd, hx, es, ep, hdt, ?_, fun i u e => ?_⟩
  · have l1 : es.size = xs.length := by rw [← Array.length_toList, he, List.length_map]
    have l2 : us.length = xs.length := Paired.length pr
    omega
  · obtain ⟨b, hb, e1, e2, e3⟩ := paired_get pr e
    have q : es.toList[i]? = some (entryOfKey (nestedKind X.prog X.w) b) := by rw [he, List.getElem?_map, hb]; rfl
    rw [Array.getElem?_toList] at q
    exact ⟨_, q, by rw [e2]; rfl, e3⟩
/-- its keys -/
def ItkN (P : Program) (w : World) (d : Addr) (o : Obj) (n : Nat) : It :=
  ⟨fun i H => (∃ us, H d = some (.frz o (dNO P w d us)) ∧ us.length = n) ∧ i < n, fun i H x H' => H' = H ∧ ∀ us, H d = some (.frz o (dNO P w d us)) → ∃ u, us[i]? = some u ∧ x = .ref u.2.1, fun i H => (∃ us, H d = some (.frz o (dNO P w d us)) ∧ us.length = n) ∧ n ≤ i⟩
/-- its pairs -/
def ItiN (P : Program) (w : World) (d : Addr) (o : Obj) (n : Nat) : It :=
  ⟨fun i H => (∃ us, H d = some (.frz o (dNO P w d us)) ∧ us.length = n) ∧ i < n, fun i H x H' => ∃ T y v, x = .ref T ∧ H T = none ∧ H' = upd H T (.tup [y, v]) ∧ ∀ us, H d = some (.frz o (dNO P w d us)) → ∃ u, us[i]? = some u ∧ y = .ref u.2.1 ∧ v = u.2.2,
    fun i H => (∃ us, H d = some (.frz o (dNO P w d us)) ∧ us.length = n) ∧ n ≤ i⟩
section
variable {P : Program} {w : World} {K : PySem.W.Frag} {tg : Expr} {d : Addr} {o : Obj} {es : Array DictEntry} {ep n : Nat}
theorem turn_keysN (it : Addr) (hod : o.data = .dict es ep) : Turn P w K tg (ItkN P w d o n) [it] it (fun i h => h.IsKeyIter it d i n ep) where
  mem := by simp
  obj := fun i h st b hb => by
    have e : b = it := by simpa using hb
    subst e
    obtain ⟨oi, e, c, dd⟩ := st
    exact ⟨oi, e, fun v z => by rw [dd] at z; cases z⟩
  keep := fun i h h' st k => st.at fun oi e => k it (by simp) oi e
  item := by
    intro X hP hw hK hc i pins s σ H E I hf st hg
    subst hP hw hK
    obtain ⟨⟨us, hd, hn⟩, hi⟩ := hg
    obtain ⟨f0, f1, f2, f3, f4, f5⟩ := hf it (by simp)
    obtain ⟨hs, hgd, hx, es', ep', hdt, hsz, ent⟩ := Inv.frzN I hd
    obtain ⟨rfl, rfl⟩ := dict_ep hod hdt
    have hlt : i < us.length := by omega
    obtain ⟨en, hen, hkey, hval⟩ := ent i _ (List.getElem?_eq_getElem hlt)
    refine next_key_item st hgd hdt (by rw [hsz, hn]) hen fun h' st' sb => ?_
    have I1 : Inv X pins σ H { s with heap := h' } := I.turned (t' := s.toks) (fun b ob hb e => (sb.2 b hb).trans e) f0 f1 f3 f4 f5
    obtain ⟨oi, e, c, dd⟩ := id st'
    refine ⟨en.key, rfl, go_of (s := { s with heap := h' }) e c dd (by decide) ⟨.ref us[i].2.1, H, I1, hkey, ⟨rfl, fun us' hd' => ?_⟩, st', fun b hb => (hf b hb).1⟩⟩
    obtain ⟨_, _, _, es2, ep2, hdt2, hsz2, ent2⟩ := Inv.frzN I hd'
    obtain ⟨rfl, rfl⟩ := dict_ep hod hdt2
    have hlt2 : i < us'.length := by omega
    obtain ⟨en2, hen2, hkey2, _⟩ := ent2 i _ (List.getElem?_eq_getElem hlt2)
    rw [hen] at hen2
    cases hen2
    rw [hkey] at hkey2
    exact ⟨_, List.getElem?_eq_getElem hlt2, by injection hkey2 with h; rw [h]⟩
  done := by
    intro X hP hw hK hc i pins s σ H E I hf st hg
    subst hP hw hK
    obtain ⟨⟨us, hd, hn⟩, hi⟩ := hg
    obtain ⟨f0, f1, f2, f3, f4, f5⟩ := hf it (by simp)
    obtain ⟨hs, hgd, hx, es', ep', hdt, hsz, ent⟩ := Inv.frzN I hd
    obtain ⟨rfl, rfl⟩ := dict_ep hod hdt
    exact next_key_end (I.ok.hd hc) st hgd hdt (by rw [hsz, hn]) hi fun h' eb => ⟨rfl, I.turned (t' := s.toks) (fun b ob hb e => eb b ob hb e) f0 f1 f3 f4 f5⟩
  self := fun A i s Q E st h => by
    refine wpAny_pyIter_slot st.typeIs F.slot_dict_keyiterator_iter (wpAny_call_entry F.slot_dict_keyiterator_iter st.typeIs F.entry_dict_keyiterator_iter ?_ (F.args_dict_keyiterator_iter_1 _))
    show wpAny _ _ (ret (.ref it)) _ _ s
    exact wpAny_pure ⟨_, rfl, "dict_keyiterator", _, st.typeIs, F.slot_dict_keyiterator_next.lookup, h⟩
theorem turn_itemsN {elts : List Expr} {kk : Nat} {tpos : Pos} (it : Addr) (hod : o.data = .dict es ep) :
    Turn P w K (.Tuple elts kk tpos) (ItiN P w d o n) [it] it (fun i h => ∃ ok ov, IsItemIter h it d i n ep ok ov) where
  mem := by simp
  obj := fun i h st b hb => by
    have e : b = it := by simpa using hb
    subst e
    obtain ⟨ok, ov, e⟩ := st
    exact ⟨_, e, fun v z => nomatch z⟩
  keep := fun i h h' st k => let ⟨ok, ov, e⟩ := st; ⟨ok, ov, k it (by simp) _ e⟩
  item := by
    intro X hP hw hK hc i pins s σ H E I hf st hg
    subst hP hw hK
    obtain ⟨⟨us, hd, hn⟩, hi⟩ := hg
    obtain ⟨hs, hgd, hx, es', ep', hdt, hsz, ent⟩ := Inv.frzN I hd
    obtain ⟨rfl, rfl⟩ := dict_ep hod hdt
    have hlt : i < us.length := by omega
    obtain ⟨en, hen, hkey, hval⟩ := ent i _ (List.getElem?_eq_getElem hlt)
    obtain ⟨ok, ov, he⟩ := st
    have hsn : es'.size = n := by rw [hsz, hn]
    rw [← hsn] at he
    have hlt' : it < s.heap.objs.size := Heap.lt_size he
    have hie : i < es'.size := by omega
    have e0 : es'[i] = en := by
      have := Array.getElem?_eq_getElem hie
      rw [hen] at this; exact (Option.some.inj this).symm
    refine DT.nextI he ⟨o, hgd, hx, hdt⟩ hie fun h' ho hT hz hk => ?_
    rw [e0] at ho hT
    refine ⟨_, rfl, wpAny_letOwnedTupleGo_items (s := { s with heap := h' }) ho fun h'' he' sb => ?_⟩
    have hT2 : h''.get? s.heap.objs.size = some { cls := .type "tuple", data := .seq #[en.key, en.val] } := (sb.2 _ (Nat.ne_of_gt hlt')).trans hT
    have new : ObjOk X.prog X.w (upd H s.heap.objs.size (.tup [.ref us[i].2.1, us[i].2.2])) h'' s.heap.objs.size (.tup [.ref us[i].2.1, us[i].2.2]) :=
      ⟨by show 2 ≤ sizeLine; decide, [en.key, en.val], .cons hkey (.cons hval .nil), ⟨_, hT2, rfl, _, rfl⟩⟩
    have I1 : Inv X pins σ (upd H s.heap.objs.size (.tup [.ref us[i].2.1, us[i].2.2])) { s with heap := h'' } :=
      I.turnedNew (t' := s.toks) (ch := [it]) (fun b ob hb e => (sb.2 b (by simpa using hb)).trans (hk b ob (by simpa using hb) e)) hf (Nat.le_refl _) new
    refine ⟨.ref s.heap.objs.size, _, I1, rfl, ⟨_, _, _, rfl, I.hok.fresh (Nat.le_refl _), rfl, fun us' hd' => ?_⟩, ⟨en.key, en.val, ?_⟩, fun b hb => ?_⟩
    · obtain ⟨_, _, _, es2, ep2, hdt2, hsz2, ent2⟩ := Inv.frzN I hd'
      obtain ⟨rfl, rfl⟩ := dict_ep hod hdt2
      have hlt2 : i < us'.length := by omega
      obtain ⟨en2, hen2, hkey2, hval2⟩ := ent2 i _ (List.getElem?_eq_getElem hlt2)
      rw [hen] at hen2
      cases hen2
      rw [hkey] at hkey2
      exact ⟨_, List.getElem?_eq_getElem hlt2, by injection hkey2 with h; rw [h], RelV.inj hval hval2⟩
    · rw [← hsn]; exact he'
    · have e : b = it := by simpa using hb
      rw [e, upd_ne (Nat.ne_of_lt hlt')]
      exact (hf it (by simp)).1
  done := by
    intro X hP hw hK hc i pins s σ H E I hf st hg
    subst hP hw hK
    obtain ⟨⟨us, hd, hn⟩, hi⟩ := hg
    obtain ⟨f0, f1, f2, f3, f4, f5⟩ := hf it (by simp)
    obtain ⟨hs, hgd, hx, es', ep', hdt, hsz, ent⟩ := Inv.frzN I hd
    obtain ⟨rfl, rfl⟩ := dict_ep hod hdt
    obtain ⟨ok, ov, he⟩ := st
    have hsn : es'.size = n := by rw [hsz, hn]
    rw [← hsn] at he
    exact DT.endI (I.ok.hd hc) he ⟨o, hgd, hx, hdt⟩ (by omega) fun h' eb => ⟨rfl, I.turned (t' := s.toks) (fun b ob hb e => eb b ob hb e) f0 f1 f3 f4 f5⟩
  self := fun A i s Q E st h => let ⟨_, _, e⟩ := st; PySem.W.kcp_self e h
end
section
variable {X : Cx} {tg e : Expr} {td : TE} {apos cpos : Pos}
def iKeysN (P : Program) (w : World) (td : TE) : TI := fun σ H R => td σ H fun x H1 => ∃ d o us, x = .ref d ∧ H1 d = some (.frz o (dNO P w d us)) ∧ R (ItkN P w d o us.length) H1
def iItemsN (P : Program) (w : World) (td : TE) : TI := fun σ H R => td σ H fun x H1 => ∃ d o us, x = .ref d ∧ H1 d = some (.frz o (dNO P w d us)) ∧ R (ItiN P w d o us.length) H1
theorem pi_keysN_run {pins : List (Addr × Obj)} {s1 : Shared} {σ : L2.St} {H1 : Hp} {R : It → Hp → Prop} {d : Addr} {o : Obj} {us : List NE} (I1 : Inv X pins σ H1 s1) (hd : H1 d = some (.frz o (dNO X.prog X.w d us))) (q : R (ItkN X.prog X.w d o us.length) H1) :
    wpAny (model X.prog X.w) X.A (pyIter (.ref d)) (PIE X pins σ tg R) X.xe s1 := by
  obtain ⟨hs, hgd, hx, es, ep, hdt, hsz, ent⟩ := Inv.frzN I1 hd
  refine iter_keys hs hgd hx hdt (pi_one (tk := s1.toks) I1 _ (turn_keysN _ hdt) ⟨_, Heap.get?_push_size _ rfl, rfl, ?_⟩ q)
  rw [hsz] <;> rfl
theorem pi_itemsN {elts : List Expr} {kk : Nat} {tpos : Pos} (he : PE X e td) (hbase : attributeBase e "items" X.env (eval e X.env) = eval e X.env := by rfl) (hline : (apos.endLine == cpos.line) = true := by rfl) :
    PI X (.Tuple elts kk tpos) (.Call (.Attribute e "items" apos) [] [] cpos) (iItemsN X.prog X.w td) := by
  refine ⟨fun pins s σ H R I h => ?_⟩
  refine wpAny_Call_method (T := "dict") (id := "dict.items") hbase rfl hline F.plainAttrs_dict F.slot_dict_items F.type_dict_items (thn (he.run pins s σ H _ I h) fun u s1 ⟨x, H1, I1, rx, d, o, us, ex, hd, q⟩ => ?_)
  subst ex
  obtain rfl : u = Value.ref d := rx
  obtain ⟨hs, hgd, hx, es, ep, hdt, hsz, ent⟩ := Inv.frzN I1 hd
  have raw : DT.Raw s1.heap d es ep := ⟨o, hgd, hx, hdt⟩
  refine ⟨raw.typeIs, fun b eb => by cases eb; exact ⟨o, hgd, hx.2.1⟩, ?_⟩
  have I2 : Inv X pins σ H1 { s1 with heap := s1.heap.push { cls := .type "dict_items", data := .fields #[.ref d] } } := I1.kept (t' := s1.toks) fun b ob q => Heap.get?_push_of_some _ q
  have fin : wpAny (model X.prog X.w) X.A (pyIter (.ref s1.heap.objs.size)) (PIE X pins σ (.Tuple elts kk tpos) R) X.xe { s1 with heap := s1.heap.push { cls := .type "dict_items", data := .fields #[.ref d] } } := by
    refine DT.iterI (d := d) ⟨_, Heap.get?_push_size _ rfl, rfl, rfl⟩ (raw.push _) (pi_one (tk := s1.toks) I2 _ (turn_itemsN _ hdt) ⟨.none, .none, ?_⟩ q)
    rw [← hsz]
    exact Heap.get?_push_size _ rfl
  show wpAny _ _ (callWith cpos (.builtin "dict.items") [.ref d] [] []) _ X.xe s1
  exact Calls.callWith_builtin rfl (PySem.evalArgs_none (DT.callItems hs raw fin))
end
/-! ### {k: v} -/
section
variable {X : Cx} {k v : Expr} {tk tv : TE} {pos : Pos}
def tDict1N (P : Program) (w : World) (tk tv : TE) : TE := fun σ H Q => ∀ p, H p = none → tk σ (upd H p (dNO P w p [])) fun x H1 => tv σ H1 fun y H2 => H2 p = some (dNO P w p []) ∧ ∃ b nk, x = .ref b ∧ KeyRef H2 nk b ∧ Q (.ref p) (upd H2 p (dNO P w p [(nk, b, y)]))
theorem pe_dict1N (hu : X.A.units + 65 < cLine) (hk : PE X k tk) (hv : PE X v tv) : PE X (.Dict [some k] [v] pos) (tDict1N X.prog X.w tk tv) := by
  refine ⟨fun pins s σ H Q I q => ?_⟩
  have hn := I.hok.fresh (Nat.le_refl s.heap.objs.size)
  have I1 := I.laid (a := s.heap.objs.size) (o := dNO X.prog X.w s.heap.objs.size []) (h' := s.heap.push { cls := .type "dict", data := .dict #[] }) (t' := s.toks) (fun _ _ q => Heap.get?_push_of_some _ q) (Nat.le_refl _) (dn_empty s.heap I.big)
  have hshape : (evalEachOpt [some k] X.env).zip ((evalEach [v] X.env).map fun v => do let x ← v; standAt pos; pure x) = [(eval k X.env, do let x ← eval v X.env; standAt pos; pure x)].map fun p => (some p.1, p.2) := rfl
  rw [arm_eval_Dict, hshape, dictDisplay_pairs _ (by simp) (by simp)]
  refine wpAny_bind (wpAny_standAt (wpAny_bind (wpAny_subDictH (knd := nestedKind X.prog X.w) (show X.A.units + 8 < cLine by omega) (by simp) ?_)))
  unfold evalPairs
  refine wpAny_bind (thn (hk.run pins _ σ _ _ I1 (q _ hn)) fun kv s1 ⟨x, H1, J1, rx, q1⟩ => ?_)
  refine wpAny_bind (wpAny_holding (wpAny_bind (thn (hv.run pins _ σ _ _ J1 q1) fun vv s2 ⟨y, H2, J2, ry, e, b, nk, ex, kr, q2⟩ => ?_)))
  refine wpAny_bind (wpAny_standAt (wpAny_pure ?_))
  refine wpAny_bind (wpAny_holding ?_)
  unfold evalPairs
  refine wpAny_pure (wpAny_pure ?_)
  subst ex
  obtain rfl : kv = Value.ref b := rx
  obtain ⟨z, hd, xs, rel, dd⟩ := dn_of J2.hok (Rd.of e) (fun u hu => nomatch hu)
  cases rel
  refine ⟨[(nk, b, vv)], ⟨rfl, rfl, kis_of J2.hok kr, True.intro⟩, dd, fun h' tk' dd' hs => wpAny_pure ?_⟩
  have he : ∃ q, h'.get? s.heap.objs.size = some q := let ⟨q, _, _, hq, _⟩ := dd'; ⟨q, hq⟩
  refine ⟨.ref s.heap.objs.size, _, d_write (t' := tk') J2 (by rw [e]; exact True.intro) hs he (dn_new (us := [(nk, b, y)]) (by rw [List.length_singleton, sizeLine_eq]; omega) hd (.cons ⟨rfl, rfl, ry⟩ .nil) dd'), rfl, q2⟩
end
end Ev

/-! Ev, part Q: max(.., default=..), list(zip(a, b)) of tuples, over the tracked heap. -/
namespace Ev
open RZ
open PySem PySem.Spec PyProof.Rows L2

def mxV (y : V) : List Int → V
  | [] => y
  | n :: r => .int (r.foldl max n)
theorem boot_max' : bootBuiltins ("max" : Str) = some (.builtin "max") := by decide +kernel
theorem readsAll_ints {h : Heap} : ∀ {ns : List Int} {us : List Value}, Vals (ns.map V.int) us → ReadsAll h us (ns.map PyData.int) []
  | [], _, r => by cases r; exact .nil
  | n :: ns, _, r => by
    rw [List.map_cons] at r
    cases r with
    | cons h1 t =>
      obtain ⟨t', rfl⟩ := (show ∃ t, _ = Value.int n t from h1)
      exact ReadsAll.cons (.int n t') (readsAll_ints t)
theorem depth_ints : ∀ ns : List Int, PyData.depthAll (ns.map PyData.int) ≤ 0
  | [] => Nat.le_refl _
  | n :: ns => by
    rw [List.map_cons]
    unfold PyData.depthAll
    have := depth_ints ns
    simp only [PyData.depth]; omega
theorem alike_ints (ns : List Int) : PySem.W.AlikeAll (ns.map PyData.int) := by
  refine ⟨fun x hx y hy => ?_, fun x hx => ?_⟩
  · obtain ⟨a, _, rfl⟩ := List.mem_map.mp hx
    obtain ⟨b, _, rfl⟩ := List.mem_map.mp hy
    simp [PySem.W.alike]
  · obtain ⟨a, _, rfl⟩ := List.mem_map.mp hx
    simp
theorem rel_max {h' : Heap} {v : Value} {n : Int} {r : List Int} {bs : List Addr} (q : Reads h' v (PySem.W.maxD (.int n) (r.map .int)) bs) : RelV (.int (r.foldl max n)) v := by
  rw [PySem.W.maxD_ints] at q
  cases q with
  | int i t => exact ⟨t, rfl⟩
section
variable {X : Cx} {e k : Expr} {te tk : TE} {p kpos pos apos cpos : Pos}
def tMaxD (K : PySem.W.Frag) (te tk : TE) : TE := fun σ H Q => te σ H fun v H1 => tk σ H1 fun y H2 => ∃ (a : Addr) (ns : List Int), v = .ref a ∧ SqL K H2 a (ns.map V.int) ∧ Q (mxV y ns) H2
theorem pe_maxD (hc : X.calm = true) (hu : X.A.units + 65 < cLine) (hg : Gl X "max") (hm : X.mg "max" = none) (he : PE X e te) (hk : PE X k tk)
    (hs : starEach [e] X.env = (false, eval e X.env) :: starEach [] X.env) (hpl : (backTo pos (starEach [e] X.env)).any (·.1) = false) :
    PE X (.Call (.Name "max" p) [e] [⟨some "default", k, kpos⟩] pos) (tMaxD X.K te tk) := by
  refine ⟨fun pins s σ H Q I h => ?_⟩
  refine wpAny_Call_Name_kw (ld_blt I hg hm boot_max' ?_)
  refine PyProof.Rows.callWith_kw ?_ (by rw [hs]; rfl) hpl rfl rfl
  rw [hs]
  show wpAny _ _ (spliced ((false, eval e X.env) :: backTo pos (starEach [] X.env))) _ _ s
  refine Calls.spliced_cons (thn (he.run pins s σ H _ I h) fun u s1 ⟨x, H1, I1, r1, q1⟩ => ?_)
  refine Calls.spliced_nil ?_
  show wpAny _ _ (evalAll ((do let v ← eval k X.env; standAt pos; pure v) :: [])) _ _ s1
  refine wpAny_evalAll_cons (wpAny_bind (thn (hk.run pins s1 σ H1 _ I1 q1) fun u2 s2 ⟨y, H2, I2, r2, a, ns, ev, hq, q⟩ => wpAny_bind (wpAny_standAt (wpAny_pure ?_))))
  refine wpAny_evalAll_nil ?_
  subst ev
  obtain rfl : u = Value.ref a := r1
  obtain ⟨its, rv, hl, hz⟩ := I2.list hq
  show wpAny _ _ (call (.builtin "max") [.ref a] [(Str.ofString "default", u2)]) _ _ s2
  refine PySem.W.max_list_default (I2.ok.hd hc) hl.isList (xs := ns.map PyData.int) (as := []) (readsAll_ints rv) (alike_ints ns) (by have := depth_ints ns; omega) (fun e0 h' tk kp => ?_) fun z zs i v h' tk bs e0 hi r kp => ?_
  · have : ns = [] := List.map_eq_nil_iff.mp e0
    subst this
    exact ⟨y, H2, I2.kept (t' := tk) kp, r2, q⟩
  · cases ns with
    | nil => cases e0
    | cons n r' =>
      rw [List.map_cons] at e0
      injection e0 with e1 e2
      subst e1 e2
      exact ⟨.int (r'.foldl max n), H2, I2.kept (t' := tk) kp, rel_max r, q⟩
/-! ### max(d.values(), default=None) -/
def tMaxV (P : Program) (w : World) (td : TE) : TE := fun σ H Q => td σ H fun x H1 => ∃ (d : Addr) (us : List NE) (ns : List Int), x = .ref d ∧ Rd H1 d (dNO P w d us) ∧ us.map (·.2.2) = ns.map V.int ∧ Q (mxV .non ns) H1
theorem nv_vals {us : List NE} {xs : List (NK × Addr × Value)} (r : NV us xs) : Vals (us.map (·.2.2)) (xs.map (·.2.2)) := by
  induction r with
  | nil => exact .nil
  | cons h t ih => exact .cons h.2.2 ih
theorem pe_maxV {cp : Pos} {kc : Nat} (hc : X.calm = true) (hu : X.A.units + 65 < cLine) (hg : Gl X "max") (hm : X.mg "max" = none) (he : PE X e te)
    (hbase : attributeBase e "values" X.env (eval e X.env) = eval e X.env := by rfl) (hline : (apos.endLine == cpos.line) = true := by rfl) :
    PE X (.Call (.Name "max" p) [.Call (.Attribute e "values" apos) [] [] cpos] [⟨some "default", .Constant .none kc cp, kpos⟩] pos) (tMaxV X.prog X.w te) := by
  refine ⟨fun pins s σ H Q I h => ?_⟩
  refine wpAny_Call_Name_kw (ld_blt I hg hm boot_max' ?_)
  refine PyProof.Rows.callWith_kw ?_ rfl rfl rfl rfl
  show wpAny _ _ (spliced ((false, eval (.Call (.Attribute e "values" apos) [] [] cpos) X.env) :: backTo pos (starEach [] X.env))) _ _ s
  refine Calls.spliced_cons ?_
  refine wpAny_Call_method (T := "dict") (id := "dict.values") hbase rfl hline F.plainAttrs_dict F.slot_dict_values F.type_dict_values (thn (he.run pins s σ H _ I h) fun u s1 ⟨x, H1, I1, rx, d, us, ns, ex, hd, ei, q⟩ => ?_)
  subst ex
  obtain rfl : u = Value.ref d := rx
  obtain ⟨⟨z, hs, xs, r, o, es, ep, h1, h2, h3, h4, h5⟩, _, _⟩ := (show ObjOk X.prog X.w H1 s1.heap d (dNO X.prog X.w d us) from hd.ok I1.hok)
  have raw : s1.heap.DictRaw d es ep := ⟨o, h1, h2, h3⟩
  refine ⟨raw.typeIs, fun b eb => by cases eb; exact ⟨o, h1, h2.2.1⟩, ?_⟩
  show wpAny _ _ (callWith cpos (.builtin "dict.values") [.ref d] [] []) _ X.xe s1
  refine Calls.callWith_builtin rfl (PySem.evalArgs_none (call_meetsIn PySem.F.slot_dict_values raw.typeIs PySem.F.entry_dict_values (PySem.F.args_dict_values_1 _) (meets_dict_values_raw d hs) ⟨⟨es, ep, raw⟩, ?_⟩))
  have I2 : Inv X pins σ H1 { s1 with heap := s1.heap.push { cls := .type "dict_values", data := .fields #[.ref d] } } := I1.kept (t' := s1.toks) fun b o q => Heap.get?_push_of_some _ q
  refine Calls.spliced_nil ?_
  show wpAny _ _ (evalAll ((do let v ← eval (.Constant .none kc cp) X.env; standAt pos; pure v) :: [])) _ _ _
  refine wpAny_evalAll_cons (wpAny_bind (Constant_none (wpAny_bind (wpAny_standAt (wpAny_pure ?_)))))
  refine wpAny_evalAll_nil ?_
  have hv : (s1.heap.push { cls := .type "dict_values", data := .fields #[.ref d] }).IsValuesView s1.heap.objs.size d := ⟨_, Heap.get?_push_size _ rfl, rfl, rfl⟩
  have raw2 := raw.push { cls := .type "dict_values", data := .fields #[.ref d] }
  have hvals : es.toList.map (·.val) = xs.map (·.2.2) := by
    rw [h4, List.map_map]
    exact List.map_congr_left fun _ _ => rfl
  have rs : ReadsAll s1.heap (es.map (·.val)).toList (ns.map PyData.int) [] := by
    rw [Array.toList_map, hvals]
    exact readsAll_ints (ei ▸ nv_vals r)
  have hsz : es.size = ns.length := by
    have e1 : es.size = xs.length := by rw [← Array.length_toList, h4, List.length_map]
    have e2 : us.length = xs.length := Paired.length r
    have e3 := congrArg List.length ei
    rw [List.length_map, List.length_map] at e3
    omega
  show wpAny _ _ (call (.builtin "max") [.ref s1.heap.objs.size] [(Str.ofString "default", Value.none)]) _ _ _
  have hlt : d < s1.heap.objs.size := Heap.lt_size h1
  have hne : d ≠ (s1.heap.push { cls := .type "dict_values", data := .fields #[.ref d] }).objs.size := by rw [Heap.size_push]; exact Nat.ne_of_lt (Nat.lt_succ_of_lt hlt)
  have hh : X.A.in1.handled = none := I2.ok.hd hc
  refine call_max_walkD (wpAny_pyIter_values_raw hv raw2 ?_)
  refine ⟨_, _, _, _, _, _, _, s1.heap, (fun i j => PySem.W.dataLt ((ns.map PyData.int).getD j .none) ((ns.map PyData.int).getD i .none)), rfl,
    ((Walks.rawValues (A := X.A.in1) hh _ d hne es ep).mono_item (P' := fun i v => (es.map (·.val))[i]? = some v) fun i v hi ⟨hi', e⟩ => by rw [Array.getElem?_map, Array.getElem?_eq_getElem hi', e]; rfl).toS,
    ⟨⟨_, Heap.get?_push_size _ rfl, rfl, rfl⟩, raw2.push _⟩, fun b hb => ?_, fun b o' e hb => ?_, fun b o' e => Heap.get?_push_of_some _ (Heap.get?_push_of_some _ e), fun hz s' m => ?_, fun hp => ⟨PySem.W.cmpIn_gt (A := X.A.in1) rs (alike_ints ns) (by show X.A.units + 1 + _ < _; have := depth_ints ns; omega), fun v s' hP m => ?_⟩⟩
  · show b < ((s1.heap.push _).push _).objs.size
    rw [Heap.size_push, Heap.size_push]
    rcases List.mem_cons.mp hb with rfl | hb
    · rw [Heap.size_push]; exact Nat.lt_succ_self _
    · rw [List.mem_singleton.mp hb]; exact Nat.lt_succ_of_lt (Nat.lt_succ_of_lt hlt)
  · have h0 := List.mem_singleton.mp hb
    rw [Heap.size_push] at h0
    have := Heap.lt_size e
    rw [h0] at this
    exact absurd this (Nat.not_lt_of_lt (Nat.lt_succ_self _))
  · have hn : ns = [] := List.eq_nil_of_length_eq_zero (by omega)
    subst hn
    obtain ⟨h', tk, rfl, hk'⟩ := PySem.W.moved_old (s := { s1 with heap := s1.heap.push { cls := .type "dict_values", data := .fields #[.ref d] } }) rfl rfl m
    exact ⟨.non, H1, I2.kept (t' := tk) hk', rfl, q⟩
  · obtain ⟨h', tk, rfl, hk'⟩ := PySem.W.moved_old (s := { s1 with heap := s1.heap.push { cls := .type "dict_values", data := .fields #[.ref d] } }) rfl rfl m
    obtain ⟨bs, r1, _, _, _⟩ := PySem.W.readsAll_atA rs _ v hP
    cases ns with
    | nil => rw [hsz] at hp; exact absurd hp (Nat.lt_irrefl 0)
    | cons n r' =>
      have e1 : es.size - 1 = (r'.map PyData.int).length := by rw [hsz, List.length_map]; rfl
      have e2 := (PySem.W.argBest_fold (fun a b => PySem.W.dataLt b a) PyData.none (.int n) (r'.map PyData.int) _ (Nat.le_refl _)).2
      rw [List.take_length] at e2
      rw [e1] at r1
      have r2 := PySem.W.reads_keeps (fun b o e => hk' b o (Heap.get?_push_of_some _ e)) r1
      have r3 : Reads h' v (PySem.W.maxD (.int n) (r'.map .int)) bs := by unfold PySem.W.maxD; rw [← e2]; exact r2
      exact ⟨.int (r'.foldl max n), H1, I2.kept (t' := tk) hk', rel_max r3, q⟩
end
/-! ### list(zip(a, b)) of tuples -/
section
variable {prog : Program} {w : World} {A : Around} {E : Value → Shared → Prop} {s : Shared}
def ZipO (h : Heap) (z TI TO : Addr) (f0 : Value) (f : Bool) : Prop := h.get? z = some { cls := .type "zip", dict := none, data := .fields #[f0, .bool f, .bool false, .ref TI, .ref TO], slots := #[] }
theorem zip_free {z TI TO o : Addr} {f : Bool} {oo : Obj} {Q : Bool → Shared → Prop} (hz : ZipO s.heap z TI TO (rawInt o) f) (ho : s.heap.get? o = some oo)
    (K : ∀ h', ZipO h' z TI TO (rawInt o) true → Heap.SameBut z s.heap h' → Q false { s with heap := h' }) : wpAny (model prog w) A (Builtin.SmallTypes.ownedTupleIsFree (.ref z)) Q E s := by
  unfold Builtin.SmallTypes.ownedTupleIsFree
  refine wpAny_bind (wpAny_field hz rfl (x := rawInt o) rfl ?_)
  show wpAny _ _ (loadIfAlive ((o : Int).toNat) >>= _) _ _ _
  rw [Int.toNat_natCast]
  refine wpAny_bind (PySem.W.kdx_alive ho ?_)
  simp only [Option.isNone_some, Bool.false_eq_true, if_false]
  refine wpAny_bind (wpAny_field hz rfl (x := .bool f) rfl ?_)
  cases f with
  | true =>
    rw [if_neg (show ¬ ((Value.bool true != Value.bool true) = true) from Bool.false_ne_true)]
    exact wpAny_pure (K s.heap hz (Heap.SameBut.refl _ _))
  | false =>
    rw [if_pos (show (Value.bool false != Value.bool true) = true from rfl)]
    refine wpAny_bind (wpAny_setField_rec hz (by simp) fun h₃ he₃ hs₃ => ?_)
    exact wpAny_pure (K h₃ he₃ hs₃)
/-- the next pair, the one ahead still held -/
theorem zipO_next_item {z TI TO i1 i2 l1 l2 o : Addr} {f : Bool} {oo : Obj} {k1 k2 : Nat} {xs ys : Array Value} {x y : Value} {Q : Value → Shared → Prop} (D : ZipApart z TI TO i1 i2 l1 l2)
    (hz : ZipO s.heap z TI TO (rawInt o) f) (ho : s.heap.get? o = some oo) (hTI : IsPair s.heap TI (.ref i1) (.ref i2))
    (h1 : s.heap.IsTupleIter i1 l1 k1) (h2 : s.heap.IsTupleIter i2 l2 k2) (hl1 : s.heap.IsTuple l1 xs) (hl2 : s.heap.IsTuple l2 ys) (hx : xs[k1]? = some x) (hy : ys[k2]? = some y)
    (hQ : ∀ h', ZipO h' z TI TO (rawInt o) true → h'.IsTupleIter i1 l1 (k1 + 1) → h'.IsTupleIter i2 l2 (k2 + 1) → IsPair h' s.heap.objs.size x y → h'.objs.size = s.heap.objs.size + 1 →
      (∀ c o, c ≠ z → c ≠ i1 → c ≠ i2 → s.heap.get? c = some o → h'.get? c = some o) → Q (.ref s.heap.objs.size) { s with heap := h' }) :
    wpAny (model prog w) A (Builtin.«zip.__next__» ⟨[.ref z], []⟩) (fun fin s' => ∃ v, fin = .done (.ret v) ∧ Q v s') E s := by
  show wpAny _ _ (field (.ref z) 2 >>= _) _ _ _
  refine wpAny_bind (wpAny_field hz rfl (x := .bool false) rfl ?_)
  show wpAny _ _ (field (.ref z) 3 >>= _) _ _ _
  refine wpAny_bind (wpAny_field hz rfl (x := .ref TI) rfl ?_)
  refine wpAny_bind (wpAny_seqItems hTI rfl ?_)
  show wpAny _ _ (Builtin.SmallTypes.ownedTupleIsFree (.ref z) >>= _) _ _ _
  refine wpAny_bind (zip_free hz ho fun h₁ hz₁ hs₁ => ?_)
  simp only [Bool.false_eq_true, if_false]
  rw [← Array.forIn_toList]
  simp only [List.forIn_cons, List.forIn_nil]
  refine wpAny_bind (wpAny_bind (wpAny_bind (wpAny_holding ?_)))
  show wpAny _ _ (Builtin.SmallTypes.nextOf (.ref i1) >>= _) _ _ _
  refine wpAny_bind (nextOf_tuple_item (h1.extBut hs₁.extBut D.i1z) (hl1.extBut hs₁.extBut D.l1z) hx fun h₂ h1₂ hs₂ => wpAny_pure ?_)
  refine wpAny_pure ?_
  refine wpAny_bind (wpAny_bind (wpAny_holding ?_))
  show wpAny _ _ (Builtin.SmallTypes.nextOf (.ref i2) >>= _) _ _ _
  refine wpAny_bind (nextOf_tuple_item ((h2.extBut hs₁.extBut D.i2z).extBut hs₂.extBut D.i12.symm) ((hl2.extBut hs₁.extBut D.l2z).extBut hs₂.extBut D.l2i1) hy fun h₄ h2₄ hs₄ => wpAny_pure ?_)
  refine wpAny_pure (wpAny_pure ?_)
  refine wpAny_bind (wpAny_newTuple ?_ (by show 2 ≤ sizeLine; rw [sizeLine_eq]; omega))
  have hsz : h₄.objs.size = s.heap.objs.size := by rw [hs₄.1, hs₂.1, hs₁.1]
  have hz₄ : ZipO h₄ z TI TO (rawInt o) true := hs₄.extBut _ _ D.i2z.symm (hs₂.extBut _ _ D.i1z.symm hz₁)
  have hk₄ : ∀ c o, c ≠ z → c ≠ i1 → c ≠ i2 → s.heap.get? c = some o → h₄.get? c = some o := fun c o c1 c3 c4 e => hs₄.extBut _ _ c4 (hs₂.extBut _ _ c3 (hs₁.extBut _ _ c1 e))
  have h1₄ : h₄.IsTupleIter i1 l1 (k1 + 1) := h1₂.extBut hs₄.extBut D.i12
  refine wpAny_pure ⟨_, rfl, ?_⟩
  show Q (.ref h₄.objs.size) _
  have hT : IsPair (h₄.push { cls := .type "tuple", data := .seq #[x, y] }) h₄.objs.size x y := Heap.get?_push_size _ rfl
  have hz8 : (h₄.push { cls := .type "tuple", data := .seq #[x, y] }).objs.size = h₄.objs.size + 1 := Heap.size_push ..
  rw [hsz] at hT hz8
  rw [hsz]
  exact hQ _ (Heap.get?_push_of_some _ hz₄) (h1₄.at fun o e => Heap.get?_push_of_some _ e) (h2₄.at fun o e => Heap.get?_push_of_some _ e) hT hz8 fun c o c1 c2 c3 e => Heap.get?_push_of_some _ (hk₄ c o c1 c2 c3 e)
theorem zipO_next_end {z TI TO i1 i2 l1 l2 o : Addr} {f : Bool} {oo : Obj} {k1 k2 : Nat} {xs ys : Array Value} {Q : PySem.Fin → Shared → Prop} (hh : A.handled = none) (D : ZipApart z TI TO i1 i2 l1 l2)
    (hz : ZipO s.heap z TI TO (rawInt o) f) (ho : s.heap.get? o = some oo) (hTI : IsPair s.heap TI (.ref i1) (.ref i2))
    (h1 : s.heap.IsTupleIter i1 l1 k1) (h2 : s.heap.IsTupleIter i2 l2 k2) (hl1 : s.heap.IsTuple l1 xs) (hl2 : s.heap.IsTuple l2 ys) (hend : xs[k1]? = none ∨ ys[k2]? = none)
    (hE : ∀ h' e, (∀ c o, c ≠ z → c ≠ i1 → c ≠ i2 → s.heap.get? c = some o → h'.get? c = some o) → (∃ o, h'.get? e = some o ∧ o.cls = .type "StopIteration") → E (.ref e) { s with heap := h' }) :
    wpAny (model prog w) A (Builtin.«zip.__next__» ⟨[.ref z], []⟩) Q E s := by
  show wpAny _ _ (field (.ref z) 2 >>= _) _ _ _
  refine wpAny_bind (wpAny_field hz rfl (x := .bool false) rfl ?_)
  show wpAny _ _ (field (.ref z) 3 >>= _) _ _ _
  refine wpAny_bind (wpAny_field hz rfl (x := .ref TI) rfl ?_)
  refine wpAny_bind (wpAny_seqItems hTI rfl ?_)
  show wpAny _ _ (Builtin.SmallTypes.ownedTupleIsFree (.ref z) >>= _) _ _ _
  refine wpAny_bind (zip_free hz ho fun h₁ hz₁ hs₁ => ?_)
  simp only [Bool.false_eq_true, if_false]
  rw [← Array.forIn_toList]
  simp only [List.forIn_cons, List.forIn_nil]
  refine wpAny_bind (wpAny_bind (wpAny_bind (wpAny_holding ?_)))
  show wpAny _ _ (Builtin.SmallTypes.nextOf (.ref i1) >>= _) _ _ _
  cases hx : xs[k1]? with
  | none =>
    refine wpAny_bind (nextOf_tuple_end hh (h1.extBut hs₁.extBut D.i1z) (hl1.extBut hs₁.extBut D.l1z) hx fun h₂ e hs₂ he => ?_)
    exact hE h₂ e (fun c o c1 c3 _ x => hs₂ _ _ c3 (hs₁.extBut _ _ c1 x)) he
  | some x =>
    have hy : ys[k2]? = none := by rcases hend with h | h; rw [hx] at h; cases h; exact h
    refine wpAny_bind (nextOf_tuple_item (h1.extBut hs₁.extBut D.i1z) (hl1.extBut hs₁.extBut D.l1z) hx fun h₂ h1₂ hs₂ => wpAny_pure ?_)
    refine wpAny_pure ?_
    refine wpAny_bind (wpAny_bind (wpAny_holding ?_))
    show wpAny _ _ (Builtin.SmallTypes.nextOf (.ref i2) >>= _) _ _ _
    refine wpAny_bind (nextOf_tuple_end hh ((h2.extBut hs₁.extBut D.i2z).extBut hs₂.extBut D.i12.symm) ((hl2.extBut hs₁.extBut D.l2z).extBut hs₂.extBut D.l2i1) hy fun h₄ e hs₄ he => ?_)
    exact hE h₄ e (fun c o c1 c3 c4 x => hs₄ _ _ c4 (hs₂.extBut _ _ c3 (hs₁.extBut _ _ c1 x))) he
/-- walking a zip whose pairs are kept -/
structure ZS (h : Heap) (S z TI TO i1 i2 l1 l2 : Addr) (xs ys : Array Value) (i : Nat) : Prop where
  zip : (IsZip h z TI TO .none ∧ ∃ a b, IsPair h TO a b) ∨ ∃ (o : Addr) (f : Bool) (oo : Obj), ZipO h z TI TO (rawInt o) f ∧ h.get? o = some oo ∧ o ≠ z ∧ o ≠ i1 ∧ o ≠ i2 ∧ o ≠ S
  ti : IsPair h TI (.ref i1) (.ref i2)
  a : h.IsTupleIter i1 l1 i
  b : h.IsTupleIter i2 l2 i
  la : h.IsTuple l1 xs
  lb : h.IsTuple l2 ys
theorem zs_item {S z TI TO i1 i2 l1 l2 : Addr} {xs ys : Array Value} {i : Nat} {x y : Value} {Q : Option Value → Shared → Prop} (D : ZipApart z TI TO i1 i2 l1 l2) (st : ZS s.heap S z TI TO i1 i2 l1 l2 xs ys i) (hS : S < s.heap.objs.size) (hx : xs[i]? = some x) (hy : ys[i]? = some y)
    (hQ : ∀ h', ZS h' S z TI TO i1 i2 l1 l2 xs ys (i + 1) → IsPair h' s.heap.objs.size x y → h'.objs.size = s.heap.objs.size + 1 →
      (∀ c o, c ≠ z → c ≠ TO → c ≠ i1 → c ≠ i2 → s.heap.get? c = some o → h'.get? c = some o) → Q (some (.ref s.heap.objs.size)) { s with heap := h' }) : wpAny (model prog w) A (pyNext (.ref z)) Q E s := by
  obtain ⟨zz, ti, a, b, la, lb⟩ := st
  have ha : i1 < s.heap.objs.size := let ⟨_, e, _⟩ := a; Heap.lt_size e
  have hb : i2 < s.heap.objs.size := let ⟨_, e, _⟩ := b; Heap.lt_size e
  rcases zz with ⟨hz, u, v, hTO⟩ | ⟨o, f, oo, hz, ho, d1, d2, d3, d4⟩
  · refine pyNext_zipT_item D hz ti hTO a b la lb hx hy fun h' g1 g2 g3 g4 g5 g6 g7 => ?_
    have hzl : z < s.heap.objs.size := Heap.lt_size hz
    exact hQ h' ⟨.inr ⟨_, false, _, g1, g5, Nat.ne_of_gt hzl, Nat.ne_of_gt ha, Nat.ne_of_gt hb, Nat.ne_of_gt hS⟩, g7 _ _ D.TIz D.TITO D.TIi1 D.TIi2 ti, g3, g4, la.at fun o e => g7 _ _ D.l1z D.l1TO D.l1i1 D.l1i2 e, lb.at fun o e => g7 _ _ D.l2z D.l2TO D.l2i1 D.l2i2 e⟩ g5 g6 g7
  · have hT : s.TypeIs (.ref z) "zip" := ⟨_, hz, rfl⟩
    unfold pyNext
    refine wpAny_bind (wpAny_attempt (wpAny_callSpecial?_slot (name := Str.ofString "__next__") hT F.slot_zip_next
      (wpAny_call_entry F.slot_zip_next hT F.entry_zip_next
        (zipO_next_item D hz ho ti a b la lb hx hy fun h' g1 g3 g4 g5 g6 g7 => wpAny_pure ?_) (F.args_zip_next_1 _))))
    exact hQ h' ⟨.inr ⟨o, true, oo, g1, g7 _ _ d1 d2 d3 ho, d1, d2, d3, d4⟩, g7 _ _ D.TIz D.TIi1 D.TIi2 ti, g3, g4, la.at fun o e => g7 _ _ D.l1z D.l1i1 D.l1i2 e, lb.at fun o e => g7 _ _ D.l2z D.l2i1 D.l2i2 e⟩ g5 g6 fun c o c1 _ c3 c4 e => g7 c o c1 c3 c4 e
theorem zs_done {S z TI TO i1 i2 l1 l2 : Addr} {xs ys : Array Value} {i : Nat} {Q : Option Value → Shared → Prop} (hh : A.handled = none) (D : ZipApart z TI TO i1 i2 l1 l2) (st : ZS s.heap S z TI TO i1 i2 l1 l2 xs ys i) (hend : xs[i]? = none ∨ ys[i]? = none)
    (hQ : ∀ h', (∀ c o, c ≠ z → c ≠ TO → c ≠ i1 → c ≠ i2 → s.heap.get? c = some o → h'.get? c = some o) → Q none { s with heap := h' }) : wpAny (model prog w) A (pyNext (.ref z)) Q E s := by
  obtain ⟨zz, ti, a, b, la, lb⟩ := st
  rcases zz with ⟨hz, u, v, hTO⟩ | ⟨o, f, oo, hz, ho, d1, d2, d3, d4⟩
  · exact pyNext_zipT_end hh D hz ti hTO a b la lb hend hQ
  · have hT : s.TypeIs (.ref z) "zip" := ⟨_, hz, rfl⟩
    unfold pyNext
    refine wpAny_bind (wpAny_attempt (wpAny_callSpecial?_slot (name := Str.ofString "__next__") hT F.slot_zip_next
      (wpAny_call_entry F.slot_zip_next hT F.entry_zip_next (zipO_next_end hh D hz ho ti a b la lb hend fun h' e hk he => ?_) (F.args_zip_next_1 _))))
    obtain ⟨o, ho, hc⟩ := he
    refine wpAny_bind (wpAny_isInstance (T := "StopIteration") (b := true) ⟨o, ho, hc⟩ isSubtype_stop ?_)
    exact wpAny_pure (hQ _ fun c o c1 _ c3 c4 e => hk c o c1 c3 c4 e)
end
/-- the pairs that are kept -/
structure ZG (xs ys : Array Value) (lo : Addr) (h : Heap) (as : List Addr) : Prop where
  rise : as.Pairwise (· < ·)
  above : ∀ a ∈ as, lo < a
  pairs : ∀ (j : Nat) (a : Addr), as[j]? = some a → ∃ x y, xs[j]? = some x ∧ ys[j]? = some y ∧ IsPair h a x y
theorem ZG.there {xs ys : Array Value} {lo : Addr} {h : Heap} {as : List Addr} (g : ZG xs ys lo h as) {a : Addr} (ha : a ∈ as) : a < h.objs.size := by
  obtain ⟨j, hj⟩ := List.mem_iff_getElem?.mp ha
  obtain ⟨_, _, _, _, e⟩ := g.pairs j a hj
  exact Heap.lt_size e
theorem ZS.keep {h h' : Heap} {S z TI TO i1 i2 l1 l2 : Addr} {xs ys : Array Value} {i : Nat} (st : ZS h S z TI TO i1 i2 l1 l2 xs ys i) (k : ∀ b o, b ≠ S → h.get? b = some o → h'.get? b = some o) (d1 : z ≠ S) (d2 : TI ≠ S) (d3 : TO ≠ S) (d4 : i1 ≠ S) (d5 : i2 ≠ S) (d6 : l1 ≠ S) (d7 : l2 ≠ S) :
    ZS h' S z TI TO i1 i2 l1 l2 xs ys i := by
  obtain ⟨zz, ti, a, b, la, lb⟩ := st
  refine ⟨?_, k _ _ d2 ti, a.at fun o e => k _ _ d4 e, b.at fun o e => k _ _ d5 e, la.at fun o e => k _ _ d6 e, lb.at fun o e => k _ _ d7 e⟩
  rcases zz with ⟨hz, u, v, hTO⟩ | ⟨o, f, oo, hz, ho, e1, e2, e3, e4⟩
  · exact .inl ⟨k _ _ d1 hz, u, v, k _ _ d3 hTO⟩
  · exact .inr ⟨o, f, oo, k _ _ d1 hz, k _ _ e4 ho, e1, e2, e3, e4⟩
section
variable {prog : Program} {w : World} {A : Around} {s : Shared} {R : Result → Shared → Prop} {xs ys : Array Value} {z TI TO i1 i2 l1 l2 S : Addr}
theorem zl_loop (hh : A.handled = none) (D : ZipApart z TI TO i1 i2 l1 l2) (d1 : z < S) (d2 : TI < S) (d3 : TO < S) (d4 : i1 < S) (d5 : i2 < S) (d6 : l1 ≠ S) (d7 : l2 ≠ S) (hn : min xs.size ys.size ≤ sizeLine) (res : Value) {h₁ : Heap}
    (hR : ∀ h' tk acc c as, (∀ b o, b ≠ S → b ≠ z → b ≠ TO → b ≠ i1 → b ≠ i2 → h₁.get? b = some o → h'.get? b = some o) → h'.get? S = some { cls := .type "list", dict := none, data := .seq acc c, slots := #[] } → as.length = min xs.size ys.size → ZG xs ys S h' as →
      acc.toList = as.map Value.ref → R (.ok (.ret res)) { s with heap := h', toks := tk }) :
    ∀ (k i : Nat) (h : Heap) (tk c : Nat) (acc : Array Value) (as : List Addr), min xs.size ys.size - i = k → i ≤ min xs.size ys.size → ZS h S z TI TO i1 i2 l1 l2 xs ys i → (∀ b o, b ≠ S → b ≠ z → b ≠ TO → b ≠ i1 → b ≠ i2 → h₁.get? b = some o → h.get? b = some o) →
      h.get? S = some { cls := .type "list", dict := none, data := .seq acc c, slots := #[] } → acc.toList = as.map Value.ref → as.length = i → ZG xs ys S h as →
      codeAny (model prog w) A (.builtin "list.extend.loop" ⟨[.ref S, .ref z, res], []⟩) R { s with heap := h, toks := tk } := by
  have far : ∀ {b : Addr}, S < b → b ≠ z ∧ b ≠ TO ∧ b ≠ i1 ∧ b ≠ i2 := fun hb => ⟨Nat.ne_of_gt (Nat.lt_trans d1 hb), Nat.ne_of_gt (Nat.lt_trans d3 hb), Nat.ne_of_gt (Nat.lt_trans d4 hb), Nat.ne_of_gt (Nat.lt_trans d5 hb)⟩
  intro k
  induction k with
  | zero =>
    intro i h tk c acc as hk hi hst hkeep hS hacc hal hG
    have hin : i = min xs.size ys.size := by omega
    refine codeAny_builtin PySem.F.entry_extend_loop ?_
    rw [Around.under_plainId PySem.F.plain_extend_loop _]
    show wpAny _ A.in1 (pyNext (.ref z) >>= _) _ _ _
    refine wpAny_bind (zs_done (s := { s with heap := h, toks := tk }) (A := A.in1) hh D hst ?_ fun h' he => ?_)
    · have : xs.size ≤ i ∨ ys.size ≤ i := by omega
      rcases this with q | q
      · exact .inl (Array.getElem?_eq_none q)
      · exact .inr (Array.getElem?_eq_none q)
    · refine wpAny_pure (hR h' tk acc c as (fun b o h1 h2 h3 h4 h5 e => he b o h2 h3 h4 h5 (hkeep b o h1 h2 h3 h4 h5 e)) (he S _ (Nat.ne_of_gt d1) (Nat.ne_of_gt d3) (Nat.ne_of_gt d4) (Nat.ne_of_gt d5) hS) (by omega) ⟨hG.rise, hG.above, fun j a hj => ?_⟩ hacc)
      obtain ⟨x, y, e1, e2, e3⟩ := hG.pairs j a hj
      obtain ⟨f1, f2, f3, f4⟩ := far (hG.above a (List.mem_of_getElem? hj))
      exact ⟨x, y, e1, e2, he a _ f1 f2 f3 f4 e3⟩
  | succ k ih =>
    intro i h tk c acc as hk hi hst hkeep hS hacc hal hG
    have hlt : i < min xs.size ys.size := by omega
    have hl1 : i < xs.size := by omega
    have hl2 : i < ys.size := by omega
    have hsz : acc.size = i := by rw [← Array.length_toList, hacc, List.length_map, hal]
    refine codeAny_builtin PySem.F.entry_extend_loop ?_
    rw [Around.under_plainId PySem.F.plain_extend_loop _]
    show wpAny _ A.in1 (pyNext (.ref z) >>= _) _ _ _
    have hSl : S < h.objs.size := Heap.lt_size hS
    refine wpAny_bind (zs_item (s := { s with heap := h, toks := tk }) D hst hSl (Array.getElem?_eq_getElem hl1) (Array.getElem?_eq_getElem hl2) fun h' hst' ht hz hkp => ?_)
    dsimp only at ht hz hkp ⊢
    have hS' := hkp S _ (Nat.ne_of_gt d1) (Nat.ne_of_gt d3) (Nat.ne_of_gt d4) (Nat.ne_of_gt d5) hS
    have up : ∀ b o, b ≠ S → h'.get? b = some o → (h'.update S (Obj.mapSeq (·.push (Value.ref h.objs.size)))).get? b = some o := fun b o hb e => (Heap.get?_update_other _ _ (Ne.symm hb)).trans e
    show wpAny _ A.in1 (updateSeq S (·.push (Value.ref h.objs.size)) >>= _) _ _ _
    refine wpAny_bind ?_
    refine wpAny_updateSeq hS' rfl (wpAny_pure ⟨plainId_quiet PySem.F.plain_extend_loop _, ih (i + 1) _ tk _ (acc.push (Value.ref h.objs.size)) (as ++ [h.objs.size]) (by omega) hlt (hst'.keep up (Nat.ne_of_lt d1) (Nat.ne_of_lt d2) (Nat.ne_of_lt d3) (Nat.ne_of_lt d4) (Nat.ne_of_lt d5) d6 d7)
      (fun b o h1 h2 h3 h4 h5 e => up b o h1 (hkp b o h2 h3 h4 h5 (hkeep b o h1 h2 h3 h4 h5 e))) (Heap.get?_update_self _ hS' rfl) (by rw [Array.toList_push, hacc, List.map_append]; rfl) (by rw [List.length_append, hal]; rfl) ⟨?_, ?_, ?_⟩⟩) (by rw [hsz]; omega) (by show (acc.push (Value.ref h.objs.size)).size ≤ sizeLine + 1; rw [Array.size_push, hsz]; omega)
    · refine List.pairwise_append.mpr ⟨hG.rise, List.pairwise_singleton _ _, fun a ha b hb => ?_⟩
      rw [List.mem_singleton.mp hb]
      exact hG.there ha
    · intro a ha
      rcases List.mem_append.mp ha with ha | ha
      · exact hG.above a ha
      · rw [List.mem_singleton.mp ha]; exact hSl
    · intro j b hj
      rcases Nat.lt_trichotomy j as.length with q1 | q1 | q1
      · rw [List.getElem?_append_left q1] at hj
        obtain ⟨x, y, e1, e2, e3⟩ := hG.pairs j b hj
        have hb := hG.above b (List.mem_of_getElem? hj)
        obtain ⟨f1, f2, f3, f4⟩ := far hb
        exact ⟨x, y, e1, e2, up b _ (Nat.ne_of_gt hb) (hkp b _ f1 f2 f3 f4 e3)⟩
      · subst q1
        have hb : h.objs.size = b := by simpa using hj
        subst hb
        exact ⟨_, _, by rw [hal]; exact Array.getElem?_eq_getElem hl1, by rw [hal]; exact Array.getElem?_eq_getElem hl2, up _ _ (Nat.ne_of_gt hSl) ht⟩
      · have hnone : (as ++ [h.objs.size])[j]? = none := List.getElem?_eq_none (by rw [List.length_append, List.length_singleton]; omega)
        rw [hnone] at hj; cases hj
theorem nolen_zip : typeLookup (.type "zip") "__len__" = pure none := by rw [typeLookup_type, builtinLookup_eq_fast]; kernel_rfl
theorem nohint_zip : typeLookup (.type "zip") "__length_hint__" = pure none := by rw [typeLookup_type, builtinLookup_eq_fast]; kernel_rfl
theorem zl_call {E : Value → Shared → Prop} {Q : Value → Shared → Prop} (hh : A.handled = none) (D : ZipApart z TI TO i1 i2 l1 l2) (hz : IsZip s.heap z TI TO .none) (hTI : IsPair s.heap TI (.ref i1) (.ref i2)) (hTO : IsPair s.heap TO .none .none)
    (h1 : s.heap.IsTupleIter i1 l1 0) (h2 : s.heap.IsTupleIter i2 l2 0) (hl1 : s.heap.IsTuple l1 xs) (hl2 : s.heap.IsTuple l2 ys) (hn : min xs.size ys.size ≤ sizeLine)
    (hQ : ∀ h' tk acc c as, (∀ b o, b ≠ z → b ≠ TO → b ≠ i1 → b ≠ i2 → s.heap.get? b = some o → h'.get? b = some o) → h'.get? s.heap.objs.size = some { cls := .type "list", dict := none, data := .seq acc c, slots := #[] } → as.length = min xs.size ys.size → ZG xs ys s.heap.objs.size h' as →
      acc.toList = as.map Value.ref → Q (.ref s.heap.objs.size) { s with heap := h', toks := tk }) :
    wpAny (model prog w) A (call (.type "list") [.ref z]) Q E s := by
  have q1 : z < s.heap.objs.size := Heap.lt_size hz
  have q2 : TI < s.heap.objs.size := Heap.lt_size hTI
  have q3 : TO < s.heap.objs.size := Heap.lt_size hTO
  have q4 : i1 < s.heap.objs.size := let ⟨_, e, _⟩ := h1; Heap.lt_size e
  have q5 : i2 < s.heap.objs.size := let ⟨_, e, _⟩ := h2; Heap.lt_size e
  have q6 : l1 < s.heap.objs.size := let ⟨_, e, _⟩ := hl1; Heap.lt_size e
  have q7 : l2 < s.heap.objs.size := let ⟨_, e, _⟩ := hl2; Heap.lt_size e
  refine callType_codes (Q₁ := fun obj s₁ => obj = .ref s.heap.objs.size ∧ s₁ = { s with heap := s.heap.push { cls := .type "list", data := .seq #[] } }) PySem.F.called_list (PySem.F.typeCall_list_1 _) PySem.F.entry_list_init
    (code_list_new _ ⟨rfl, rfl⟩) fun obj s₁ h₁ => ?_
  obtain ⟨rfl, rfl⟩ := h₁
  have hS : (s.heap.push { cls := .type "list", data := .seq #[] }).get? s.heap.objs.size = some { cls := .type "list", data := .seq #[] } := Heap.get?_push_size _ rfl
  refine ⟨⟨_, hS, rfl⟩, PySem.F.args_list_init_2 _ _, ?_⟩
  show wpAny _ _ (do let old ← Builtin.List.listItems (.ref s.heap.objs.size); Builtin.List.listUpdate (.ref s.heap.objs.size) (fun _ => #[]); letGo old.toList.reverse; Builtin.List.listExtendWith (.ref s.heap.objs.size) (.ref z) .none) _ _ _
  refine wpAny_bind ?_
  unfold Builtin.List.listItems
  refine wpAny_bind (wpAny_seqItems hS rfl (wpAny_pure ?_))
  show wpAny _ _ (updateSeq s.heap.objs.size (fun _ => #[]) >>= fun _ => letGo (#[] : Array Value).toList.reverse >>= fun _ => Builtin.List.listExtendWith (.ref s.heap.objs.size) (.ref z) .none) _ _ _
  refine wpAny_bind (wpAny_updateSeq hS rfl ?_)
  have hS₂ := Heap.get?_update_self (Obj.mapSeq (fun _ => (#[] : Array Value))) hS rfl
  refine wpAny_bind (wpAny_letGo ?_)
  have up0 : ∀ b o, s.heap.get? b = some o → ((s.heap.push { cls := .type "list", data := .seq #[] }).update s.heap.objs.size (Obj.mapSeq (fun _ => (#[] : Array Value)))).get? b = some o := fun b o e =>
    (Heap.get?_update_other _ _ (Ne.symm (Nat.ne_of_lt (Heap.lt_size e)))).trans (Heap.get?_push_of_some _ e)
  have hz₂ := up0 _ _ hz
  have hT : Shared.TypeIs { s with heap := (s.heap.push { cls := .type "list", data := .seq #[] }).update s.heap.objs.size (Obj.mapSeq (fun _ => (#[] : Array Value))) } (.ref z) "zip" := ⟨_, hz₂, rfl⟩
  unfold Builtin.List.listExtendWith
  refine wpAny_bind (wpAny_typeOf (T := "zip") hT ?_)
  have g1 : Builtin.List.listSameRef (.ref s.heap.objs.size) (.ref z) = false := by simp [Builtin.List.listSameRef, Nat.ne_of_gt q1]
  have g2 : (Value.type "zip" == Value.type "list") = false := by decide
  have g3 : (Value.type "zip" == Value.type "tuple") = false := by decide
  simp only [g1, g2, g3, Bool.or_false, Bool.false_eq_true, if_false]
  refine wpAny_bind (wpAny_pyIter_zip hz₂ ?_)
  refine wpAny_bind (wpAny_holding ?_)
  unfold Builtin.List.listLengthHint
  refine wpAny_bind (wpAny_specialOf hT nolen_zip ?_)
  show wpAny _ _ (specialOf (Value.ref z) (Str.ofString "__length_hint__") >>= _) _ _ _
  refine wpAny_bind (wpAny_specialOf hT nohint_zip ?_)
  refine wpAny_pure ?_
  show wpAny _ _ (rule "list.extend.makes-room" >>= fun _ => Builtin.List.listTouch (.ref s.heap.objs.size) >>= fun _ =>
    again (.builtin "list.extend.loop" ⟨[.ref s.heap.objs.size, .ref z, .none], []⟩)) _ _ _
  refine wpAny_bind (wpAny_rule ?_)
  refine wpAny_bind ?_
  show wpAny _ _ (updateSeq s.heap.objs.size (·.push .none) >>= fun _ => updateSeq s.heap.objs.size (·.pop)) _ _ _
  refine wpAny_bind (wpAny_updateSeq hS₂ rfl ?_)
  have hS₃ := Heap.get?_update_self (Obj.mapSeq (·.push Value.none)) hS₂ rfl
  refine wpAny_updateSeq hS₃ rfl ?_
  have hS₄ := Heap.get?_update_self (Obj.mapSeq (·.pop)) hS₃ rfl
  refine wpAny_pure ⟨plainId_quiet PySem.F.plain_extend_loop _, ?_⟩
  generalize hG : Heap.update (Heap.update _ s.heap.objs.size (Obj.mapSeq (·.push Value.none))) s.heap.objs.size (Obj.mapSeq (·.pop)) = h₄ at hS₄ ⊢
  have up : ∀ b o, s.heap.get? b = some o → h₄.get? b = some o := fun b o e => by
    have hb : s.heap.objs.size ≠ b := Ne.symm (Nat.ne_of_lt (Heap.lt_size e))
    rw [← hG]
    exact (Heap.get?_update_other _ _ hb).trans ((Heap.get?_update_other _ _ hb).trans (up0 b o e))
  exact zl_loop (A := A.in1) (s := s) (h₁ := h₄) hh D q1 q2 q3 q4 q5 (Nat.ne_of_lt q6) (Nat.ne_of_lt q7) hn .none (fun h' tk acc c as hk hS' hl hG hacc => ⟨rfl, hQ h' tk acc c as (fun b o e1 e2 e3 e4 e => hk b o (Nat.ne_of_lt (Heap.lt_size e)) e1 e2 e3 e4 (up b o e)) hS' hl hG hacc⟩)
    _ 0 h₄ s.toks _ #[] [] rfl (Nat.zero_le _) ⟨.inl ⟨up _ _ hz, _, _, up _ _ hTO⟩, up _ _ hTI, h1.at fun o e => up _ o e, h2.at fun o e => up _ o e, hl1.at fun o e => up _ o e, hl2.at fun o e => up _ o e⟩ (fun b o _ _ _ _ _ e => e) hS₄ rfl rfl
    ⟨List.Pairwise.nil, (fun _ ha => nomatch ha), (fun j a hj => by simp at hj)⟩
end
/-- the pairs tracked -/
def putTs : Hp → List Addr → List (V × V) → Hp
  | H, a :: as, p :: ps => putTs (upd H a (.tup [p.1, p.2])) as ps
  | H, _, _ => H
theorem putTs_none : ∀ {as : List Addr} {ps : List (V × V)} {H : Hp} {c : Addr}, c ∉ as → putTs H as ps c = H c
  | [], _, H, c, _ => by unfold putTs; rfl
  | a :: as, [], H, c, _ => by unfold putTs; rfl
  | a :: as, p :: ps, H, c, h => by
    unfold putTs
    rw [putTs_none (fun q => h (List.mem_cons_of_mem _ q)), upd_ne (fun q => h (by rw [q]; exact List.mem_cons_self))]
theorem un_put {fs ex : List Addr} {H H1 : Hp} {h h' : Heap} {a : Addr} {o : HO} (u : Un fs ex H H1 h h') (hp : h.objs.size ≤ a) (hn : H a = none) : Un fs ex H (upd H1 a o) h h' where
  keep := u.keep
  slot := u.slot
  free := fun b ob q n hx => by
    rw [upd_ne (Nat.ne_of_lt (Nat.lt_of_lt_of_le (Heap.lt_size q) hp))]
    exact u.free b ob q n hx
  there := u.there
  tups := fun b xs e => by rw [upd_ne (ne_of_none e hn)]; exact u.tups b xs e
  frzs := fun b o' v e => by rw [upd_ne (ne_of_none e hn)]; exact u.frzs b o' v e
  tbls := fun b ps e => by
    obtain ⟨m, q⟩ := u.tbls b ps e
    exact ⟨m, by rw [upd_ne (ne_of_none e hn)]; exact q⟩
theorem put_all {P : Program} {w : World} {fs : List Addr} {H : Hp} {h h' : Heap} (fresh : ∀ c, h.objs.size ≤ c → H c = none) : ∀ {as : List Addr} {ps : List (V × V)} {H1 : Hp}, Un fs [] H H1 h h' → HOk P w H1 h' → as.Pairwise (· < ·) → (∀ c ∈ as, h.objs.size ≤ c ∧ H1 c = none) →
    (∀ (j : Nat) a, as[j]? = some a → ∃ (p : V × V) (u v : Value), ps[j]? = some p ∧ RelV p.1 u ∧ RelV p.2 v ∧ IsPair h' a u v) → Un fs [] H (putTs H1 as ps) h h' ∧ HOk P w (putTs H1 as ps) h'
  | [], ps, H1, u, k, _, _, _ => by unfold putTs; exact ⟨u, k⟩
  | a :: as, [], H1, u, k, _, _, f => by
    obtain ⟨p, _, _, e, _⟩ := f 0 a rfl
    cases e
  | a :: as, p :: ps, H1, u, k, r, n, f => by
    unfold putTs
    obtain ⟨hp, hn⟩ := n a List.mem_cons_self
    obtain ⟨p', x, y, e, r1, r2, hT⟩ := f 0 a rfl
    cases e
    have hok : HOk P w (upd H1 a (.tup [p.1, p.2])) h' := L2.HOk.laidN k (fun _ _ q => q) hn ⟨by show 2 ≤ sizeLine; decide, [x, y], .cons r1 (.cons r2 .nil), ⟨_, hT, rfl, _, rfl⟩⟩
    rw [List.pairwise_cons] at r
    refine put_all fresh (un_put u hp (fresh a hp)) hok r.2 (fun c hc => ⟨(n c (List.mem_cons_of_mem _ hc)).1, ?_⟩) fun j b e => ?_
    · rw [upd_ne (Nat.ne_of_gt (r.1 c hc))]; exact (n c (List.mem_cons_of_mem _ hc)).2
    · exact f (j + 1) b (by simpa using e)
theorem zip_rel : ∀ {xs ys : List V} {us vs : List Value}, Vals xs us → Vals ys vs → ∀ (j : Nat) (u v : Value), us[j]? = some u → vs[j]? = some v → ∃ p : V × V, (xs.zip ys)[j]? = some p ∧ RelV p.1 u ∧ RelV p.2 v
  | _, _, _, _, .nil, _, j, u, v, e, _ => by simp at e
  | _, _, _, _, .cons _ _, .nil, j, u, v, _, e => by simp at e
  | _, _, _, _, .cons a _, .cons b _, 0, u, v, e1, e2 => by
    cases e1; cases e2
    exact ⟨_, rfl, a, b⟩
  | _, _, _, _, .cons _ s, .cons _ t, j + 1, u, v, e1, e2 => by
    obtain ⟨p, e, r⟩ := zip_rel s t j u v (by simpa using e1) (by simpa using e2)
    exact ⟨p, by simpa using e, r⟩
section
variable {X : Cx} {a b : Expr} {ta tb : TE}
def tZipL (K : PySem.W.Frag) (ta tb : TE) : TE := fun σ H Q => ta σ H fun x H1 => tb σ H1 fun y H2 => ∃ (a b : Addr) (xs ys : List V), x = .ref a ∧ y = .ref b ∧ SqT K H2 a xs ∧ SqT K H2 b ys ∧ ∀ (p : Addr) (as : List Addr),
  H2 p = none → as.length = (xs.zip ys).length → (∀ c ∈ as, H2 c = none ∧ c ≠ p) → as.Nodup → Q (.ref p) (upd (putTs H2 as (xs.zip ys)) p (.lst (as.map V.ref)))
theorem pe_zipL {p p2 pos pos2 : Pos} (hc : X.calm = true) (hg : Gl X "list") (hm : X.mg "list" = none) (hg2 : Gl X "zip") (hm2 : X.mg "zip" = none) (ha : PE X a ta) (hb : PE X b tb)
    (na : starEach [a, b] X.env = (false, eval a X.env) :: starEach [b] X.env) (nb : starEach [b] X.env = (false, eval b X.env) :: starEach [] X.env) (hp : (backTo pos2 (starEach [b] X.env)).any (·.1) = false) :
    PE X (.Call (.Name "list" p) [.Call (.Name "zip" p2) [a, b] [] pos2] [] pos) (tZipL X.K ta tb) := by
  refine ⟨fun pins s σ H Q I h => ?_⟩
  have inner : wpAny (model X.prog X.w) X.A (eval (.Call (.Name "zip" p2) [a, b] [] pos2) X.env) (fun v s' => ∃ (s1 : Shared) (H2 : Hp) (l1 l2 : Addr) (xs ys : List V) (us vs : List Value) (h' : Heap), s' = { s1 with heap := h' } ∧ Inv X pins σ H2 s1 ∧ v = .ref (s1.heap.objs.size + 4) ∧ Vals xs us ∧ Vals ys vs ∧ us.length ≤ sizeLine ∧
      s1.heap.IsTuple l1 us.toArray ∧ s1.heap.IsTuple l2 vs.toArray ∧ IsZip h' (s1.heap.objs.size + 4) (s1.heap.objs.size + 2) (s1.heap.objs.size + 3) .none ∧ IsPair h' (s1.heap.objs.size + 2) (.ref s1.heap.objs.size) (.ref (s1.heap.objs.size + 1)) ∧
      IsPair h' (s1.heap.objs.size + 3) .none .none ∧ h'.IsTupleIter s1.heap.objs.size l1 0 ∧ h'.IsTupleIter (s1.heap.objs.size + 1) l2 0 ∧ h'.objs.size = s1.heap.objs.size + 5 ∧ (∀ c o, s1.heap.get? c = some o → h'.get? c = some o) ∧
      ∀ (p : Addr) (as : List Addr), H2 p = none → as.length = (xs.zip ys).length → (∀ c ∈ as, H2 c = none ∧ c ≠ p) → as.Nodup → Q (.ref p) (upd (putTs H2 as (xs.zip ys)) p (.lst (as.map V.ref)))) X.xe s := by
    refine Call_ (ld_blt I hg2 hm2 PyProof.Rows.boot_zip (PyProof.Rows.callWith_type1 (args_cons (thn (ha.run pins s σ H _ I h) fun v s1 ⟨x, H1, I1, r1, q1⟩ => one_arg hb I1 q1 (fun u s2 y H2 I2 r2 q => ?_) nb) na) na hp))
    obtain ⟨l1, l2, xs, ys, ex, ey, hx, hy, q⟩ := q
    subst ex ey
    cases (show v = Value.ref l1 from r1)
    cases (show u = Value.ref l2 from r2)
    obtain ⟨us, rv, p1, z1⟩ := I2.tuple hx
    obtain ⟨vs, rw', p2, z2⟩ := I2.tuple hy
    exact call_zipT (show s2.heap.IsTuple l1 us.toArray from p1) (show s2.heap.IsTuple l2 vs.toArray from p2) fun h' hz hTI hTO h1 h2 hsz hk => ⟨s2, H2, l1, l2, xs, ys, us, vs, h', rfl, I2, rfl, rv, rw', by rw [← rv.length]; exact z1, p1, p2, hz, hTI, hTO, h1, h2, hsz, hk, q⟩
  refine Call_ (ld_blt I hg hm boot_list (PyProof.Rows.callWith_type1 (args_cons (thn inner fun v s' ⟨s1, H2, l1, l2, xs, ys, us, vs, h', e, I2, ev, rv, rw', hz0, p1, p2, hz, hTI, hTO, h1, h2, hsz, hk, q⟩ => args_nil ?_) rfl) rfl))
  subst e ev
  have w1 : l1 < s1.heap.objs.size := let ⟨_, e, _⟩ := p1; Heap.lt_size e
  have w2 : l2 < s1.heap.objs.size := let ⟨_, e, _⟩ := p2; Heap.lt_size e
  have hmin : min us.toArray.size vs.toArray.size = (xs.zip ys).length := by rw [List.length_zip, List.size_toArray, List.size_toArray, rv.length, rw'.length]
  refine zl_call (s := { s1 with heap := h' }) (I2.ok.hd hc) (PySem.W.ktu_apart s1.heap.objs.size l1 l2 w1 w2) hz hTI hTO h1 h2 (p1.at fun o e => hk _ o e) (p2.at fun o e => hk _ o e) (by rw [List.size_toArray]; omega) fun h3 tk acc c as hk3 hS hl hG hacc => ?_
  dsimp only at hk3 hS hG hacc ⊢
  have ge : s1.heap.objs.size ≤ h'.objs.size := by rw [hsz]; exact Nat.le_add_right _ _
  have far : ∀ b o, s1.heap.get? b = some o → h3.get? b = some o := fun b o e => by
    have hb := Heap.lt_size e
    exact hk3 b o (Nat.ne_of_lt (Nat.lt_of_lt_of_le hb (Nat.le_add_right _ _))) (Nat.ne_of_lt (Nat.lt_of_lt_of_le hb (Nat.le_add_right _ _))) (Nat.ne_of_lt hb) (Nat.ne_of_lt (Nat.lt_of_lt_of_le hb (Nat.le_add_right _ _))) (hk b o e)
  have fresh : ∀ c, s1.heap.objs.size ≤ c → H2 c = none := fun c hc' => I2.hok.fresh hc'
  have above : ∀ c ∈ as, s1.heap.objs.size ≤ c ∧ H2 c = none := fun c hc' => by
    have := Nat.le_trans ge (Nat.le_of_lt (hG.above c hc'))
    exact ⟨this, fresh c this⟩
  have I3 : Inv X pins σ H2 { s1 with heap := h3, toks := tk } := I2.kept far
  obtain ⟨u4, k4⟩ := put_all (P := X.prog) (w := X.w) (ps := xs.zip ys) fresh (Un.kept (fs := X.fs) (ex := []) far) I3.hok hG.rise above fun j a' e => by
    obtain ⟨x, y, e1, e2, e3⟩ := hG.pairs j a' e
    obtain ⟨p', e4, e5, e6⟩ := zip_rel rv rw' j x y (by simpa using e1) (by simpa using e2)
    exact ⟨p', x, y, e4, e5, e6, e3⟩
  have notin : h'.objs.size ∉ as := fun hm' => Nat.lt_irrefl _ (hG.above _ hm')
  have none5 : putTs H2 as (xs.zip ys) h'.objs.size = none := by rw [putTs_none notin]; exact fresh _ ge
  have vr : ∀ l : List Addr, Vals (l.map V.ref) (l.map Value.ref) := fun l => by
    induction l with
    | nil => exact .nil
    | cons x xs ih => exact .cons rfl ih
  have k5 : HOk X.prog X.w (upd (putTs H2 as (xs.zip ys)) h'.objs.size (.lst (as.map V.ref))) h3 := L2.HOk.laidN k4 (fun _ _ q => q) none5 (show ObjOk X.prog X.w _ _ _ (.lst (as.map V.ref)) from ⟨by rw [List.length_map, hl, List.size_toArray]; omega, acc.toList, c, by rw [hacc]; exact vr as, by rw [Array.toArray_toList]; exact hS⟩)
  refine ⟨.ref h'.objs.size, _, I2.un (t' := tk) (un_put u4 ge (fresh _ ge)) k5, rfl, q _ as (fresh _ ge) (by rw [hl, hmin]) (fun c' hc' => ⟨(above c' hc').2, Nat.ne_of_gt (hG.above c' hc')⟩) (hG.rise.imp fun h => Nat.ne_of_lt h)⟩
end
end Ev

/-! Ev, part R: list.count of texts, tuple.index of ints, a text many times, over the tracked heap. -/
namespace Ev
open PySem PySem.Spec PyProof.Rows L2

theorem cnt_strs {k : Str} : ∀ {ns : List Str} {us : List Value}, Vals (ns.map V.str) us → us.countP (eqU (.str k)) = ns.count k
  | [], _, r => by cases r; rfl
  | n :: ns, _, r => by
    rw [List.map_cons] at r
    cases r with
    | cons h t =>
      obtain ⟨t', rfl⟩ := (show ∃ t, _ = Value.str n t from h)
      rw [List.countP_cons, cnt_strs t, List.count_cons]
      congr 1
section
variable {X : Cx}
def rCntS (K : PySem.W.Frag) : V → List V → Hp → VK → Prop := fun x xs H Q => ∃ (p : Addr) (ns : List Str) (k : Str), x = .ref p ∧ xs = [.str k] ∧ SqL K H p (ns.map V.str) ∧ Q (.int (ns.count k : Nat)) H
theorem mt_lcountS : MtR X "list.count" (rCntS X.K) := by
  intro pins s σ H x xs v us Q I rx rxs h
  obtain ⟨p, ns, k, rfl, rfl, hs, q⟩ := h
  cases rx
  obtain ⟨u, rfl, ru⟩ := rxs.one
  obtain ⟨t, rfl⟩ := ru
  obtain ⟨its, rv, ⟨⟨cls, dd, data, sl⟩, n, ho, hc, hdn, hd⟩, hlen⟩ := I.list hs
  simp only at hc hd
  subst hc hd
  refine call_meets PySem.F.slot_list_count ⟨_, ho, rfl⟩ PySem.F.entry_list_count (PySem.F.args_list_count_2 _ _)
    (SeqAt.list_countAt p its.toArray n dd sl (.str k t) (eqU (.str k))) ⟨ho, fun y hy => mem_eqAt (x := .str k) ⟨t, rfl⟩ rfl rv (flat_strs ns) y (by simpa using hy), ?_⟩
  have ec : its.toArray.toList.countP (eqU (.str k)) = ns.count k := cnt_strs rv
  refine ⟨.int (ns.count k : Nat), H, I.tok _, ⟨s.toks, ?_⟩, q⟩
  show Value.int ((its.toArray.toList.countP (eqU (.str k)) : Nat) : Int) s.toks = Value.int ((ns.count k : Nat) : Int) s.toks
  rw [ec]
/-- a text many times -/
theorem op_muls : OpR X (binaryOp .Mult) (fun x y H Q => ∃ (z : Str) (n : Int), x = .str z ∧ y = .int n ∧ MulOk z n ∧ Q (.str (Txt.mul z n)) H) := by
  intro pins s σ H x y v u Q I rx ry h
  obtain ⟨z, n, rfl, rfl, hm, q⟩ := h
  obtain ⟨t, rfl⟩ := (show ∃ t, v = Value.str z t from rx)
  obtain ⟨t2, rfl⟩ := (show ∃ t, u = Value.int n t from ry)
  exact SB.mul hm fun t' k => ⟨.str (Txt.mul z n), H, I.tok k, ⟨t', rfl⟩, q⟩
theorem flat_ints (ys : List Int) : (ys.map V.int).all flatV = true := by
  rw [List.all_map]
  exact List.all_eq_true.mpr fun _ _ => rfl
def rTixI (K : PySem.W.Frag) : V → List V → Hp → VK → Prop := fun x xs H Q => ∃ (p : Addr) (ys : List Int) (z : Int) (j : Nat), x = .ref p ∧ xs = [.int z] ∧ SqT K H p (ys.map V.int) ∧ ys[j]? = some z ∧ (∀ m, m < j → ys[m]? ≠ some z) ∧ Q (.int (j : Nat)) H
theorem mt_tup_indexI : MtR X "tuple.index" (rTixI X.K) := by
  intro pins s σ H x xs v us Q I rx rs h
  obtain ⟨p, ys, z, j, rfl, rfl, hq, hy, hno, q⟩ := h
  cases rx
  obtain ⟨u, rfl, t, rfl⟩ := vals1 rs
  obtain ⟨its, r, pl, hz⟩ := I.tuple hq
  obtain ⟨⟨cls, dd, dt, sl⟩, ho, hc, n, hd⟩ := pl
  simp only at hc hd
  subst hc
  subst hd
  have hl : its.toArray.size = ys.length := by rw [List.size_toArray, ← r.length, List.length_map]
  have hj : j < its.toArray.size := by rw [hl]; exact (List.getElem?_eq_some_iff.mp hy).1
  have at' : ∀ (m : Nat) (hm : m < its.toArray.size), ∃ y t', ys[m]? = some y ∧ its.toArray[m] = Value.int y t' := fun m hm => by
    have hm' : m < ys.length := by rw [← hl]; exact hm
    obtain ⟨w, hw, t', hw'⟩ := r.get (i := m) (x := .int ys[m]) (by simp [hm'])
    refine ⟨ys[m], t', List.getElem?_eq_getElem hm', ?_⟩
    have e := (List.getElem?_eq_some_iff.mp hw).2
    rw [← hw', ← e]
    simp
  refine call_meets PySem.F.slot_tuple_index ⟨_, ho, rfl⟩ PySem.F.entry_tuple_index (PySem.F.args_tuple_index_2 _ _) (TI.tuple_indexAt p its.toArray n dd sl (.int z t) (eqU (.int z)) j hj ?_ ?_)
    ⟨ho, fun w hw => mem_eqAt (x := .int z) ⟨t, rfl⟩ rfl r (flat_ints ys) w (by simpa using hw), ⟨.int (j : Nat), H, I.tok _, ⟨_, rfl⟩, q⟩⟩
  · obtain ⟨y, t', h1, h2⟩ := at' j hj
    rw [hy] at h1
    cases h1
    rw [h2]
    show eqV (.int z) (.int z) = true
    simp [eqV]
  · intro m hm hmj
    obtain ⟨y, t', h1, h2⟩ := at' m hm
    rw [h2]
    show eqV (.int y) (.int z) = false
    have hne : y ≠ z := fun e => hno m hmj (by rw [h1, e])
    simp [eqV, hne]
/-! tuples whose object is known -/
def isT (o : Obj) : Prop := o.cls = .type "tuple" ∧ o.dict = none
def rCatF (K : PySem.W.Frag) : R2 := fun x y H Q => ∃ a b xs ys, x = .ref a ∧ y = .ref b ∧ SqT K H a xs ∧ SqT K H b ys ∧ xs ≠ [] ∧ xs.length + ys.length ≤ sizeLine ∧
  (ys = [] → Q (.ref a) H) ∧ (ys ≠ [] → ∀ p o, H p = none → isT o → Q (.ref p) (upd H p (.frz o (.tup (xs ++ ys)))))
theorem op_catF : OpR X (binaryOp .Add) (rCatF X.K) := by
  intro pins s σ H x y v u Q I rx ry h
  obtain ⟨a, b, xs, ys, rfl, rfl, ha, hb, hx, hz, q1, q2⟩ := h
  cases rx
  cases ry
  obtain ⟨its, r1, p1, _⟩ := I.tuple ha
  obtain ⟨its2, r2, p2, _⟩ := I.tuple hb
  refine HT.cat_tup p1 p2 (fun z => hx (r1.nil_iff.mp z)) (fun z => ⟨.ref a, H, I, rfl, q1 (r2.nil_iff.mp z)⟩) (fun z => ?_) (by rw [← r1.length, ← r2.length]; exact hz)
  refine ⟨.ref s.heap.objs.size, _, I.laid (t' := s.toks) (o := .frz { cls := .type "tuple", data := .seq (its ++ its2).toArray } (.tup (xs ++ ys))) (fun b ob q => Heap.get?_push_of_some _ q) (Nat.le_refl _) ?_, rfl, q2 (fun w => z (r2.nil_iff.mpr w)) _ _ (I.hok.fresh (Nat.le_refl _)) ⟨rfl, rfl⟩⟩
  exact ⟨Heap.get?_push_size _ rfl, by rw [List.length_append]; exact hz, _, r1.append r2, IsTup.new _ _⟩
variable {e : Expr} {es : List Expr} {te : TE} {t : TA} {pos : Pos}
def tTupF (t : TA) : TE := fun σ H Q => t σ H fun xs H1 => xs.length ≤ sizeLine ∧ ∀ p o, H1 p = none → isT o → Q (.ref p) (upd H1 p (.frz o (.tup xs)))
theorem pe_tupF {x1} (h : PA X es t) : PE X (.Tuple es x1 pos) (tTupF t) := by
  refine ⟨fun pins s σ H Q I hq => ?_⟩
  refine wpAny_Tuple_spliced (thn (h.run pos pins s σ H _ I hq) fun us s1 ⟨xs, H1, I1, r, z, q⟩ => ⟨by rw [← r.length]; exact z, ?_⟩)
  have hf : H1 s1.heap.objs.size = none := I1.hok.fresh (Nat.le_refl _)
  refine ⟨.ref s1.heap.objs.size, _, I1.laid (t' := s1.toks) (o := .frz { cls := .type "tuple", data := .seq us.toArray } (.tup xs)) (fun b u e => Heap.get?_push_of_some _ e) (Nat.le_refl _) ?_, rfl, q _ _ hf ⟨rfl, rfl⟩⟩
  exact ⟨Heap.get?_push_size _ rfl, z, us, r, ⟨_, Heap.get?_push_size _ rfl, rfl, _, rfl⟩⟩
def kTupF (K : PySem.W.Frag) (x : V) (H : Hp) (Q : VK) : Prop := ∃ p xs, x = .ref p ∧ SqL K H p xs ∧ ∀ q o, H q = none → isT o → Q (.ref q) (upd H q (.frz o (.tup xs)))
theorem rl_tupleF (pins : List (Addr × Obj)) (s : Shared) (σ : L2.St) (H : Hp) (x : V) (v : Value) (Q : VK) (I : Inv X pins σ H s) (r : RelV x v) (h : kTupF X.K x H Q) :
    wpAny (model X.prog X.w) X.A (call (.type "tuple") [v]) (EP X pins σ Q) X.xe s := by
  obtain ⟨p, xs, rfl, hs, q⟩ := h
  obtain rfl : v = .ref p := r
  obtain ⟨its, rv, pl, hz⟩ := I.list hs
  refine call_tuple_list pl.isList (fun h' hk => ?_) (by rw [List.size_toArray, ← rv.length]; exact hz)
  have I1 : Inv X pins σ H { s with heap := h' } := I.kept (t' := s.toks) hk
  have I2 : Inv X pins σ (upd H h'.objs.size (.frz { cls := .type "tuple", data := .seq its.toArray } (.tup xs))) { s with heap := h'.push { cls := .type "tuple", data := .seq its.toArray } } :=
    I1.laid (t' := s.toks) (fun b o e => Heap.get?_push_of_some _ e) (Nat.le_refl _) (show ObjOk X.prog X.w _ _ _ (.frz _ (.tup xs)) from ⟨Heap.get?_push_size _ rfl, hz, its, rv, IsTup.new _ _⟩)
  exact ⟨.ref h'.objs.size, _, I2, rfl, q _ _ (I1.hok.fresh (Nat.le_refl _)) ⟨rfl, rfl⟩⟩
theorem pe_tupleF {a : Expr} {ta : TE} {p pos : Pos} (hg : Gl X "tuple") (hm : X.mg "tuple" = none) (ha : PE X a ta) (na : starEach [a] X.env = (false, eval a X.env) :: starEach [] X.env := by rfl) :
    PE X (.Call (.Name "tuple" p) [a] [] pos) (tThen ta (kTupF X.K)) := by
  refine ⟨fun pins s σ H Q I h => ?_⟩
  exact Call_ (ld_blt I hg hm boot_tuple (PyProof.Rows.callWith_type1 (one_arg ha I h (fun v s2 x H2 I2 r q => rl_tupleF pins s2 σ H2 x v Q I2 r q) na) na))
end
end Ev

/-! Ev, part A: pure data, the store of what may change, how data lies in the tracked heap. -/
namespace Ev
open PySem PySem.Spec PyProof.Rows L2

/-- data: scr a read-only sequence (the script, a list of the module), kt a tuple of the module, ft a tuple whose object is known, mr a reference to what may change -/
inductive D where
  | non | bl (b : Bool) | int (i : Int) | str (x : Str)
  | tup (ds : List D) | lst (ds : List D) | scr (ds : List D) | kt (ds : List D) | ft (ds : List D) | mr (a : Addr)
  deriving Inhabited

inductive MObj where
  | lst (ds : List D) | dK (kvs : List (Key × D)) | dT (kvs : List (List Key × D)) | ins (c : Str) (fs : List (Str × D)) | dN (kvs : List (NK × D)) | dF (o : Obj) (kvs : List (NK × D))

abbrev Mem := Addr → Option MObj
def mput (M : Mem) (a : Addr) (o : MObj) : Mem := fun b => if b = a then some o else M b
theorem mput_same {M : Mem} {a : Addr} {o : MObj} : mput M a o a = some o := if_pos rfl
theorem mput_ne {M : Mem} {a b : Addr} {o : MObj} (h : b ≠ a) : mput M a o b = M b := if_neg h
theorem mput_none {M : Mem} {a b : Addr} {o : MObj} : mput M a o b = none ↔ b ≠ a ∧ M b = none := by
  unfold mput; split
  · rename_i h; subst h; simp
  · rename_i h; simp [h]
/-- what stood in M, as it is in M' -/
def restr (M M' : Mem) : Mem := fun a => if (M a).isSome then M' a else none
theorem restr_self (M : Mem) : restr M M = M := by
  funext a; unfold restr; cases h : M a <;> simp [h]
theorem restr_new {M M' : Mem} {a : Addr} {o : MObj} (h : M a = none) : restr M (mput M' a o) = restr M M' := by
  funext b; unfold restr
  by_cases e : b = a
  · subst e; simp [h]
  · rw [mput_ne e]
theorem restr_old {M M' : Mem} {a : Addr} {o u : MObj} (h : M a = some u) : restr M (mput M' a o) = mput (restr M M') a o := by
  funext b; unfold restr
  by_cases e : b = a
  · subst e; simp [h, mput_same]
  · rw [mput_ne e, mput_ne e]
theorem mput_mput {M : Mem} {a : Addr} {o u : MObj} : mput (mput M a o) a u = mput M a u := by
  funext b; unfold mput; split <;> rfl
theorem mput_comm {M : Mem} {a b : Addr} {o u : MObj} (h : a ≠ b) : mput (mput M a o) b u = mput (mput M b u) a o := by
  funext c; unfold mput
  by_cases e : c = a
  · subst e; simp [h]
  · simp [e]

/-- static: the written part, the classes' addresses by name -/
structure Gx where
  K : PySem.W.Frag
  cls : Str → Option Addr
  P : Program
  w : World

/-- a list that the module or the outside owns -/
def KLst (K : PySem.W.Frag) (a : Addr) (xs : List V) : Prop :=
  ∃ (o : Obj) (its : Array Value) (n : Nat), K.lookup a = some o ∧ o.cls = .type "list" ∧ o.dict = none ∧ o.data = .seq its n ∧ its.size ≤ sizeLine ∧ Vals xs its.toList
def KTup (K : PySem.W.Frag) (a : Addr) (xs : List V) : Prop :=
  ∃ (o : Obj) (its : Array Value) (n : Nat), K.lookup a = some o ∧ o.cls = .type "tuple" ∧ o.data = .seq its n ∧ its.size ≤ sizeLine ∧ Vals xs its.toList

mutual
/-- the data of a key -/
def dOfK : NK → D
  | .none => .non
  | .num i => .int i
  | .text x => .str x
  | .tup ks => .tup (dOfKs ks)
def dOfKs : List NK → List D
  | [] => []
  | k :: ks => dOfK k :: dOfKs ks
end
section
variable (G : Gx) (M : Mem) (H : Hp)
mutual
/-- the value v bears the data d -/
def Rep : D → V → Prop
  | .non, v => v = .non
  | .bl b, v => v = .bl b
  | .int i, v => v = .int i
  | .str x, v => v = .str x
  | .tup ds, v => ∃ a vs, v = .ref a ∧ M a = none ∧ H a = some (.tup vs) ∧ RepL ds vs
  | .lst ds, v => ∃ a vs, v = .ref a ∧ M a = none ∧ H a = some (.lst vs) ∧ RepL ds vs
  | .scr ds, v => ∃ a vs, v = .ref a ∧ ((M a = none ∧ ∃ o, H a = some (.frz o (.lst vs))) ∨ KLst G.K a vs) ∧ RepL ds vs
  | .kt ds, v => ∃ a vs, v = .ref a ∧ KTup G.K a vs ∧ RepL ds vs
  | .ft ds, v => ∃ a vs, v = .ref a ∧ M a = none ∧ (∃ o, H a = some (.frz o (.tup vs)) ∧ o.cls = .type "tuple" ∧ o.dict = none) ∧ RepL ds vs
  | .mr a, v => v = .ref a
def RepL : List D → List V → Prop
  | [], vs => vs = []
  | d :: ds, vs => ∃ v r, vs = v :: r ∧ Rep d v ∧ RepL ds r
end
def RepK {κ : Type} : List (κ × D) → List (κ × V) → Prop
  | [], vs => vs = []
  | (k, d) :: ds, vs => ∃ v r, vs = (k, v) :: r ∧ Rep G M H d v ∧ RepK ds r
def RepN : List (NK × D) → List NE → Prop
  | [], us => us = []
  | (k, d) :: ds, us => ∃ b v r, us = (k, b, v) :: r ∧ Rep G M H (dOfK k) (.ref b) ∧ k.depth ≤ 8 ∧ Rep G M H d v ∧ RepN ds r
def RepO (p : Addr) : MObj → HO → Prop
  | .lst ds, o => ∃ vs, o = .lst vs ∧ RepL G M H ds vs
  | .dK kvs, o => ∃ vs, o = .dK vs ∧ RepK G M H kvs vs
  | .dT kvs, o => ∃ vs, o = .dT vs ∧ RepK G M H kvs vs
  | .ins c fs, o => ∃ C dx vs, o = .ins C dx vs ∧ G.cls c = some C ∧ RepK G M H fs vs
  | .dN kvs, o => ∃ us, o = dNO G.P G.w p us ∧ RepN G M H kvs us
  | .dF ob kvs, o => ∃ us, o = .frz ob (dNO G.P G.w p us) ∧ RepN G M H kvs us
/-- the store lies in the heap -/
def OkM : Prop := ∀ a o, M a = some o → ∃ u, H a = some u ∧ RepO G M H a o u
end

/-- what is tracked and does not stand in the store stays, and stays out of it -/
def Ext (M : Mem) (H : Hp) (M' : Mem) (H' : Hp) : Prop := ∀ a, M a = none → ∀ u, H a = some u → H' a = some u ∧ M' a = none
theorem Ext.refl {M : Mem} {H : Hp} : Ext M H M H := fun _ m _ h => ⟨h, m⟩
theorem Ext.trans {M M1 M2 : Mem} {H H1 H2 : Hp} (a : Ext M H M1 H1) (b : Ext M1 H1 M2 H2) : Ext M H M2 H2 := fun c m u h =>
  let ⟨h1, m1⟩ := a c m u h
  b c m1 u h1

section
variable {G : Gx} {M M' : Mem} {H H' : Hp}
mutual
theorem Rep.ext (x : Ext M H M' H') : ∀ (d : D) (v : V), Rep G M H d v → Rep G M' H' d v
  | .non, _, h => by unfold Rep at h ⊢; exact h
  | .bl _, _, h => by unfold Rep at h ⊢; exact h
  | .int _, _, h => by unfold Rep at h ⊢; exact h
  | .str _, _, h => by unfold Rep at h ⊢; exact h
  | .mr _, _, h => by unfold Rep at h ⊢; exact h
  | .tup ds, v, h => by
    unfold Rep at h ⊢
    obtain ⟨a, vs, e, m, q, r⟩ := h
    obtain ⟨q', m'⟩ := x a m _ q
    exact ⟨a, vs, e, m', q', RepL.ext x ds vs r⟩
  | .lst ds, v, h => by
    unfold Rep at h ⊢
    obtain ⟨a, vs, e, m, q, r⟩ := h
    obtain ⟨q', m'⟩ := x a m _ q
    exact ⟨a, vs, e, m', q', RepL.ext x ds vs r⟩
  | .scr ds, v, h => by
    unfold Rep at h ⊢
    obtain ⟨a, vs, e, q, r⟩ := h
    refine ⟨a, vs, e, ?_, RepL.ext x ds vs r⟩
    rcases q with ⟨m, o, q⟩ | q
    · obtain ⟨q', m'⟩ := x a m _ q
      exact .inl ⟨m', o, q'⟩
    · exact .inr q
  | .kt ds, v, h => by
    unfold Rep at h ⊢
    obtain ⟨a, vs, e, q, r⟩ := h
    exact ⟨a, vs, e, q, RepL.ext x ds vs r⟩
  | .ft ds, v, h => by
    unfold Rep at h ⊢
    obtain ⟨a, vs, e, m, ⟨o, q, c⟩, r⟩ := h
    obtain ⟨q', m'⟩ := x a m _ q
    exact ⟨a, vs, e, m', ⟨o, q', c⟩, RepL.ext x ds vs r⟩
theorem RepL.ext (x : Ext M H M' H') : ∀ (ds : List D) (vs : List V), RepL G M H ds vs → RepL G M' H' ds vs
  | [], _, h => by unfold RepL at h ⊢; exact h
  | d :: ds, vs, h => by
    unfold RepL at h ⊢
    obtain ⟨v, r, e, a, b⟩ := h
    exact ⟨v, r, e, Rep.ext x d v a, RepL.ext x ds r b⟩
end
theorem RepK.ext {κ : Type} (x : Ext M H M' H') : ∀ (ds : List (κ × D)) (vs : List (κ × V)), RepK G M H ds vs → RepK G M' H' ds vs
  | [], _, h => h
  | (k, d) :: ds, vs, h => by
    obtain ⟨v, r, e, a, b⟩ := h
    exact ⟨v, r, e, Rep.ext x d v a, RepK.ext x ds r b⟩
theorem RepN.ext (x : Ext M H M' H') : ∀ (ds : List (NK × D)) (us : List NE), RepN G M H ds us → RepN G M' H' ds us
  | [], _, h => h
  | (k, d) :: ds, us, h => by
    obtain ⟨b, v, r, e, a1, a2, a3, a4⟩ := h
    exact ⟨b, v, r, e, Rep.ext x _ _ a1, a2, Rep.ext x d v a3, RepN.ext x ds r a4⟩
theorem RepO.ext {p : Addr} (x : Ext M H M' H') : ∀ (o : MObj) (u : HO), RepO G M H p o u → RepO G M' H' p o u
  | .lst ds, u, ⟨vs, e, r⟩ => ⟨vs, e, RepL.ext x _ _ r⟩
  | .dK ds, u, ⟨vs, e, r⟩ => ⟨vs, e, RepK.ext x _ _ r⟩
  | .dT ds, u, ⟨vs, e, r⟩ => ⟨vs, e, RepK.ext x _ _ r⟩
  | .ins c fs, u, ⟨C, dx, vs, e, q, r⟩ => ⟨C, dx, vs, e, q, RepK.ext x _ _ r⟩
  | .dN kvs, u, ⟨us, e, r⟩ => ⟨us, e, RepN.ext x _ _ r⟩
  | .dF ob kvs, u, ⟨us, e, r⟩ => ⟨us, e, RepN.ext x _ _ r⟩

theorem RepL.length : ∀ {ds : List D} {vs : List V}, RepL G M H ds vs → ds.length = vs.length
  | [], _, h => by unfold RepL at h; subst h; rfl
  | d :: ds, vs, h => by
    unfold RepL at h
    obtain ⟨v, r, e, a, b⟩ := h
    subst e
    simp [RepL.length b]
theorem RepL.nil : RepL G M H [] [] := by unfold RepL; rfl
theorem RepL.cons {d : D} {ds : List D} {v : V} {vs : List V} (a : Rep G M H d v) (b : RepL G M H ds vs) : RepL G M H (d :: ds) (v :: vs) := by
  unfold RepL; exact ⟨v, vs, rfl, a, b⟩
theorem RepL.get : ∀ {ds : List D} {vs : List V} {i : Nat} {d : D}, RepL G M H ds vs → ds[i]? = some d → ∃ v, vs[i]? = some v ∧ Rep G M H d v
  | [], _, _, _, _, e => by simp at e
  | d :: ds, vs, 0, d', h, e => by
    unfold RepL at h
    obtain ⟨v, r, rfl, a, b⟩ := h
    simp at e; subst e
    exact ⟨v, rfl, a⟩
  | d :: ds, vs, i + 1, d', h, e => by
    unfold RepL at h
    obtain ⟨v, r, rfl, a, b⟩ := h
    obtain ⟨v', h1, h2⟩ := RepL.get (i := i) b (by simpa using e)
    exact ⟨v', by simpa using h1, h2⟩
theorem RepL.getV : ∀ {ds : List D} {vs : List V} {i : Nat} {v : V}, RepL G M H ds vs → vs[i]? = some v → ∃ d, ds[i]? = some d ∧ Rep G M H d v := fun {ds vs i v} h e => by
  have hl := h.length
  have hi : i < ds.length := by rw [hl]; exact (List.getElem?_eq_some_iff.mp e).1
  obtain ⟨v', h1, h2⟩ := h.get (List.getElem?_eq_getElem hi)
  rw [e] at h1; cases h1
  exact ⟨_, List.getElem?_eq_getElem hi, h2⟩
theorem RepL.append : ∀ {ds es : List D} {vs us : List V}, RepL G M H ds vs → RepL G M H es us → RepL G M H (ds ++ es) (vs ++ us)
  | [], es, vs, us, h, k => by unfold RepL at h; subst h; exact k
  | d :: ds, es, vs, us, h, k => by
    unfold RepL at h
    obtain ⟨v, r, rfl, a, b⟩ := h
    exact RepL.cons a (RepL.append b k)
theorem RepL.take : ∀ {ds : List D} {vs : List V} (n : Nat), RepL G M H ds vs → RepL G M H (ds.take n) (vs.take n)
  | [], _, n, h => by unfold RepL at h; subst h; simp; exact RepL.nil
  | d :: ds, vs, 0, h => by simp; exact RepL.nil
  | d :: ds, vs, n + 1, h => by
    unfold RepL at h
    obtain ⟨v, r, rfl, a, b⟩ := h
    simp only [List.take_succ_cons]
    exact RepL.cons a (RepL.take n b)
theorem RepL.drop : ∀ {ds : List D} {vs : List V} (n : Nat), RepL G M H ds vs → RepL G M H (ds.drop n) (vs.drop n)
  | [], _, n, h => by unfold RepL at h; subst h; simp; exact RepL.nil
  | d :: ds, vs, 0, h => by simpa using h
  | d :: ds, vs, n + 1, h => by
    unfold RepL at h
    obtain ⟨v, r, rfl, a, b⟩ := h
    simp only [List.drop_succ_cons]
    exact RepL.drop n b
theorem RepL.set : ∀ {ds : List D} {vs : List V} (n : Nat) {d : D} {v : V}, RepL G M H ds vs → Rep G M H d v → RepL G M H (ds.set n d) (vs.set n v)
  | [], _, n, _, _, h, _ => by unfold RepL at h; subst h; simp; exact RepL.nil
  | e :: ds, vs, 0, d, v, h, k => by
    unfold RepL at h
    obtain ⟨w, r, rfl, a, b⟩ := h
    exact RepL.cons k b
  | e :: ds, vs, n + 1, d, v, h, k => by
    unfold RepL at h
    obtain ⟨w, r, rfl, a, b⟩ := h
    exact RepL.cons a (RepL.set n b k)
theorem RepL.eraseIdx : ∀ {ds : List D} {vs : List V} (n : Nat), RepL G M H ds vs → RepL G M H (ds.eraseIdx n) (vs.eraseIdx n)
  | [], _, n, h => by unfold RepL at h; subst h; simp; exact RepL.nil
  | e :: ds, vs, 0, h => by
    unfold RepL at h
    obtain ⟨w, r, rfl, a, b⟩ := h
    exact b
  | e :: ds, vs, n + 1, h => by
    unfold RepL at h
    obtain ⟨w, r, rfl, a, b⟩ := h
    exact RepL.cons a (RepL.eraseIdx n b)
theorem RepL.dropLast : ∀ {ds : List D} {vs : List V}, RepL G M H ds vs → RepL G M H ds.dropLast vs.dropLast := fun {ds vs} h => by
  rw [List.dropLast_eq_take, List.dropLast_eq_take, h.length]
  exact h.take _
theorem RepL.reverse : ∀ {ds : List D} {vs : List V}, RepL G M H ds vs → RepL G M H ds.reverse vs.reverse
  | [], _, h => by unfold RepL at h; subst h; simp; exact RepL.nil
  | d :: ds, vs, h => by
    unfold RepL at h
    obtain ⟨v, r, rfl, a, b⟩ := h
    simp only [List.reverse_cons]
    exact (RepL.reverse b).append (RepL.cons a RepL.nil)
theorem RepL.rep {ds : List D} {vs : List V} (h : RepL G M H ds vs) : ∀ k : Nat, RepL G M H (List.replicate k ds).flatten (List.replicate k vs).flatten
  | 0 => RepL.nil
  | k + 1 => by
    rw [List.replicate_succ, List.replicate_succ, List.flatten_cons, List.flatten_cons]
    exact h.append (RepL.rep h k)
theorem RepL.map_int : ∀ ns : List Int, RepL G M H (ns.map D.int) (ns.map V.int)
  | [] => RepL.nil
  | n :: ns => RepL.cons (by unfold Rep; rfl) (RepL.map_int ns)
theorem RepL.inv_int : ∀ {ns : List Int} {vs : List V}, RepL G M H (ns.map D.int) vs → vs = ns.map V.int
  | [], _, h => by unfold List.map RepL at h; exact h
  | n :: ns, vs, h => by
    simp only [List.map_cons] at h
    unfold RepL at h
    obtain ⟨v, r, rfl, a, b⟩ := h
    unfold Rep at a; subst a
    rw [RepL.inv_int b]; rfl
theorem RepL.inv_bl : ∀ {ns : List Bool} {vs : List V}, RepL G M H (ns.map D.bl) vs → vs = ns.map V.bl
  | [], _, h => by unfold List.map RepL at h; exact h
  | n :: ns, vs, h => by
    simp only [List.map_cons] at h
    unfold RepL at h
    obtain ⟨v, r, rfl, a, b⟩ := h
    unfold Rep at a; subst a
    rw [RepL.inv_bl b]; rfl
theorem RepL.inv_str : ∀ {ns : List Str} {vs : List V}, RepL G M H (ns.map D.str) vs → vs = ns.map V.str
  | [], _, h => by unfold List.map RepL at h; exact h
  | n :: ns, vs, h => by
    simp only [List.map_cons] at h
    unfold RepL at h
    obtain ⟨v, r, rfl, a, b⟩ := h
    unfold Rep at a; subst a
    rw [RepL.inv_str b]; rfl
theorem RepL.map_str : ∀ ns : List Str, RepL G M H (ns.map D.str) (ns.map V.str)
  | [] => RepL.nil
  | n :: ns => RepL.cons (by unfold Rep; rfl) (RepL.map_str ns)

/-- a new tracked object, out of the store -/
theorem Ext.new {p : Addr} {u : HO} (hp : H p = none) : Ext M H M (upd H p u) := fun a m w e => ⟨by rw [upd_ne (ne_of_none e hp)]; exact e, m⟩
theorem OkM.dom (ok : OkM G M H) {p : Addr} (hp : H p = none) : M p = none := by
  cases e : M p with
  | none => rfl
  | some o => obtain ⟨u, q, _⟩ := ok p o e; rw [hp] at q; cases q
theorem OkM.new (ok : OkM G M H) {p : Addr} {u : HO} (hp : H p = none) : OkM G M (upd H p u) := fun a o e => by
  obtain ⟨w, q, r⟩ := ok a o e
  exact ⟨w, by rw [upd_ne (ne_of_none q hp)]; exact q, r.ext (Ext.new hp)⟩
/-- .. and in the store -/
theorem Ext.newM {p : Addr} {u : HO} {o : MObj} (hp : H p = none) : Ext M H (mput M p o) (upd H p u) := fun a m w e => by
  have ne := ne_of_none e hp
  exact ⟨by rw [upd_ne ne]; exact e, by rw [mput_ne ne]; exact m⟩
theorem OkM.newM (ok : OkM G M H) {p : Addr} {u : HO} {o : MObj} (hp : H p = none) (r : RepO G M H p o u) : OkM G (mput M p o) (upd H p u) := fun a o' e => by
  by_cases h : a = p
  · subst h
    rw [mput_same] at e; cases e
    exact ⟨u, upd_same, r.ext (Ext.newM hp)⟩
  · rw [mput_ne h] at e
    obtain ⟨w, q, r'⟩ := ok a o' e
    exact ⟨w, by rw [upd_ne h]; exact q, r'.ext (Ext.newM hp)⟩
/-- an object of the store is written -/
theorem Ext.write {p : Addr} {u : HO} {o o' : MObj} (h : M p = some o) : Ext M H (mput M p o') (upd H p u) := fun a m w e => by
  have ne : a ≠ p := fun z => by subst z; rw [h] at m; cases m
  exact ⟨by rw [upd_ne ne]; exact e, by rw [mput_ne ne]; exact m⟩
theorem OkM.write (ok : OkM G M H) {p : Addr} {u : HO} {o o' : MObj} (h : M p = some o) (r : RepO G M H p o' u) : OkM G (mput M p o') (upd H p u) := fun a o2 e => by
  by_cases z : a = p
  · subst z
    rw [mput_same] at e; cases e
    exact ⟨u, upd_same, r.ext (Ext.write h)⟩
  · rw [mput_ne z] at e
    obtain ⟨w, q, r'⟩ := ok a o2 e
    exact ⟨w, by rw [upd_ne z]; exact q, r'.ext (Ext.write h)⟩
end
end Ev

/-! Ev, part B: the small syntax and what must hold so that it runs (weakest preconditions over data). -/
namespace Ev
open PySem PySem.Spec PyProof.Rows L2

inductive BI where
  | len | abs | max2 | min2 | max1 | min1 | sum | int | str | list | tuple | sorted | all | lenD | sortD | dict | dictP
  deriving DecidableEq
inductive MI where
  | append | extend | pop | popAt | insert | find | count | index | get1 | get2
  deriving DecidableEq

/-- forms of their own: max(a.values(), default=None), max(a, default=b), list(zip(a, b)); a.join(b), a.split(b), a.count(b) of texts, a.index(b) of a tuple of ints, a * b of a text -/
inductive SK where
  | maxV | maxD | zipL | join | split | cntS | tIx | mulS | kOne | kAdd | kTupL
  deriving DecidableEq
inductive E where
  | v (i : Nat) | g (x : Str) | int (i : Int) | str (x : Str) | bl (b : Bool) | non
  | bin (op : Operator) (m : Bool) (a b : E) | neg (a : E)
  | cmp (op : CmpOp) (a b : E) | chain (o o' : CmpOp) (a b c : E)
  | and (a b : E) | or (a b : E) | one (a : E) | not (a : E)
  | tup (es : E) | lst (m : Bool) (es : E) | dict (t : Nat)
  | nil | cons (a es : E)
  | ix (a i : E) | sl (m : Bool) (a lo hi : E) | nop
  | fld (c : Str) (a : E) (f : Str) | mcall (c m k : Str) (o es : E) | make (c k : Str) (es : E) | kix (x : Str) (tab : List (Str × Int)) (i : E)
  | call (f : Str) (es : E) | bi (b : BI) (m : Bool) (es : E) | isi (a : E) (ts : List String)
  | meth (n : MI) (m : Bool) (o es : E)
  | rg (t m : Bool) (two : Bool) (a b : E)
  | lc (m : Bool) (elt tg it cond : E) (own : List Nat)
  | over (a : E) | rng1 (a : E) | rng2 (a b : E) | enum (a : E) | zip (a b : E)
  | frz (a : E)
  | rev (m : Bool) (a : E)
  | dict1 (k v : E) | lock (a : E) | sortLen (m : Bool) (a : E) | items (a : E) | keys (a : E)
  | sp (k : SK) (m : Bool) (a b : E)
  | disp (ks : List Str) (es : E) | sst (m : Bool) (a lo : E) (hi st : Nat)
  deriving Inhabited
inductive S where
  | nil | cons (s r : S)
  | asg (tg e : E) | aug (op : Operator) (tg e : E) | expr (e : E) | ret (e : E) | retN | pass
  | ite (c : E) (a b : S) | forS (tg it : E) (b : S) | whileS (c : E) (b : S)
  | scope (s : S)
  | fix (i : Nat)
  | raise (c : Str)
  | setF (c f : Str) (o e : E) | tryB (i : Nat) (f : Str) (es : E) (c : Str) (ys : List Str) | tryF (i j : Nat) (f : Str) (es : E) (c : Str) (ys cs : List Str)
  deriving Inhabited

abbrev Env := List (Option D)
abbrev VQ := D → Mem → Prop
abbrev WQ := Str → Mem → Prop

/-! ### values -/
def lstOf (M : Mem) : D → Option (List D)
  | .lst ds => some ds
  | .scr ds => some ds
  | .mr a => match M a with
    | some (.lst ds) => some ds
    | _ => none
  | _ => none
/-- lists that are tracked -/
def ownL (M : Mem) : D → Option (List D)
  | .lst ds => some ds
  | .mr a => match M a with
    | some (.lst ds) => some ds
    | _ => none
  | _ => none
def tupOf : D → Option (List D)
  | .tup ds => some ds
  | .kt ds => some ds
  | .ft ds => some ds
  | _ => none
def unpOf (M : Mem) : D → Option (List D)
  | .tup ds => some ds
  | .kt ds => some ds
  | .ft ds => some ds
  | x => lstOf M x
def seqOf (M : Mem) (x : D) : Option (List D) := (lstOf M x).or (tupOf x)
def newL (m : Bool) (ds : List D) (M : Mem) (Q : VQ) : Prop :=
  ds.length ≤ sizeLine ∧ if m = true then ∀ a, M a = none → Q (.mr a) (mput M a (.lst ds)) else Q (.lst ds) M
mutual
def pureD : D → Bool
  | .mr _ => false
  | .tup ds => pureL ds
  | .lst ds => pureL ds
  | .scr ds => pureL ds
  | .kt ds => pureL ds
  | .ft ds => pureL ds
  | _ => true
def pureL : List D → Bool
  | [] => true
  | d :: ds => pureD d && pureL ds
end
mutual
def toPy : D → PyData
  | .non => .none
  | .bl b => .bool b
  | .int i => .int i
  | .str x => .str x
  | .tup ds => .tuple (toPyL ds)
  | .kt ds => .tuple (toPyL ds)
  | .ft ds => .tuple (toPyL ds)
  | .lst ds => .list (toPyL ds)
  | .scr ds => .list (toPyL ds)
  | .mr _ => .none
def toPyL : List D → List PyData
  | [] => []
  | d :: ds => toPy d :: toPyL ds
end
def deq (x y : D) : Bool := PyData.eqv (toPy x) (toPy y)
def drf (M : Mem) : D → D
  | .mr a => match M a with
    | some (.lst ds) => .lst ds
    | _ => .mr a
  | d => d
/-- may be compared -/
def okD (x : D) : Prop := pureD x = true ∧ SeqAt.shaped (toPy x) = true
def flatD : D → Bool
  | .non => true
  | .bl _ => true
  | .int _ => true
  | .str _ => true
  | _ => false
section
variable {κ : Type} [DecidableEq κ]
def getK (kvs : List (κ × D)) (k : κ) : Option D := (kvs.find? fun kv => decide (kv.1 = k)).map (·.2)
def setK (kvs : List (κ × D)) (k : κ) (v : D) : List (κ × D) :=
  if (kvs.any fun kv => decide (kv.1 = k)) = true then kvs.map fun kv => if kv.1 = k then (kv.1, v) else kv else kvs ++ [(k, v)]
end
/-- two dicts of flat values, the same -/
def dEqQ (M : Mem) (a b : Addr) (k : Bool → Prop) : Prop := ∃ ks ls : List (Key × D), M a = some (.dK ks) ∧ M b = some (.dK ls) ∧ ks.length = ls.length ∧ (∀ p ∈ ks, getK ls p.1 = some p.2 ∧ flatD p.2 = true) ∧ k true
/-! freezing: what the store holds and was not in M becomes plain data -/
mutual
inductive FrzTo (M M' : Mem) : D → D → Prop
  | refl (d : D) : FrzTo M M' d d
  | lst {a : Addr} {ds es : List D} : M a = none → M' a = some (.lst ds) → FrzL M M' ds es → FrzTo M M' (.mr a) (.lst es)
  | tup {ds es : List D} : FrzL M M' ds es → FrzTo M M' (.tup ds) (.tup es)
  | lsl {ds es : List D} : FrzL M M' ds es → FrzTo M M' (.lst ds) (.lst es)
inductive FrzL (M M' : Mem) : List D → List D → Prop
  | nil : FrzL M M' [] []
  | cons {d e : D} {ds es : List D} : FrzTo M M' d e → FrzL M M' ds es → FrzL M M' (d :: ds) (e :: es)
end
theorem FrzL.refl {M M' : Mem} : ∀ ds : List D, FrzL M M' ds ds
  | [] => .nil
  | d :: ds => .cons (.refl d) (FrzL.refl ds)

def eqQ (M : Mem) (x y : D) (k : Bool → Prop) : Prop :=
  match x, y with
  | .int i, .int j => k (decide (i = j))
  | .str a, .str b => k (decide (a = b))
  | .bl a, .bl b => k (decide (a = b))
  | .mr a, .mr b => (okD (drf M (.mr a)) ∧ okD (drf M (.mr b)) ∧ k (deq (drf M (.mr a)) (drf M (.mr b)))) ∨ dEqQ M a b k
  | .mr a, .lst [] => (okD (drf M (.mr a)) ∧ okD (.lst []) ∧ k (deq (drf M (.mr a)) (.lst []))) ∨ ∃ d ds, M a = some (.lst (d :: ds)) ∧ k false
  | .tup ds, .tup es => (okD (drf M (.tup ds)) ∧ okD (drf M (.tup es)) ∧ k (deq (drf M (.tup ds)) (drf M (.tup es)))) ∨ ∃ x' : D, FrzTo (fun _ => none) M (.tup ds) x' ∧ okD x' ∧ okD (.tup es) ∧ k (deq x' (.tup es))
  | x, y => okD (drf M x) ∧ okD (drf M y) ∧ k (deq (drf M x) (drf M y))
def isNon : D → Bool
  | .non => true
  | _ => false
def keyD : D → Option Key
  | .int i => some (.inl i)
  | .str x => some (.inr x)
  | _ => none
def keysD : List D → Option (List Key)
  | [] => some []
  | d :: ds => match keyD d, keysD ds with
    | some k, some ks => some (k :: ks)
    | _, _ => none
def keyT : D → Option (List Key)
  | .tup ds => keysD ds
  | _ => none
/-! nested keys -/
mutual
def keyN : D → Option NK
  | .int i => some (.num i)
  | .str x => some (.text x)
  | .tup ds => match keyNs ds with
    | some ks => some (.tup ks)
    | none => none
  | _ => none
def keyNs : List D → Option (List NK)
  | [] => some []
  | d :: ds => match keyN d, keyNs ds with
    | some k, some ks => some (k :: ks)
    | _, _ => none
end
mutual
theorem keyN_d : ∀ (d : D) (k : NK), keyN d = some k → dOfK k = d
  | .int i, k, h => by unfold keyN at h; cases h; rfl
  | .str x, k, h => by unfold keyN at h; cases h; rfl
  | .tup ds, k, h => by
    unfold keyN at h
    split at h
    · rename_i ks e
      cases h
      unfold dOfK
      rw [keyNs_d ds ks e]
    · cases h
  | .non, k, h => by unfold keyN at h; cases h
  | .bl _, k, h => by unfold keyN at h; cases h
  | .lst _, k, h => by unfold keyN at h; cases h
  | .scr _, k, h => by unfold keyN at h; cases h
  | .kt _, k, h => by unfold keyN at h; cases h
  | .ft _, k, h => by unfold keyN at h; cases h
  | .mr _, k, h => by unfold keyN at h; cases h
theorem keyNs_d : ∀ (ds : List D) (ks : List NK), keyNs ds = some ks → dOfKs ks = ds
  | [], ks, h => by unfold keyNs at h; cases h; rfl
  | d :: ds, ks, h => by
    unfold keyNs at h
    split at h
    · rename_i k ks' e1 e2
      cases h
      unfold dOfKs
      rw [keyN_d d k e1, keyNs_d ds ks' e2]
    · cases h
end
/-- a tuple as a nested key, not too deep -/
def keyNT : D → Option NK
  | .tup ds => match keyNs ds with
    | some ks => if (PySem.NestedKey.tup ks).depth ≤ 8 then some (.tup ks) else none
    | none => none
  | _ => none
theorem keyNT_d {d : D} {k : NK} (h : keyNT d = some k) : dOfK k = d ∧ k.depth ≤ 8 ∧ ∃ ds, d = .tup ds := by
  cases d with
  | tup ds =>
    unfold keyNT at h
    simp only at h
    cases e : keyNs ds with
    | none => rw [e] at h; cases h
    | some ks =>
      rw [e] at h
      simp only at h
      by_cases hd : (PySem.NestedKey.tup ks).depth ≤ 8
      · rw [if_pos hd] at h
        cases h
        exact ⟨by unfold dOfK; rw [keyNs_d ds ks e], hd, ds, rfl⟩
      · rw [if_neg hd] at h; cases h
  | _ => cases h
/-- what the dict holds at a key: none where it is no such dict or key -/
def dget (M : Mem) (x y : D) : Option (Option D) :=
  match x with
  | .mr a => match M a with
    | some (.dK kvs) => (keyD y).map fun k => getK kvs k
    | some (.dT kvs) => (keyT y).map fun k => getK kvs k
    | some (.dN kvs) => (keyNT y).map fun k => getK kvs k
    | some (.dF _ kvs) => (keyNT y).map fun k => getK kvs k
    | _ => none
  | _ => none
def inQ (M : Mem) (x y : D) (k : Bool → Prop) : Prop :=
  match y with
  | .str z => ∃ c, x = .str ⟨#[c]⟩ ∧ k (decide (c ∈ z.cps.toList))
  | y => match dget M y x with
    | some o => k o.isSome
    | none => ∃ ds, seqOf M y = some ds ∧ ((flatD x = true ∧ ds.all flatD = true ∧ k (ds.any fun z => deq z x)) ∨
        (lstOf M y = some ds ∧ okD x ∧ okD (.lst ds) ∧ k (ds.any fun z => deq z x)))
def cmpQ (op : CmpOp) (M : Mem) (x y : D) (k : Bool → Prop) : Prop :=
  match op with
  | .Eq => eqQ M x y k
  | .NotEq => eqQ M x y fun b => k (!b)
  | .Lt => ∃ i j, x = .int i ∧ y = .int j ∧ k (decide (i < j))
  | .LtE => ∃ i j, x = .int i ∧ y = .int j ∧ k (decide (i ≤ j))
  | .Gt => ∃ i j, x = .int i ∧ y = .int j ∧ k (decide (j < i))
  | .GtE => ∃ i j, x = .int i ∧ y = .int j ∧ k (decide (j ≤ i))
  | .Is => (y = .non ∧ k (isNon x)) ∨ ∃ a b, x = .bl a ∧ y = .bl b ∧ k (decide (a = b))
  | .IsNot => (y = .non ∧ k (!isNon x)) ∨ ∃ a b, x = .bl a ∧ y = .bl b ∧ k (!decide (a = b))
  | .In => inQ M x y k
  | .NotIn => inQ M x y fun b => k (!b)
def binQ (op : Operator) (m : Bool) (M : Mem) (x y : D) (Q : VQ) : Prop :=
  match op, x, y with
  | .Add, .int i, .int j => Q (.int (i + j)) M
  | .Add, .str s, .str t => s.length + t.length ≤ sizeLine ∧ Q (.str (s ++ t)) M
  | .Add, .tup ds, .tup es => ds.length + es.length ≤ sizeLine ∧ Q (.tup (ds ++ es)) M
  | .Add, x, y => ∃ ds es, ownL M x = some ds ∧ ownL M y = some es ∧ newL m (ds ++ es) M Q
  | .Sub, .int i, .int j => Q (.int (i - j)) M
  | .Mult, .int i, .int j => (CMul i j ∨ CMulW i j) ∧ Q (.int (i * j)) M
  | .Mult, x, .int k => ∃ ds, ownL M x = some ds ∧ -(2 ^ 63) ≤ k ∧ k < 2 ^ 63 ∧ newL m (List.replicate k.toNat ds).flatten M Q
  | .FloorDiv, .int i, .int j => (CDiv i j ∨ CDivW i j) ∧ Q (.int (i / j)) M
  | .Mod, .int i, .int j => 0 < j ∧ Q (.int (i % j)) M
  | .Pow, .int i, .int j => CPow i j ∧ Q (.int (i ^ j.toNat)) M
  | .RShift, .int i, .int j => 0 ≤ j ∧ Q (.int (i / 2 ^ j.toNat)) M
  | .LShift, .int i, .int j => CPow i j ∧ Q (.int (i * 2 ^ j.toNat)) M
  | .BitAnd, .int i, .int j => Q (.int (PySem.Builtin.bitAnd i j)) M
  | _, _, _ => False
def ixQ (M : Mem) (x y : D) (Q : VQ) : Prop :=
  match dget M x y with
  | some o => ∃ d, o = some d ∧ Q d M
  | none => match x with
    | .str z => ∃ i c, y = .int i ∧ z.length ≤ sizeLine ∧ atI z.cps.toList i = some c ∧ Q (.str ⟨#[c]⟩) M
    | x => ∃ ds i d, seqOf M x = some ds ∧ y = .int i ∧ atI ds i = some d ∧ Q d M
/-- the three ways of o[i] = d -/
def setQ (M : Mem) (x y d : D) (q : Mem → Prop) : Prop :=
  (∃ p ds k j, x = .mr p ∧ M p = some (.lst ds) ∧ y = .int k ∧ ixN ds.length k = some j ∧ q (mput M p (.lst (ds.set j d)))) ∨
  (∃ p kvs k, x = .mr p ∧ M p = some (.dK kvs) ∧ keyD y = some k ∧ kvs.length < sizeLine ∧ q (mput M p (.dK (setK kvs k d)))) ∨
  (∃ p kvs k, x = .mr p ∧ M p = some (.dT kvs) ∧ keyT y = some k ∧ kvs.length < sizeLine ∧ q (mput M p (.dT (setK kvs k d)))) ∨
  (∃ p kvs k, x = .mr p ∧ M p = some (.dN kvs) ∧ keyNT y = some k ∧ kvs.length < sizeLine ∧ q (mput M p (.dN (setK kvs k d))))
def cutD {α : Type} (xs : List α) (lo hi : Option Int) : List α := (xs.drop (HT.sIx xs.length 0 lo)).take (HT.sIx xs.length xs.length hi - HT.sIx xs.length 0 lo)
def isNop : E → Bool
  | .nop => true
  | _ => false
/-- a part of a slice: not written, or an int -/
def partE (e : E) (d : D) : Option (Option Int) :=
  if isNop e = true then some none else match d with
    | .int i => some (some i)
    | _ => none
def slQ (m : Bool) (M : Mem) (x : D) (lo hi : Option Int) (Q : VQ) : Prop :=
  match x with
  | .str z => z.length ≤ sizeLine ∧ Q (.str (cutS z lo hi)) M
  | .tup ds => ds.length ≤ sizeLine ∧ Q (.tup (cutD ds lo hi)) M
  | .ft ds => ds.length ≤ sizeLine ∧ (HT.sIx ds.length 0 lo = 0 ∧ HT.sIx ds.length ds.length hi = ds.length → Q (.ft ds) M) ∧ (¬ (HT.sIx ds.length 0 lo = 0 ∧ HT.sIx ds.length ds.length hi = ds.length) → Q (.tup (cutD ds lo hi)) M)
  | x => ∃ ds, lstOf M x = some ds ∧ newL m (cutD ds lo hi) M Q
/-- x + y of tuples, x not empty: a tuple whose object is known -/
def kAddQ (M : Mem) (x y : D) (Q : VQ) : Prop := ∃ ds es, tupOf x = some ds ∧ tupOf y = some es ∧ ds ≠ [] ∧ ds.length + es.length ≤ sizeLine ∧ (es = [] → x = .ft ds) ∧ Q (.ft (ds ++ es)) M
/-- the items that are sorted, a nested dict's keys too -/
def sortsD (M : Mem) (x : D) (ds : List D) : Prop := seqOf M x = some ds ∨ ∃ a kvs, x = .mr a ∧ (M a = some (.dN kvs) ∨ ∃ o, M a = some (.dF o kvs)) ∧ ds = kvs.map fun kv => dOfK kv.1
structure SortD (ds : List D) : Prop where
  pu : pureL ds = true
  al : PySem.W.AllAlike (ds.map toPy)
  so : PySem.W.Sortable (ds.map toPy)
  de : ∀ d ∈ ds, (toPy d).depth ≤ 60
abbrev leQ (x y : D) : Bool := PySem.W.dataLe false toPy x y
abbrev leN (x y : List D) : Bool := PySem.W.dataLe false (fun b : List D => .int (b.length : Nat)) x y
def putD (f : Str) (d : D) : List (Str × D) → List (Str × D)
  | [] => [(f, d)]
  | (g, x) :: r => if g = f then (g, d) :: r else (g, x) :: putD f d r
def maxL : List Int → Int
  | [] => 0
  | [a] => a
  | a :: b :: r => max a (maxL (b :: r))
def minL : List Int → Int
  | [] => 0
  | [a] => a
  | a :: b :: r => min a (minL (b :: r))
/-- built-in functions -/
def biQ (b : BI) (m : Bool) (M : Mem) (xs : List D) (Q : VQ) : Prop :=
  match b, xs with
  | .len, [.str z] => z.length ≤ sizeLine ∧ Q (.int z.length) M
  | .len, [x] => ∃ ds, seqOf M x = some ds ∧ Q (.int ds.length) M
  | .abs, [.int i] => Q (.int (if i < 0 then -i else i)) M
  | .max2, [.int i, .int j] => Q (.int (if j > i then j else i)) M
  | .min2, [.int i, .int j] => Q (.int (if j < i then j else i)) M
  | .max1, [x] => ∃ ns : List Int, lstOf M x = some (ns.map D.int) ∧ 0 < ns.length ∧ Q (.int (maxL ns)) M
  | .min1, [x] => ∃ ns : List Int, lstOf M x = some (ns.map D.int) ∧ 0 < ns.length ∧ Q (.int (minL ns)) M
  | .sum, [x] => ∃ ns : List Int, lstOf M x = some (ns.map D.int) ∧ Q (.int ns.sum) M
  | .all, [x] => ∃ bs : List Bool, lstOf M x = some (bs.map D.bl) ∧ Q (.bl (bs.all id)) M
  | .int, [.int i] => Q (.int i) M
  | .int, [.bl k] => Q (.int (if k then 1 else 0)) M
  | .int, [.str z] => ∃ n, PySem.intText? z = some n ∧ z.length ≤ 640 ∧ Q (.int n) M
  | .str, [.int i] => i.natAbs.log2 < 1920 ∧ Q (.str (toString i)) M
  | .str, [.str z] => Q (.str z) M
  | .str, [.non] => Q (.str "None") M
  | .list, [x] => ∃ ds, seqOf M x = some ds ∧ newL m ds M Q
  | .tuple, [.tup ds] => Q (.tup ds) M
  | .tuple, [x] => ∃ ds, lstOf M x = some ds ∧ Q (.tup ds) M
  | .sorted, [x] => ∃ ns : List Int, lstOf M x = some (ns.map D.int) ∧ ∀ ns', List.Perm ns' ns → ns'.Pairwise (· ≤ ·) → newL m (ns'.map D.int) M Q
  | .lenD, [x] => ∃ a kvs, x = .mr a ∧ (M a = some (.dN kvs) ∨ ∃ o, M a = some (.dF o kvs)) ∧ Q (.int kvs.length) M
  | .sortD, [x] => ∃ ds, sortsD M x ds ∧ SortD ds ∧ newL m (ds.mergeSort leQ) M Q
  | .dict, [x] => ∃ a kvs, x = .mr a ∧ M a = some (.dK kvs) ∧ ∀ b, M b = none → Q (.mr b) (mput M b (.dK kvs))
  | .dictP, [x] => ∃ ps : List (D × NK × D), lstOf M x = some (ps.map fun p => D.tup [p.1, p.2.2]) ∧ (∀ p ∈ ps, keyNT p.1 = some p.2.1) ∧ ∀ b, M b = none → Q (.mr b) (mput M b (.dN (ps.foldl (fun acc p => setK acc p.2.1 p.2.2) [])))
  | _, _ => False
/-- methods of built-in types -/
def miQ (b : MI) (m : Bool) (M : Mem) (x : D) (xs : List D) (Q : VQ) : Prop :=
  match b, x, xs with
  | .append, .mr a, [y] => ∃ ds, M a = some (.lst ds) ∧ ds.length < sizeLine ∧ Q .non (mput M a (.lst (ds ++ [y])))
  | .extend, .mr a, [y] => ∃ ds es, M a = some (.lst ds) ∧ ownL M y = some es ∧ ds.length + es.length ≤ sizeLine ∧ Q .non (mput M a (.lst (ds ++ es)))
  | .pop, .mr a, [] => ∃ ds y, M a = some (.lst ds) ∧ ds[ds.length - 1]? = some y ∧ Q y (mput M a (.lst ds.dropLast))
  | .popAt, .mr a, [.int i] => ∃ ds k y, M a = some (.lst ds) ∧ ixN ds.length i = some k ∧ i < 2 ^ 63 ∧ -(2 ^ 63) ≤ i ∧ ds[k]? = some y ∧ Q y (mput M a (.lst (ds.eraseIdx k)))
  | .insert, .mr a, [.int i, y] => ∃ ds, M a = some (.lst ds) ∧ ds.length < sizeLine ∧ 0 ≤ i ∧ i < 2 ^ 63 ∧ Q .non (mput M a (.lst (ds.take i.toNat ++ [y] ++ ds.drop i.toNat)))
  | .index, x, [y] => ∃ ds j z, lstOf M x = some ds ∧ ((flatD y = true ∧ ds.all flatD = true) ∨ (okD y ∧ okD (.lst ds))) ∧ ds[j]? = some z ∧ deq z y = true ∧
      (∀ (k : Nat) z', k < j → ds[k]? = some z' → deq z' y = false) ∧ Q (.int (j : Nat)) M
  | .count, x, [.int i] => ∃ ns : List Int, lstOf M x = some (ns.map D.int) ∧ Q (.int (ns.count i : Nat)) M
  | .find, .str z, [.str t] => Q (.int (Txt.find z t)) M
  | .get1, x, [y] => ∃ o, dget M x y = some o ∧ Q (o.getD .non) M
  | .get2, x, [y, d] => ∃ o, dget M x y = some o ∧ Q (o.getD d) M
  | _, _, _ => False
/-- the receiver is of the method's type -/
def recvOk (n : MI) (M : Mem) (x : D) : Prop :=
  match n with
  | .find => ∃ z, x = .str z
  | .get1 | .get2 => ∃ a, x = .mr a ∧ ((∃ kvs, M a = some (.dK kvs)) ∨ (∃ kvs, M a = some (.dT kvs)) ∨ (∃ kvs, M a = some (.dN kvs)) ∨ ∃ o kvs, M a = some (.dF o kvs))
  | _ => ∃ ds, lstOf M x = some ds
def typeOfD (M : Mem) : D → Option String
  | .non => some "NoneType"
  | .bl _ => some "bool"
  | .int _ => some "int"
  | .str _ => some "str"
  | .tup _ => some "tuple"
  | .lst _ => some "list"
  | .mr a => match M a with
    | some (.lst _) => some "list"
    | some (.dK _) => some "dict"
    | _ => none
  | _ => none
def isB (a : String) (ts : List String) : Bool := ts.any fun t => a == t || (a == "bool" && t == "int")
def rgD (a b : Int) : List D := (List.range (b - a).toNat).map fun i => D.int (a + (i : Nat))

/-! ### the small syntax runs -/
/-! behind a frozen value; of a truth; behind a frozen truth -/
/-- what is walked: a text's letters, a list's or tuple's items; two at once -/
def overQ (M : Mem) (x : D) (Q : List D → (Mem → Prop) → Mem → Prop) : Prop := (∃ z, x = .str z ∧ Q (z.cps.toList.map fun c => D.str ⟨#[c]⟩) (fun _ => True) M) ∨ ∃ ds, seqOf M x = some ds ∧ Q ds (fun M => seqOf M x = some ds) M
def zipQ (M : Mem) (x y : D) (Q : List D → (Mem → Prop) → Mem → Prop) : Prop := ∃ ds es, ((lstOf M x = some ds ∧ lstOf M y = some es) ∨ (tupOf x = some ds ∧ tupOf y = some es)) ∧
      Q ((ds.zip es).map fun p => .tup [p.1, p.2]) (fun M => seqOf M x = some ds ∧ seqOf M y = some es) M
def frzQ (M : Mem) (Q : VQ) : VQ := fun d M1 => ∃ d', FrzTo M M1 d d' ∧ Q d' (restr M M1)
def boolQ (Q : Bool → Mem → Prop) : VQ := fun x M2 => ∃ k, x = .bl k ∧ Q k M2
def rsQ (M : Mem) (Q : Bool → Mem → Prop) : Bool → Mem → Prop := fun k M1 => Q k (restr M M1)
structure Fx where
  call : Str → List D → Mem → VQ → WQ → Prop
  glob : Str → Option D
def wipeD (σ : Env) : List Nat → Env
  | [] => σ
  | v :: vs => (wipeD σ vs).set v none
/-- a loop over the items; still: the walked thing is as it was -/
def loopQ (turn : D → Env → Mem → (Env → Mem → Prop) → Prop) (still : Mem → Prop) : List D → Env → Mem → (Env → Mem → Prop) → Prop
  | [], σ, M, q => still M ∧ q σ M
  | d :: r, σ, M, q => still M ∧ turn d σ M fun σ' M' => loopQ turn still r σ' M' q
/-- out of the store -/
def mdel (M : Mem) (a : Addr) : Mem := fun b => if b = a then none else M b
/-- a comprehension over the items, the new list at L -/
def compQ (L : Addr) (turn : D → Mem → (Option D → Mem → Prop) → Prop) (still : Mem → Prop) : List D → Mem → (List D → Mem → Prop) → Prop
  | [], M, q => still M ∧ ∃ acc, M L = some (.lst acc) ∧ q acc M
  | d :: r, M, q => still M ∧ turn d M fun y M' => match y with
    | none => compQ L turn still r M' q
    | some z => ∃ acc, M' L = some (.lst acc) ∧ acc.length < sizeLine ∧ compQ L turn still r (mput M' L (.lst (acc ++ [z]))) q
def whileQ (c : Env → Mem → (Bool → Mem → Prop) → Prop) (b : Env → Mem → (Env → Mem → Prop) → Prop) (q : Env → Mem → Prop) : Nat → Env → Mem → Prop
  | 0, _, _ => False
  | n + 1, σ, M => c σ M fun k M' => if k = true then b σ M' (whileQ c b q n) else q σ M'

/-- every st-th -/
def everyL (st : Nat) (l : List D) : List D := l.zipIdx.filterMap fun p => if p.2 % st = 0 then some p.1 else none
def lenE : E → Nat
  | .cons _ es => lenE es + 1
  | _ => 0
section
variable (F : Fx) (W : WQ)
mutual
def wpE (F : Fx) (W : WQ) : E → Env → Mem → VQ → Prop
  | .v i, σ, M, Q => ∃ d, σ[i]? = some (some d) ∧ Q d M
  | .g x, _, M, Q => ∃ d, F.glob x = some d ∧ Q d M
  | .int i, _, M, Q => Q (.int i) M
  | .str x, _, M, Q => Q (.str x) M
  | .bl b, _, M, Q => Q (.bl b) M
  | .non, _, M, Q => Q .non M
  | .bin op m a b, σ, M, Q => wpE F W a σ M fun x M1 => wpE F W b σ M1 fun y M2 => binQ op m M2 x y Q
  | .neg a, σ, M, Q => wpE F W a σ M fun x M1 => ∃ i, x = .int i ∧ Q (.int (-i)) M1
  | .cmp op a b, σ, M, Q => wpE F W a σ M fun x M1 => wpE F W b σ M1 fun y M2 => cmpQ op M2 x y fun k => Q (.bl k) M2
  | .chain o o' a b c, σ, M, Q => wpE F W a σ M fun x M1 => wpE F W b σ M1 fun y M2 => cmpQ o M2 x y fun k => if k = true then wpE F W c σ M2 fun z M3 => cmpQ o' M3 y z fun k' => Q (.bl k') M3 else Q (.bl false) M2
  | .and a b, σ, M, Q => wpE F W a σ M fun x M1 => ∃ k, x = .bl k ∧ if k = true then wpE F W b σ M1 Q else Q (.bl false) M1
  | .or a b, σ, M, Q => wpE F W a σ M fun x M1 => ∃ k, x = .bl k ∧ if k = true then Q (.bl true) M1 else wpE F W b σ M1 Q
  | .one a, σ, M, Q => wpE F W a σ M Q
  | .not a, σ, M, Q => wpE F W a σ M fun x M1 => ∃ k, x = .bl k ∧ Q (.bl (!k)) M1
  | .tup es, σ, M, Q => wpA F W es σ M fun ds M1 => ds.length ≤ sizeLine ∧ Q (.tup ds) M1
  | .lst m es, σ, M, Q => wpA F W es σ M fun ds M1 => newL m ds M1 Q
  | .dict t, _, M, Q => ∀ a, M a = none → Q (.mr a) (mput M a (match t with | 0 => .dK [] | 1 => .dT [] | _ => .dN []))
  | .ix a i, σ, M, Q => wpE F W a σ M fun x M1 => wpE F W i σ M1 fun y M2 => ixQ M2 x y Q
  | .sl m a lo hi, σ, M, Q => wpE F W a σ M fun x M1 => wpE F W lo σ M1 fun l M2 => ∃ l', partE lo l = some l' ∧ wpE F W hi σ M2 fun h M3 => ∃ h', partE hi h = some h' ∧ slQ m M3 x l' h' Q
  | .nop, _, M, Q => Q .non M
  | .fld c a f, σ, M, Q => wpE F W a σ M fun x M1 => ∃ p fs d, x = .mr p ∧ M1 p = some (.ins c fs) ∧ fs.lookup f = some d ∧ Q d M1
  | .mcall c m k o es, σ, M, Q => wpE F W o σ M fun x M1 => ∃ p fs, x = .mr p ∧ M1 p = some (.ins c fs) ∧ fs.lookup m = none ∧ wpA F W es σ M1 fun ds M2 => F.call k (x :: ds) M2 Q W
  | .make c k es, σ, M, Q => wpA F W es σ M fun ds M1 => ∀ a, M1 a = none → F.call k (.mr a :: ds) (mput M1 a (.ins c [])) (fun d M2 => d = .non ∧ Q (.mr a) M2) W
  | .kix _ tab i, σ, M, Q => wpE F W i σ M fun y M1 => ∃ z n, y = .str z ∧ tab.lookup z = some n ∧ Q (.int n) M1
  | .call f es, σ, M, Q => wpA F W es σ M fun ds M1 => F.call f ds M1 Q W
  | .bi b m es, σ, M, Q => wpA F W es σ M fun ds M1 => biQ b m M1 ds Q
  | .isi a ts, σ, M, Q => wpE F W a σ M fun x M1 => ∃ t, typeOfD M1 x = some t ∧ Q (.bl (isB t ts)) M1
  | .meth n m o es, σ, M, Q => wpE F W o σ M fun x M1 => recvOk n M1 x ∧ wpA F W es σ M1 fun ds M2 => miQ n m M2 x ds Q
  | .rg t m two a b, σ, M, Q => wpE F W a σ M fun x M1 => wpE F W b σ M1 fun y M2 => ∃ i j, (if two = true then x = .int i ∧ y = .int j else x = .int j ∧ i = 0) ∧ RgOk i j ∧
      if t = true then Q (.tup (rgD i j)) M2 else newL m (rgD i j) M2 Q
  | .lc m elt tg it cond own, σ, M, Q => wpI F W it σ M fun ds still M1 => ∀ L, M1 L = none →
      compQ L (fun d M2 k => wpT F (fun _ _ => False) tg d (wipeD σ own) M2 fun σ3 M3 => wpB F (fun _ _ => False) cond σ3 M3 fun c M4 =>
        if c = true then wpE F (fun _ _ => False) elt σ3 M4 fun y M5 => k (some y) M5 else k none M4) still ds (mput M1 L (.lst [])) fun acc M2 => if m = true then Q (.mr L) M2 else Q (.lst acc) (mdel M2 L)
  | .frz a, σ, M, Q => wpE F W a σ M (frzQ M Q)
  | .rev m a, σ, M, Q => wpE F W a σ M fun x M1 => ∃ ds, lstOf M1 x = some ds ∧ newL m ds.reverse M1 Q
  | .dict1 k v, σ, M, Q => ∀ a, M a = none → wpE F W k σ (mput M a (.dN [])) fun x M1 => wpE F W v σ M1 fun y M2 => M2 a = some (.dN []) ∧ ∃ nk, keyNT x = some nk ∧ Q (.mr a) (mput M2 a (.dN [(nk, y)]))
  | .lock a, σ, M, Q => wpE F W a σ M fun x M1 => (∃ p o kvs, x = .mr p ∧ M1 p = some (.dF o kvs) ∧ Q x M1) ∨ ∃ p kvs, x = .mr p ∧ M1 p = some (.dN kvs) ∧ ∀ o, Q x (mput M1 p (.dF o kvs))
  | .sortLen m a, σ, M, Q => wpE F W a σ M fun x M1 => ∃ ds : List (List D), lstOf M1 x = some (ds.map .tup) ∧ newL m ((ds.mergeSort leN).map .tup) M1 Q
  | .sp .maxV _ a _, σ, M, Q => wpE F W a σ M fun x M1 => ∃ p kvs, x = .mr p ∧ (M1 p = some (.dN kvs) ∨ ∃ o, M1 p = some (.dF o kvs)) ∧ ∃ ns : List Int, kvs.map (·.2) = ns.map D.int ∧ Q (if ns = [] then .non else .int (maxL ns)) M1
  | .sp .maxD _ a b, σ, M, Q => wpE F W a σ M fun x M1 => wpE F W b σ M1 fun y M2 => ∃ ns : List Int, lstOf M2 x = some (ns.map D.int) ∧ Q (if ns = [] then y else .int (maxL ns)) M2
  | .sp .zipL m a b, σ, M, Q => wpE F W a σ M fun x M1 => wpE F W b σ M1 fun y M2 => ∃ ds es, tupOf x = some ds ∧ tupOf y = some es ∧ newL m ((ds.zip es).map fun p => .tup [p.1, p.2]) M2 Q
  | .sp .join _ a b, σ, M, Q => wpE F W a σ M fun x M1 => ∃ z : Str, x = .str z ∧ wpE F W b σ M1 fun y M2 => ∃ ys : List Str, lstOf M2 y = some (ys.map D.str) ∧ (ys.map (·.length)).sum + ys.length * z.length ≤ 16777216 ∧ Q (.str (Txt.join z ys)) M2
  | .sp .split m a b, σ, M, Q => wpE F W a σ M fun x M1 => ∃ z : Str, x = .str z ∧ wpE F W b σ M1 fun y M2 => ∃ t : Str, y = .str t ∧ (t.length == 0) = false ∧ z.length + 2 ≤ sizeLine ∧ newL m ((Txt.split z t).map D.str) M2 Q
  | .sp .cntS _ a b, σ, M, Q => wpE F W a σ M fun x M1 => (∃ us, lstOf M1 x = some us) ∧ wpE F W b σ M1 fun y M2 => ∃ (ns : List Str) (z : Str), lstOf M2 x = some (ns.map D.str) ∧ y = .str z ∧ Q (.int (ns.count z : Nat)) M2
  | .sp .tIx _ a b, σ, M, Q => wpE F W a σ M fun x M1 => ∃ ns : List Int, x = .ft (ns.map D.int) ∧ wpE F W b σ M1 fun y M2 => ∃ (z : Int) (j : Nat), y = .int z ∧ ns[j]? = some z ∧ (∀ m, m < j → ns[m]? ≠ some z) ∧ Q (.int (j : Nat)) M2
  | .sp .kOne _ a _, σ, M, Q => wpE F W a σ M fun x M1 => Q (.ft [x]) M1
  | .sp .kAdd _ a b, σ, M, Q => wpE F W a σ M fun x M1 => wpE F W b σ M1 fun y M2 => kAddQ M2 x y Q
  | .sp .kTupL _ a _, σ, M, Q => wpE F W a σ M fun x M1 => ∃ ds, lstOf M1 x = some ds ∧ Q (.ft ds) M1
  | .sp .mulS _ a b, σ, M, Q => wpE F W a σ M fun x M1 => wpE F W b σ M1 fun y M2 => ∃ (z : Str) (n : Int), x = .str z ∧ y = .int n ∧ MulOk z n ∧ Q (.str (Txt.mul z n)) M2
  | .disp ks es, σ, M, Q => ∀ a, M a = none → wpA F W es σ (mput M a (.dK [])) fun ds M1 => M1 a = some (.dK []) ∧ ds.length = ks.length ∧ Q (.mr a) (mput M1 a (.dK ((ks.map Sum.inr).zip ds)))
  | .sst m a lo hi st, σ, M, Q => wpE F W a σ M fun x M1 => wpE F W lo σ M1 fun y M2 => ∃ i, y = .int i ∧ ∃ ds : List D, lstOf M2 x = some ds ∧ ∀ es : List D, (∀ e ∈ es, e ∈ ds) → es.length ≤ ds.length → newL m es M2 Q
  | .items _, _, _, _ => False
  | .keys _, _, _, _ => False
  | .nil, _, _, _ => False
  | .cons _ _, _, _, _ => False
  | .over _, _, _, _ => False
  | .rng1 _, _, _, _ => False
  | .rng2 _ _, _, _, _ => False
  | .enum _, _, _, _ => False
  | .zip _ _, _, _, _ => False
def wpA (F : Fx) (W : WQ) : E → Env → Mem → (List D → Mem → Prop) → Prop
  | .nil, _, M, Q => Q [] M
  | .cons a es, σ, M, Q => wpE F W a σ M fun x M1 => wpA F W es σ M1 fun xs M2 => Q (x :: xs) M2
  | _, _, _, _ => False
def wpB (F : Fx) (W : WQ) : E → Env → Mem → (Bool → Mem → Prop) → Prop
  | .and a b, σ, M, Q => wpB F W a σ M fun c M1 => if c = true then wpB F W b σ M1 Q else Q false M1
  | .or a b, σ, M, Q => wpB F W a σ M fun c M1 => if c = true then Q true M1 else wpB F W b σ M1 Q
  | .one a, σ, M, Q => wpB F W a σ M Q
  | .not a, σ, M, Q => wpB F W a σ M fun c M1 => Q (!c) M1
  | .nop, _, M, Q => Q true M
  | .cmp op a b, σ, M, Q => wpE F W a σ M fun x M1 => wpE F W b σ M1 fun y M2 => cmpQ op M2 x y fun k => Q k M2
  | .chain o o' a b c, σ, M, Q => wpE F W a σ M fun x M1 => wpE F W b σ M1 fun y M2 => cmpQ o M2 x y fun k => if k = true then wpE F W c σ M2 fun z M3 => cmpQ o' M3 y z fun k' => Q k' M3 else Q false M2
  | .v i, σ, M, Q => ∃ b, σ[i]? = some (some (.bl b)) ∧ Q b M
  | .call f es, σ, M, Q => wpA F W es σ M fun ds M1 => F.call f ds M1 (boolQ Q) W
  | .isi a ts, σ, M, Q => wpE F W a σ M fun x M1 => ∃ t, typeOfD M1 x = some t ∧ ∃ k, D.bl (isB t ts) = .bl k ∧ Q k M1
  | .bi b m es, σ, M, Q => wpA F W es σ M fun ds M1 => biQ b m M1 ds fun x M2 => ∃ k, x = .bl k ∧ Q k M2
  | .frz a, σ, M, Q => wpB F W a σ M (rsQ M Q)
  | .ix a i, σ, M, Q => wpE F W a σ M fun x M1 => wpE F W i σ M1 fun y M2 => ixQ M2 x y (boolQ Q)
  | _, _, _, _ => False
def wpI (F : Fx) (W : WQ) : E → Env → Mem → (List D → (Mem → Prop) → Mem → Prop) → Prop
  | .over a, σ, M, Q => wpE F W a σ M fun x M1 => overQ M1 x Q
  | .rng1 a, σ, M, Q => wpE F W a σ M fun x M1 => ∃ j, x = .int j ∧ -(2 ^ 62) ≤ j ∧ j < 2 ^ 62 ∧ Q (rgD 0 j) (fun _ => True) M1
  | .rng2 a b, σ, M, Q => wpE F W a σ M fun x M1 => wpE F W b σ M1 fun y M2 => ∃ i j, x = .int i ∧ y = .int j ∧ (-(2 ^ 62) ≤ i ∧ i < 2 ^ 62 ∧ -(2 ^ 62) ≤ j ∧ j < 2 ^ 62) ∧ Q (rgD i j) (fun _ => True) M2
  | .enum a, σ, M, Q => wpE F W a σ M fun x M1 => ∃ ds, seqOf M1 x = some ds ∧ Q (ds.zipIdx.map fun p => .tup [.int p.2, p.1]) (fun M => seqOf M x = some ds) M1
  | .zip a b, σ, M, Q => wpE F W a σ M fun x M1 => wpE F W b σ M1 fun y M2 => zipQ M2 x y Q
  | .keys a, σ, M, Q => wpE F W a σ M fun x M1 => ∃ p o kvs, x = .mr p ∧ M1 p = some (.dF o kvs) ∧ Q (kvs.map fun kv => dOfK kv.1) (fun M => M p = some (.dF o kvs)) M1
  | .items a, σ, M, Q => wpE F W a σ M fun x M1 => ∃ p o kvs, x = .mr p ∧ M1 p = some (.dF o kvs) ∧ Q (kvs.map fun kv => .tup [dOfK kv.1, kv.2]) (fun M => M p = some (.dF o kvs)) M1
  | _, _, _, _ => False
def wpT (F : Fx) (W : WQ) : E → D → Env → Mem → (Env → Mem → Prop) → Prop
  | .v i, d, σ, M, Q => Q (σ.set i (some d)) M
  | .tup es, d, σ, M, Q => ∃ ds, unpOf M d = some ds ∧ ds.length = lenE es ∧ wpTs F W es ds σ M Q
  | .ix a i, d, σ, M, Q => wpE F W a σ M fun x M1 => wpE F W i σ M1 fun y M2 => setQ M2 x y d fun M3 => Q σ M3
  | _, _, _, _, _ => False
def wpTs (F : Fx) (W : WQ) : E → List D → Env → Mem → (Env → Mem → Prop) → Prop
  | .nil, ds, σ, M, Q => ds = [] ∧ Q σ M
  | .cons a es, ds, σ, M, Q => ∃ d r, ds = d :: r ∧ wpT F W a d σ M fun σ' M' => wpTs F W es r σ' M' Q
  | _, _, _, _, _ => False
end
/-- what is wanted behind a block: behind it, of a value handed back -/
structure Qs where
  nx : Env → Mem → Prop
  rt : D → Mem → Prop
def wpS (F : Fx) (W : WQ) : S → Env → Mem → Qs → Prop
  | .nil, σ, M, q => q.nx σ M
  | .cons s r, σ, M, q => wpS F W s σ M ⟨fun σ' M' => wpS F W r σ' M' q, q.rt⟩
  | .asg tg e, σ, M, q => wpE F W e σ M fun d M1 => wpT F W tg d σ M1 q.nx
  | .aug op (.v i) e, σ, M, q => ∃ x, σ[i]? = some (some x) ∧ flatD x = true ∧ wpE F W e σ M fun y M1 => binQ op false M1 x y fun z M2 => q.nx (σ.set i (some z)) M2
  | .aug op (.ix a i) e, σ, M, q => wpE F W a σ M fun x M1 => wpE F W i σ M1 fun y M2 => (∃ p, x = .mr p) ∧ ixQ M2 x y fun z M3 => wpE F W e σ M3 fun u M4 => flatD z = true ∧ binQ op false M4 z u fun r M5 => setQ M5 x y r fun M6 => q.nx σ M6
  | .aug _ _ _, _, _, _ => False
  | .expr e, σ, M, q => wpE F W e σ M fun _ M1 => q.nx σ M1
  | .ret e, σ, M, q => wpE F W e σ M q.rt
  | .retN, _, M, q => q.rt .non M
  | .pass, σ, M, q => q.nx σ M
  | .ite c a b, σ, M, q => wpB F W c σ M fun k M1 => if k = true then wpS F W a σ M1 q else wpS F W b σ M1 q
  | .forS tg it b, σ, M, q => wpI F W it σ M fun ds still M1 => loopQ (fun d σ' M' k => wpT F W tg d σ' M' fun σ2 M2 => wpS F W b σ2 M2 ⟨k, q.rt⟩) still ds σ M1 q.nx
  | .whileS c b, σ, M, q => ∃ n, whileQ (wpB F W c) (fun σ' M' k => wpS F W b σ' M' ⟨k, q.rt⟩) q.nx n σ M
  | .scope s, σ, M, q => wpS F W s σ M ⟨fun σ' M' => q.nx σ' (restr M M'), fun d M' => q.rt d (restr M M')⟩
  | .raise c, _, M, _ => W c M
  | .setF c f o e, σ, M, q => wpE F W e σ M fun d M1 => wpE F W o σ M1 fun x M2 => ∃ p fs, x = .mr p ∧ M2 p = some (.ins c fs) ∧ fs.length < 1000 ∧ q.nx σ (mput M2 p (.ins c (putD f d fs)))
  | .tryB i f es _ ys, σ, M, q => wpA F (fun _ _ => False) es σ M fun ds M1 => F.call f ds M1 (fun _ M2 => q.nx σ M2) fun c' M2 => c' ∈ ys ∧ q.nx (σ.set i (some (.bl true))) M2
  | .tryF i j f es _ ys cs, σ, M, q => i < σ.length ∧ j < σ.length ∧ wpA F (fun _ _ => False) es σ M fun ds M1 => F.call f ds M1 (fun _ M2 => q.nx σ M2) fun c' M2 => c' ∈ ys ∧ ∀ a, M2 a = none → q.nx ((σ.set i (some (.mr a))).set j none) (mput M2 a (.lst ((cs.map fun c => D.bl (decide (c' = c))) ++ [.bl false])))
  | .fix i, σ, M, q => ∃ d P d', σ[i]? = some (some d) ∧ FrzTo P M d d' ∧ q.nx (σ.set i (some d')) (restr P M)
end
end Ev

/-! Ev, part C: the operations by values. -/
namespace Ev
open PySem PySem.Spec PyProof.Rows L2

/-- what is wanted of data reaches what is wanted of values -/
def Rz (G : Gx) (M : Mem) (H : Hp) (Q0 : VQ) (Q : VK) : Prop := ∀ d M' v H', Q0 d M' → OkM G M' H' → Rep G M' H' d v → Ext M H M' H' → Q v H'
section
variable {G : Gx} {M : Mem} {H : Hp} {Q0 : VQ} {Q : VK}
theorem Rz.now (z : Rz G M H Q0 Q) (ok : OkM G M H) {d : D} {v : V} (h : Q0 d M) (r : Rep G M H d v) : Q v H := z d M v H h ok r Ext.refl
theorem Rz.on {M1 : Mem} {H1 : Hp} (z : Rz G M H Q0 Q) (x : Ext M H M1 H1) : Rz G M1 H1 Q0 Q := fun d M' v H' a b c e => z d M' v H' a b c (x.trans e)
theorem rep_lst {x : D} {v : V} {ds : List D} (ok : OkM G M H) (r : Rep G M H x v) (h : lstOf M x = some ds) : ∃ p vs, v = .ref p ∧ SqL G.K H p vs ∧ RepL G M H ds vs := by
  cases x with
  | lst es =>
    cases h
    obtain ⟨a, vs, e, m, q, rl⟩ := r
    exact ⟨a, vs, e, SqL.of q, rl⟩
  | scr es =>
    cases h
    obtain ⟨a, vs, e, q, rl⟩ := r
    refine ⟨a, vs, e, ?_, rl⟩
    rcases q with ⟨_, o, q⟩ | q
    · exact .inl (.inr ⟨o, q⟩)
    · exact .inr q
  | mr a =>
    have e : v = .ref a := r
    unfold lstOf at h
    simp only at h
    split at h
    · rename_i es he
      cases h
      obtain ⟨u, q, vs, eu, rl⟩ := ok a _ he
      subst eu
      exact ⟨a, vs, e, SqL.of q, rl⟩
    · cases h
  | _ => cases h
theorem rep_own {x : D} {v : V} {ds : List D} (ok : OkM G M H) (r : Rep G M H x v) (h : ownL M x = some ds) : ∃ p vs, v = .ref p ∧ H p = some (.lst vs) ∧ RepL G M H ds vs := by
  cases x with
  | lst es =>
    cases h
    obtain ⟨a, vs, e, m, q, rl⟩ := r
    exact ⟨a, vs, e, q, rl⟩
  | mr a =>
    have e : v = .ref a := r
    unfold ownL at h
    simp only at h
    split at h
    · rename_i es he
      cases h
      obtain ⟨u, q, vs, eu, rl⟩ := ok a _ he
      subst eu
      exact ⟨a, vs, e, q, rl⟩
    · cases h
  | _ => cases h
theorem rep_tup {x : D} {v : V} {ds : List D} (r : Rep G M H x v) (h : tupOf x = some ds) : ∃ p vs, v = .ref p ∧ SqT G.K H p vs ∧ RepL G M H ds vs := by
  cases x with
  | tup es =>
    cases h
    obtain ⟨a, vs, e, m, q, rl⟩ := r
    exact ⟨a, vs, e, SqT.of q, rl⟩
  | kt es =>
    cases h
    obtain ⟨a, vs, e, q, rl⟩ := r
    exact ⟨a, vs, e, .inr q, rl⟩
  | ft es =>
    cases h
    obtain ⟨a, vs, e, m, ⟨o, q, c⟩, rl⟩ := r
    exact ⟨a, vs, e, .inl (.inr ⟨o, q⟩), rl⟩
  | _ => cases h
theorem rep_seq {x : D} {v : V} {ds : List D} (ok : OkM G M H) (r : Rep G M H x v) (h : seqOf M x = some ds) : ∃ p vs, v = .ref p ∧ (SqL G.K H p vs ∨ SqT G.K H p vs) ∧ RepL G M H ds vs := by
  unfold seqOf at h
  cases e : lstOf M x with
  | some es =>
    rw [e] at h; cases h
    obtain ⟨p, vs, a, b, c⟩ := rep_lst ok r e
    exact ⟨p, vs, a, .inl b, c⟩
  | none =>
    rw [e] at h
    obtain ⟨p, vs, a, b, c⟩ := rep_tup r (show tupOf x = some ds from h)
    exact ⟨p, vs, a, .inr b, c⟩
theorem newL_ok {m : Bool} {ds : List D} {vs : List V} (ok : OkM G M H) (r : RepL G M H ds vs) (h : newL m ds M Q0) (z : Rz G M H Q0 Q) {p : Addr} (hp : H p = none) : Q (.ref p) (upd H p (.lst vs)) := by
  obtain ⟨hz, h⟩ := h
  cases m with
  | true =>
    have h' := h p (ok.dom hp)
    exact z _ _ _ _ h' (ok.newM hp ⟨vs, rfl, r⟩) rfl (Ext.newM hp)
  | false => exact z _ _ _ _ h (ok.new hp) ⟨p, vs, rfl, ok.dom hp, upd_same, r.ext (Ext.new hp)⟩ (Ext.new hp)
theorem newT_ok {ds : List D} {vs : List V} (ok : OkM G M H) (r : RepL G M H ds vs) (h : Q0 (.tup ds) M) (z : Rz G M H Q0 Q) {p : Addr} (hp : H p = none) : Q (.ref p) (upd H p (.tup vs)) :=
  z _ _ _ _ h (ok.new hp) ⟨p, vs, rfl, ok.dom hp, upd_same, r.ext (Ext.new hp)⟩ (Ext.new hp)
theorem newF_ok {ds : List D} {vs : List V} (ok : OkM G M H) (r : RepL G M H ds vs) (h : Q0 (.ft ds) M) (z : Rz G M H Q0 Q) {p : Addr} {o : Obj} (hp : H p = none) (hc : o.cls = .type "tuple") (hd : o.dict = none) : Q (.ref p) (upd H p (.frz o (.tup vs))) :=
  z _ _ _ _ h (ok.new hp) ⟨p, vs, rfl, ok.dom hp, ⟨o, upd_same, hc, hd⟩, r.ext (Ext.new hp)⟩ (Ext.new hp)

/-! ### binary operators -/
def rAddAll (K : PySem.W.Frag) : R2 := fun x y H Q => rI0 (fun i j => .int (i + j)) x y H Q ∨ (∃ i j, x = .str i ∧ y = .str j ∧ i.length + j.length ≤ sizeLine ∧ Q (.str (i ++ j)) H) ∨ rCatA K x y H Q ∨ rCat x y H Q
theorem op_addAll {X : Cx} : OpR X (binaryOp .Add) (rAddAll X.K) := op_add.or (op_add_str.or (op_catA.or op_cat))
def rMulAll : R2 := fun x y H Q => rI CMul (fun i j => .int (i * j)) x y H Q ∨ rI CMulW (fun i j => .int (i * j)) x y H Q ∨ rRep x y H Q
theorem op_mulAll {X : Cx} : OpR X (binaryOp .Mult) rMulAll := op_mul.or (op_mulW.or op_rep)
def rFdivAll : R2 := fun x y H Q => rI CDiv (fun i j => .int (i / j)) x y H Q ∨ rI CDivW (fun i j => .int (i / j)) x y H Q
theorem op_fdivAll {X : Cx} : OpR X (binaryOp .FloorDiv) rFdivAll := op_fdiv.or op_fdivW
/-- the rule of each operator -/
def rBin (K : PySem.W.Frag) : Operator → R2
  | .Add => rAddAll K
  | .Sub => rI0 fun i j => .int (i - j)
  | .Mult => rMulAll
  | .FloorDiv => rFdivAll
  | .Mod => rI (fun _ j => 0 < j) fun i j => .int (i % j)
  | .Pow => rI CPow fun i j => .int (i ^ j.toNat)
  | .RShift => rI (fun _ j => 0 ≤ j) fun i j => .int (i / 2 ^ j.toNat)
  | .LShift => rI CPow fun i j => .int (i * 2 ^ j.toNat)
  | .BitAnd => rI0 fun i j => .int (PySem.Builtin.bitAnd i j)
  | _ => fun _ _ _ _ => False
theorem op_bin {X : Cx} (op : Operator) : OpR X (binaryOp op) (rBin X.K op) := by
  cases op with
  | Add => exact op_addAll
  | Sub => exact op_sub
  | Mult => exact op_mulAll
  | FloorDiv => exact op_fdivAll
  | Mod => exact op_mod
  | Pow => exact op_pow
  | RShift => exact op_shr
  | LShift => exact op_shl
  | BitAnd => exact op_and
  | _ => intro _ _ _ _ _ _ _ _ _ _ _ _ h; exact h.elim
theorem bin_ok {op : Operator} {m : Bool} {x y : D} {xv yv : V} (ok : OkM G M H) (rx : Rep G M H x xv) (ry : Rep G M H y yv) (h : binQ op m M x y Q0) (z : Rz G M H Q0 Q) : rBin G.K op xv yv H Q := by
  unfold binQ at h
  split at h
  · have e1 : xv = .int _ := rx
    have e2 : yv = .int _ := ry
    subst e1; subst e2
    exact .inl ⟨_, _, rfl, rfl, z.now ok h rfl⟩
  · have e1 : xv = .str _ := rx
    have e2 : yv = .str _ := ry
    subst e1; subst e2
    exact .inr (.inl ⟨_, _, rfl, rfl, h.1, z.now ok h.2 rfl⟩)
  · rename_i ds es
    obtain ⟨hz, h⟩ := h
    obtain ⟨a, vs, rfl, ma, qa, ra⟩ := id rx
    obtain ⟨b, us, rfl, mb, qb, rb⟩ := id ry
    have l1 := ra.length
    have l2 := rb.length
    refine .inr (.inr (.inl ⟨a, b, vs, us, rfl, rfl, SqT.of qa, SqT.of qb, by omega, fun e => ?_, fun _ e => ?_, fun _ _ p hp => ?_⟩))
    · subst e
      have : ds = [] := List.length_eq_zero_iff.mp (by simpa using l1)
      subst this
      exact z.now ok (d := .tup es) (by simpa using h) ry
    · subst e
      have : es = [] := List.length_eq_zero_iff.mp (by simpa using l2)
      subst this
      exact z.now ok (d := .tup ds) (by simpa using h) rx
    · exact newT_ok ok (ra.append rb) h z hp
  · obtain ⟨ds, es, h1, h2, h⟩ := h
    obtain ⟨a, vs, rfl, qa, ra⟩ := rep_own ok rx h1
    obtain ⟨b, us, rfl, qb, rb⟩ := rep_own ok ry h2
    have l1 := ra.length
    have l2 := rb.length
    refine .inr (.inr (.inr ⟨a, b, vs, us, rfl, rfl, qa, qb, ?_, fun p hp => newL_ok ok (ra.append rb) h z hp⟩))
    have := h.1
    rw [List.length_append] at this
    omega
  · have e1 : xv = .int _ := rx
    have e2 : yv = .int _ := ry
    subst e1; subst e2
    exact ⟨_, _, rfl, rfl, z.now ok h rfl⟩
  · have e1 : xv = .int _ := rx
    have e2 : yv = .int _ := ry
    subst e1; subst e2
    obtain ⟨c, h⟩ := h
    rcases c with c | c
    · exact .inl ⟨_, _, rfl, rfl, c, z.now ok h rfl⟩
    · exact .inr (.inl ⟨_, _, rfl, rfl, c, z.now ok h rfl⟩)
  · obtain ⟨ds, h1, b1, b2, h⟩ := h
    have e2 : yv = .int _ := ry
    subst e2
    obtain ⟨a, vs, rfl, qa, ra⟩ := rep_own ok rx h1
    refine .inr (.inr ⟨a, _, vs, rfl, rfl, qa, b1, b2, ?_, fun p hp => newL_ok ok (ra.rep _) h z hp⟩)
    have := h.1
    rw [(ra.rep _).length, List.length_flatten] at this
    simpa [Nat.mul_comm] using this
  · have e1 : xv = .int _ := rx
    have e2 : yv = .int _ := ry
    subst e1; subst e2
    obtain ⟨c, h⟩ := h
    rcases c with c | c
    · exact .inl ⟨_, _, rfl, rfl, c, z.now ok h rfl⟩
    · exact .inr ⟨_, _, rfl, rfl, c, z.now ok h rfl⟩
  all_goals first
    | (have e1 : xv = .int _ := rx
       have e2 : yv = .int _ := ry
       subst e1; subst e2
       first
       | exact ⟨_, _, rfl, rfl, h.1, z.now ok h.2 rfl⟩
       | exact ⟨_, _, rfl, rfl, z.now ok h rfl⟩)
    | exact h.elim

/-! ### comparisons -/
mutual
theorem dp_of (ok : OkM G M H) : ∀ (d : D) (v : V), pureD d = true → Rep G M H d v → Dp G.K H v (toPy d)
  | .non, v, _, r => by have e : v = .non := r; subst e; exact .non
  | .bl b, v, _, r => by have e : v = .bl b := r; subst e; exact .bl b
  | .int i, v, _, r => by have e : v = .int i := r; subst e; exact .int i
  | .str x, v, _, r => by have e : v = .str x := r; subst e; exact .str x
  | .mr a, _, p, _ => by unfold pureD at p; cases p
  | .tup ds, v, p, r => by
    obtain ⟨a, vs, e, m, q, rl⟩ := r
    subst e
    unfold pureD at p
    unfold toPy
    exact .tup (SqT.of q) (dps_of ok ds vs p rl)
  | .kt ds, v, p, r => by
    obtain ⟨a, vs, e, q, rl⟩ := r
    subst e
    unfold pureD at p
    unfold toPy
    exact .tup (.inr q) (dps_of ok ds vs p rl)
  | .ft ds, v, p, r => by
    obtain ⟨a, vs, e, m, ⟨o, q, c⟩, rl⟩ := r
    subst e
    unfold pureD at p
    unfold toPy
    exact .tup (.inl (.inr ⟨o, q⟩)) (dps_of ok ds vs p rl)
  | .lst ds, v, p, r => by
    obtain ⟨a, vs, e, m, q, rl⟩ := r
    subst e
    unfold pureD at p
    unfold toPy
    exact .lst (SqL.of q) (dps_of ok ds vs p rl)
  | .scr ds, v, p, r => by
    obtain ⟨a, vs, e, q, rl⟩ := r
    subst e
    unfold pureD at p
    unfold toPy
    refine .lst ?_ (dps_of ok ds vs p rl)
    rcases q with ⟨_, o, q⟩ | q
    · exact .inl (.inr ⟨o, q⟩)
    · exact .inr q
theorem dps_of (ok : OkM G M H) : ∀ (ds : List D) (vs : List V), pureL ds = true → RepL G M H ds vs → DpAll G.K H vs (toPyL ds)
  | [], vs, _, r => by have e : vs = [] := r; subst e; exact .nil
  | d :: ds, vs, p, r => by
    obtain ⟨v, r', e, a, b⟩ := r
    subst e
    unfold pureL at p
    rw [Bool.and_eq_true] at p
    exact .cons (dp_of ok d v p.1 a) (dps_of ok ds r' p.2 b)
end
theorem dp_drf (ok : OkM G M H) {d : D} {v : V} (p : pureD (drf M d) = true) (r : Rep G M H d v) : Dp G.K H v (toPy (drf M d)) := by
  cases d with
  | mr a =>
    have e : v = .ref a := r
    subst e
    unfold drf at p ⊢
    simp only at p ⊢
    split
    · rename_i ds h
      rw [h] at p
      obtain ⟨u, q, vs, eu, rl⟩ := ok a _ h
      subst eu
      simp only at p
      unfold pureD at p
      unfold toPy
      exact .lst (SqL.of q) (dps_of ok ds vs p rl)
    · rename_i hn
      exfalso
      cases e : M a with
      | none => rw [e] at p; simp [pureD] at p
      | some o =>
        cases o with
        | lst ds => exact hn ds e
        | _ => rw [e] at p; simp [pureD] at p
  | _ => exact dp_of ok _ _ p r
/-- two lists of unlike lengths -/
def rEqLen (K : PySem.W.Frag) (t : Bool) : R2 := fun x y H Q => ∃ a b xs ys, x = .ref a ∧ y = .ref b ∧ SqL K H a xs ∧ SqL K H b ys ∧ xs.length ≠ ys.length ∧ Q (.bl t) H
theorem op_eqLen {X : Cx} (hu : X.A.units < cLine) : OpR X (compareOp .Eq) (rEqLen X.K false) := by
  intro pins s σ H x y v u Q I rx ry h
  obtain ⟨a, b, xs, ys, rfl, rfl, sa, sb, hn, q⟩ := h
  obtain rfl : v = Value.ref a := rx
  obtain rfl : u = Value.ref b := ry
  obtain ⟨ia, ra, ⟨o, n, ho, hc, _, hd⟩, _⟩ := I.list sa
  obtain ⟨ib, rb, ⟨o2, n2, ho2, hc2, _, hd2⟩, _⟩ := I.list sb
  have la := ra.length
  have lb := rb.length
  exact PySem.SeqAt.eq_list_lengthsAt (l := a) (b := b) (items := ia.toArray) (items2 := ib.toArray) ⟨o, ho, hc, n, hd⟩ ⟨o2, ho2, hc2, n2, hd2⟩ (by simp; omega) hu ⟨.bl false, H, I, rfl, q⟩
theorem op_neLen {X : Cx} (hu : X.A.units < cLine) : OpR X (compareOp .NotEq) (rEqLen X.K true) := by
  intro pins s σ H x y v u Q I rx ry h
  obtain ⟨a, b, xs, ys, rfl, rfl, sa, sb, hn, q⟩ := h
  obtain rfl : v = Value.ref a := rx
  obtain rfl : u = Value.ref b := ry
  obtain ⟨ia, ra, ⟨o, n, ho, hc, _, hd⟩, _⟩ := I.list sa
  obtain ⟨ib, rb, ⟨o2, n2, ho2, hc2, _, hd2⟩, _⟩ := I.list sb
  have la := ra.length
  have lb := rb.length
  exact PySem.SeqAt.RcNeAt.lists_lengths (l := a) (b := b) (items := ia.toArray) (items2 := ib.toArray) ⟨o, ho, hc, n, hd⟩ ⟨o2, ho2, hc2, n2, hd2⟩ (by simp; omega) hu _ _ _ _ ⟨.bl true, H, I, rfl, q⟩
def rEqAll (K : PySem.W.Frag) : R2 := fun x y H Q => ((rEq x y H Q ∨ rEqD K x y H Q) ∨ rEqDA x y H Q) ∨ rEqLen K false x y H Q
theorem op_eqAll {X : Cx} (hu : X.A.units + 64 < cLine) : OpR X (compareOp .Eq) (rEqAll X.K) := ((op_eq.or (op_eqD hu)).or (op_eq_dictA (by omega))).or (op_eqLen (by omega))
def rNeAll (K : PySem.W.Frag) : R2 := fun x y H Q => ((rNe x y H Q ∨ rNeD K x y H Q) ∨ rNeDA x y H Q) ∨ rEqLen K true x y H Q
theorem op_neAll {X : Cx} (hu : X.A.units + 64 < cLine) : OpR X (compareOp .NotEq) (rNeAll X.K) := ((op_ne.or (op_neD hu)).or (op_ne_dictA (by omega))).or (op_neLen (by omega))
theorem flat_rep {d : D} {v : V} (f : flatD d = true) (r : Rep G M H d v) : flatV v = true ∧ ∀ e u, flatD e = true → Rep G M H e u → eqV v u = deq d e := by
  have key : ∀ e u, flatD e = true → Rep G M H e u → u = (match e with | .non => V.non | .bl b => V.bl b | .int i => V.int i | .str x => V.str x | _ => V.non) := by
    intro e u fe re
    cases e <;> first | exact re | cases fe
  have e0 := key d v f r
  refine ⟨?_, fun e u fe re => ?_⟩
  · subst e0
    cases d <;> first | rfl | (simp [flatD] at f; done)
  · have e1 := key e u fe re
    subst e0 e1
    cases d <;> first | (simp [flatD] at f; done) | (cases e <;> first | (simp [flatD] at fe; done) | simp [eqV, deq, toPy, PyData.eqv])
theorem repK_map {κ : Type} [DecidableEq κ] (k : κ) : ∀ {kvs : List (κ × D)} {vs : List (κ × V)}, RepK G M H kvs vs → (∀ d, getK kvs k = some d → ∃ v, valV vs k = some v ∧ Rep G M H d v) ∧ (getK kvs k = none → valV vs k = none)
  | [], vs, r => by have e : vs = [] := r; subst e; exact ⟨fun d h => by simp [getK] at h, fun _ => rfl⟩
  | (k', d') :: kvs, vs, r => by
    obtain ⟨v, r', e, a, b⟩ := r
    subst e
    obtain ⟨h1, h2⟩ := repK_map k b
    by_cases e : k' = k
    · subst e
      have e1 : getK ((k', d') :: kvs) k' = some d' := by simp [getK]
      rw [valV_pos (p := (k', v)) rfl]
      refine ⟨fun d h => ?_, fun h => ?_⟩
      · rw [e1] at h; cases h; exact ⟨v, rfl, a⟩
      · rw [e1] at h; cases h
    · have e1 : getK ((k', d') :: kvs) k = getK kvs k := by simp [getK, e]
      rw [valV_neg (p := (k', v)) e, e1]
      exact ⟨h1, h2⟩
theorem repK_len {κ : Type} : ∀ {kvs : List (κ × D)} {vs : List (κ × V)}, RepK G M H kvs vs → kvs.length = vs.length
  | [], vs, r => by have e : vs = [] := r; subst e; rfl
  | (k, d) :: kvs, vs, r => by
    obtain ⟨v, r', e, a, b⟩ := r
    subst e
    simp [repK_len b]
theorem flat_v {d : D} {v u : V} (f : flatD d = true) (r : Rep G M H d v) (q : Rep G M H d u) : v = u ∧ flatB v = true := by
  cases d <;> first | (simp [flatD] at f; done) | (have e1 := r; have e2 := q; unfold Rep at e1 e2; subst e1 e2; exact ⟨rfl, rfl⟩)
theorem repK_flat {ls : List (Key × D)} {vs2 : List (Key × V)} (rl : RepK G M H ls vs2) : ∀ {ks : List (Key × D)} {vs : List (Key × V)}, RepK G M H ks vs → (∀ p ∈ ks, getK ls p.1 = some p.2 ∧ flatD p.2 = true) → ∀ p ∈ vs, valV vs2 p.1 = some p.2 ∧ flatB p.2 = true
  | [], vs, r, _ => by have e : vs = [] := r; subst e; intro p hp; cases hp
  | (k, d) :: ks, vs, r, hp => by
    obtain ⟨v, r', e, a, b⟩ := r
    subst e
    intro p hm
    rcases List.mem_cons.mp hm with rfl | hm
    · obtain ⟨h1, h2⟩ := hp (k, d) List.mem_cons_self
      obtain ⟨v', e1, rv⟩ := (repK_map k rl).1 d h1
      obtain ⟨e2, fb⟩ := flat_v h2 a rv
      exact ⟨by rw [e1, e2], fb⟩
    · exact repK_flat rl b (fun q hq => hp q (List.mem_cons_of_mem _ hq)) p hm
/-! ### freezing -/
theorem restr_ext {M M1 : Mem} {H : Hp} : Ext M1 H (restr M M1) H := fun a h u e => ⟨e, by unfold restr; split <;> first | exact h | rfl⟩
theorem restr_from {M M1 : Mem} {H H1 : Hp} (e : Ext M H M1 H1) : Ext M H (restr M M1) H1 := fun a h u q => ⟨(e a h u q).1, by unfold restr; rw [h]; rfl⟩
theorem restr_ok {M M1 : Mem} {H : Hp} (ok : OkM G M1 H) : OkM G (restr M M1) H := fun a o e => by
  have h : M1 a = some o := by
    unfold restr at e
    split at e
    · exact e
    · cases e
  obtain ⟨u, q, r⟩ := ok a o h
  exact ⟨u, q, r.ext restr_ext⟩
mutual
theorem frz_rep {M M1 : Mem} {H : Hp} {d d' : D} (ok : OkM G M1 H) (f : FrzTo M M1 d d') : ∀ {v : V}, Rep G M1 H d v → Rep G (restr M M1) H d' v := by
  intro v r
  match f with
  | .refl d => exact r.ext restr_ext
  | .lst h1 h2 h3 =>
    rename_i a ds es
    have e : v = .ref a := r
    obtain ⟨u, q, vs, eu, rl⟩ := ok a _ h2
    subst eu
    exact ⟨a, vs, e, by unfold restr; rw [h1]; rfl, q, frz_repL ok h3 rl⟩
  | .tup h3 =>
    unfold Rep at r ⊢
    obtain ⟨a, vs, e, m, q, rl⟩ := r
    exact ⟨a, vs, e, by unfold restr; split <;> first | exact m | rfl, q, frz_repL ok h3 rl⟩
  | .lsl h3 =>
    unfold Rep at r ⊢
    obtain ⟨a, vs, e, m, q, rl⟩ := r
    exact ⟨a, vs, e, by unfold restr; split <;> first | exact m | rfl, q, frz_repL ok h3 rl⟩
theorem frz_repL {M M1 : Mem} {H : Hp} {ds es : List D} (ok : OkM G M1 H) (f : FrzL M M1 ds es) : ∀ {vs : List V}, RepL G M1 H ds vs → RepL G (restr M M1) H es vs := by
  intro vs r
  match f with
  | .nil => unfold RepL at r ⊢; exact r
  | .cons f1 f2 =>
    unfold RepL at r
    obtain ⟨v, w, rfl, a, b⟩ := r
    exact RepL.cons (frz_rep ok f1 a) (frz_repL ok f2 b)
end
/-- of the question of a Bool -/
theorem eq_ok {x y : D} {xv yv : V} {k : Bool → Prop} {f : Bool → Bool} (ok : OkM G M H) (rx : Rep G M H x xv) (ry : Rep G M H y yv) (h : eqQ M x y fun b => k (f b)) :
    ((scal xv yv = true ∧ k (f (decide (xv = yv)))) ∨ ∃ d e, Dp G.K H xv d ∧ Dp G.K H yv e ∧ SeqAt.shaped d = true ∧ SeqAt.shaped e = true ∧ k (f (PyData.eqv d e))) ∨
    ((∃ a b ks ls, xv = .ref a ∧ yv = .ref b ∧ H a = some (.dK ks) ∧ H b = some (.dK ls) ∧ ks.length = ls.length ∧ (∀ p ∈ ks, valV ls p.1 = some p.2 ∧ flatB p.2 = true)) ∧ k (f true)) ∨
    ((∃ a b xs ys, xv = .ref a ∧ yv = .ref b ∧ SqL G.K H a xs ∧ SqL G.K H b ys ∧ xs.length ≠ ys.length) ∧ k (f false)) := by
  unfold eqQ at h
  split at h
  · have e1 : xv = .int _ := rx
    have e2 : yv = .int _ := ry
    subst e1; subst e2
    refine .inl (.inl ⟨rfl, ?_⟩)
    rename_i i j
    have : decide (V.int i = V.int j) = decide (i = j) := by simp
    rw [this]; exact h
  · have e1 : xv = .str _ := rx
    have e2 : yv = .str _ := ry
    subst e1; subst e2
    refine .inl (.inl ⟨rfl, ?_⟩)
    rename_i i j
    have : decide (V.str i = V.str j) = decide (i = j) := by simp
    rw [this]; exact h
  · have e1 : xv = .bl _ := rx
    have e2 : yv = .bl _ := ry
    subst e1; subst e2
    refine .inl (.inl ⟨rfl, ?_⟩)
    rename_i i j
    have : decide (V.bl i = V.bl j) = decide (i = j) := by simp
    rw [this]; exact h
  · rcases h with ⟨⟨p1, s1⟩, ⟨p2, s2⟩, h⟩ | ⟨ks, ls, hk, hl, hn, hp, h⟩
    · exact .inl (.inr ⟨_, _, dp_drf ok p1 rx, dp_drf ok p2 ry, s1, s2, h⟩)
    · obtain ⟨u, qu, vs, eu, rk⟩ := ok _ _ hk
      subst eu
      obtain ⟨u2, qu2, vs2, eu2, rl⟩ := ok _ _ hl
      subst eu2
      refine .inr (.inl ⟨⟨_, _, vs, vs2, rx, ry, qu, qu2, by rw [← repK_len rk, ← repK_len rl]; exact hn, repK_flat rl rk hp⟩, h⟩)
  · rcases h with ⟨⟨p1, s1⟩, ⟨p2, s2⟩, h⟩ | ⟨d, ds, hm, h⟩
    · exact .inl (.inr ⟨_, _, dp_drf ok p1 rx, dp_drf ok (show pureD (drf M (.lst [])) = true from p2) ry, s1, s2, h⟩)
    · obtain ⟨p, us, e, sq, rl⟩ := rep_lst ok rx (show lstOf M (.mr _) = some (d :: ds) by simp [lstOf, hm])
      obtain ⟨p2, us2, e2, sq2, rl2⟩ := rep_lst ok ry (show lstOf M (.lst []) = some [] from rfl)
      refine .inr (.inr ⟨⟨p, p2, us, us2, e, e2, sq, sq2, ?_⟩, h⟩)
      have := rl.length
      have := rl2.length
      simp only [List.length_cons, List.length_nil] at *
      omega
  · rcases h with ⟨⟨p1, s1⟩, ⟨p2, s2⟩, h⟩ | ⟨x', f, ⟨p1, s1⟩, ⟨p2, s2⟩, h⟩
    · exact .inl (.inr ⟨_, _, dp_drf ok p1 rx, dp_drf ok p2 ry, s1, s2, h⟩)
    · exact .inl (.inr ⟨_, _, dp_of (restr_ok ok) _ _ p1 (frz_rep ok f rx), dp_of ok _ _ p2 ry, s1, s2, h⟩)
  · obtain ⟨⟨p1, s1⟩, ⟨p2, s2⟩, h⟩ := h
    exact .inl (.inr ⟨_, _, dp_drf ok p1 rx, dp_drf ok p2 ry, s1, s2, h⟩)
def rInAll (K : PySem.W.Frag) (P : Program) (w : World) (neg : Bool) : R2 := fun x y H Q =>
  (∃ (c : Nat) (z : Str), x = .str ⟨#[c]⟩ ∧ y = .str z ∧ Q (.bl (if neg then !decide (c ∈ z.cps.toList) else decide (c ∈ z.cps.toList))) H) ∨
  (∃ a o, y = .ref a ∧ XGet P w H a x o ∧ Q (.bl (if neg then !o.isSome else o.isSome)) H) ∨ rIn K neg x y H Q ∨
  ∃ d ds, Dp K H x d ∧ Dp K H y (.list ds) ∧ SeqAt.shaped d = true ∧ SeqAt.shaped (.list ds) = true ∧ Q (.bl (if neg then !(ds.any fun z => PyData.eqv z d) else ds.any fun z => PyData.eqv z d)) H
theorem op_din {X : Cx} (hu : X.A.units + 9 < cLine) : OpR X (compareOp .In) (fun x y H Q => ∃ a o, y = .ref a ∧ XGet X.prog X.w H a x o ∧ Q (.bl o.isSome) H) := by
  intro pins s σ H x y v u Q I rx ry h
  obtain ⟨a, o, rfl, g, q⟩ := h
  have e : u = Value.ref a := ry
  subst e
  exact x_in hu I g rx fun s' I' => ⟨.bl o.isSome, H, I', rfl, q⟩
theorem op_dnotin {X : Cx} (hu : X.A.units + 9 < cLine) : OpR X (compareOp .NotIn) (fun x y H Q => ∃ a o, y = .ref a ∧ XGet X.prog X.w H a x o ∧ Q (.bl (!o.isSome)) H) := by
  intro pins s σ H x y v u Q I rx ry h
  obtain ⟨a, o, rfl, g, q⟩ := h
  have e : u = Value.ref a := ry
  subst e
  exact x_notIn hu I g rx fun s' I' => ⟨.bl (!o.isSome), H, I', rfl, q⟩
theorem op_inAll {X : Cx} (hu : X.A.units + 65 < cLine) : OpR X (compareOp .In) (rInAll X.K X.prog X.w false) :=
  op_in_sign.or ((op_din (by omega)).or (op_in_seq.or (op_inD hu)))
theorem op_notInAll {X : Cx} (hu : X.A.units + 65 < cLine) : OpR X (compareOp .NotIn) (rInAll X.K X.prog X.w true) :=
  op_notIn_sign.or ((op_dnotin (by omega)).or (op_notIn_seq.or (op_notInD hu)))
theorem flats_rep {x : D} {xv : V} (fx : flatD x = true) (rx : Rep G M H x xv) : ∀ {ds : List D} {vs : List V}, ds.all flatD = true → RepL G M H ds vs → vs.all flatV = true ∧ inV xv vs = ds.any fun z => deq z x
  | [], vs, _, r => by have e : vs = [] := r; subst e; exact ⟨rfl, rfl⟩
  | d :: ds, vs, f, r => by
    obtain ⟨v, r', e, a, b⟩ := r
    subst e
    rw [List.all_cons, Bool.and_eq_true] at f
    obtain ⟨f1, f2⟩ := flats_rep fx rx f.2 b
    obtain ⟨g1, g2⟩ := flat_rep f.1 a
    refine ⟨by rw [List.all_cons, g1, f1]; rfl, ?_⟩
    unfold inV at f2 ⊢
    rw [List.any_cons, List.any_cons, f2, g2 x xv fx rx]
theorem rep_keyD {y : D} {v : V} {k : Key} (h : keyD y = some k) (r : Rep G M H y v) : v = kV k := by
  cases y <;> first | (cases h; exact r) | cases h
theorem rep_keysD : ∀ {ds : List D} {vs : List V} {ks : List Key}, keysD ds = some ks → RepL G M H ds vs → vs = ks.map kV
  | [], vs, ks, h, r => by cases h; exact r
  | d :: ds, vs, ks, h, r => by
    obtain ⟨v, r', e, a, b⟩ := r
    subst e
    unfold keysD at h
    split at h
    · rename_i k ks' h1 h2
      cases h
      rw [rep_keyD h1 a, rep_keysD h2 b]; rfl
    · cases h
theorem rep_keyT {y : D} {v : V} {k : List Key} (h : keyT y = some k) (r : Rep G M H y v) : ∃ b, v = .ref b ∧ H b = some (.tup (k.map kV)) := by
  cases y with
  | tup ds =>
    obtain ⟨a, vs, e, m, q, rl⟩ := r
    rw [rep_keysD (show keysD ds = some k from h) rl] at q
    exact ⟨a, e, q⟩
  | _ => cases h
mutual
theorem keyAt_of : ∀ (k : NK) (v : V), Rep G M H (dOfK k) v → KeyAt H k v
  | .none, v, r => by unfold dOfK at r; unfold KeyAt; exact r
  | .num i, v, r => by unfold dOfK at r; unfold KeyAt; exact r
  | .text x, v, r => by unfold dOfK at r; unfold KeyAt; exact r
  | .tup ks, v, r => by
    unfold dOfK at r
    unfold Rep at r
    obtain ⟨a, vs, e, m, q, rl⟩ := r
    unfold KeyAt
    exact ⟨a, vs, e, q, keyAtL_of ks vs rl⟩
theorem keyAtL_of : ∀ (ks : List NK) (vs : List V), RepL G M H (dOfKs ks) vs → KeyAtL H ks vs
  | [], vs, r => by unfold dOfKs at r; unfold RepL at r; unfold KeyAtL; exact r
  | k :: ks, vs, r => by
    unfold dOfKs at r
    unfold RepL at r
    obtain ⟨v, r', e, a, b⟩ := r
    unfold KeyAtL
    exact ⟨v, r', e, keyAt_of k v a, keyAtL_of ks r' b⟩
end
theorem repN_keyed : ∀ {kvs : List (NK × D)} {us : List NE}, RepN G M H kvs us → Keyed H us
  | [], us, r => by have e : us = [] := r; subst e; intro u hu; cases hu
  | (k, d) :: kvs, us, r => by
    obtain ⟨b, v, r', e, h1, h2, h3, h4⟩ := r
    subst e
    intro u hu
    rcases List.mem_cons.mp hu with rfl | hu
    · exact ⟨keyAt_of _ _ h1, h2⟩
    · exact repN_keyed h4 u hu
theorem repN_map (k : NK) : ∀ {kvs : List (NK × D)} {us : List NE}, RepN G M H kvs us → (∀ d, getK kvs k = some d → ∃ v, nAt us k = some v ∧ Rep G M H d v) ∧ (getK kvs k = none → nAt us k = none)
  | [], us, r => by have e : us = [] := r; subst e; exact ⟨fun d h => by simp [getK] at h, fun _ => rfl⟩
  | (k', d') :: kvs, us, r => by
    obtain ⟨b, v, r', e, h1, h2, h3, h4⟩ := r
    subst e
    obtain ⟨g1, g2⟩ := repN_map k h4
    by_cases e : k' = k
    · subst e
      have e1 : getK ((k', d') :: kvs) k' = some d' := by simp [getK]
      have e2 : nAt ((k', b, v) :: r') k' = some v := by simp [nAt]
      rw [e1, e2]
      exact ⟨fun d h => by cases h; exact ⟨v, rfl, h3⟩, fun h => by cases h⟩
    · have e1 : getK ((k', d') :: kvs) k = getK kvs k := by simp [getK, e]
      have e2 : nAt ((k', b, v) :: r') k = nAt r' k := by simp [nAt, e]
      rw [e1, e2]
      exact ⟨g1, g2⟩
theorem repN_length : ∀ {kvs : List (NK × D)} {us : List NE}, RepN G M H kvs us → kvs.length = us.length
  | [], us, r => by have e : us = [] := r; subst e; rfl
  | (k, d) :: kvs, us, r => by
    obtain ⟨b, v, r', e, h1, h2, h3, h4⟩ := r
    subst e
    simp [repN_length h4]
theorem repN_any (k : NK) : ∀ {kvs : List (NK × D)} {us : List NE}, RepN G M H kvs us → (kvs.any fun kv => decide (kv.1 = k)) = (nAt us k).isSome
  | [], us, r => by have e : us = [] := r; subst e; rfl
  | (k', d) :: kvs, us, r => by
    obtain ⟨b, v, r', e, h1, h2, h3, h4⟩ := r
    subst e
    rw [List.any_cons, repN_any k h4]
    by_cases e : k' = k
    · subst e; simp [nAt]
    · simp [nAt, e]
theorem repN_repl (k : NK) {d : D} {u : V} (rd : Rep G M H d u) : ∀ {kvs : List (NK × D)} {us : List NE}, RepN G M H kvs us →
    RepN G M H (kvs.map fun kv => if kv.1 = k then (kv.1, d) else kv) (us.map fun x => if x.1 = k then (x.1, x.2.1, u) else x)
  | [], us, r => by have e : us = [] := r; subst e; rfl
  | (k', d') :: kvs, us, r => by
    obtain ⟨b, v, r', e, h1, h2, h3, h4⟩ := r
    subst e
    rw [List.map_cons, List.map_cons]
    by_cases e : k' = k
    · simp only [e, if_true]
      exact ⟨b, u, _, rfl, e ▸ h1, e ▸ h2, rd, repN_repl k rd h4⟩
    · simp only [e, if_false]
      exact ⟨b, v, _, rfl, h1, h2, h3, repN_repl k rd h4⟩
theorem repN_snoc {k : NK} {d : D} {b : Addr} {u : V} (rk : Rep G M H (dOfK k) (.ref b)) (hk : k.depth ≤ 8) (rd : Rep G M H d u) : ∀ {kvs : List (NK × D)} {us : List NE}, RepN G M H kvs us → RepN G M H (kvs ++ [(k, d)]) (us ++ [(k, b, u)])
  | [], us, r => by have e : us = [] := r; subst e; exact ⟨b, u, [], rfl, rk, hk, rd, rfl⟩
  | (k', d') :: kvs, us, r => by
    obtain ⟨b', v, r', e, h1, h2, h3, h4⟩ := r
    subst e
    exact ⟨b', v, _, rfl, h1, h2, h3, repN_snoc rk hk rd h4⟩
theorem repN_put {k : NK} {d : D} {b : Addr} {u : V} (rk : Rep G M H (dOfK k) (.ref b)) (hk : k.depth ≤ 8) (rd : Rep G M H d u) {kvs : List (NK × D)} {us : List NE} (r : RepN G M H kvs us) : RepN G M H (setK kvs k d) (nPut us k b u) := by
  unfold setK nPut
  rw [repN_any k r]
  split
  · exact repN_repl k rd r
  · exact repN_snoc rk hk rd r
theorem rep_keyNT {y : D} {v : V} {k : NK} (h : keyNT y = some k) (r : Rep G M H y v) : ∃ b, v = .ref b ∧ KeyRef H k b := by
  obtain ⟨h1, h2, ds, e⟩ := keyNT_d h
  subst e
  obtain ⟨a, vs, e, m, q, rl⟩ := id r
  subst e
  exact ⟨a, rfl, keyAt_of k _ (by rw [h1]; exact r), h2⟩
theorem dget_ok {x y : D} {xv yv : V} {o : Option D} (ok : OkM G M H) (rx : Rep G M H x xv) (ry : Rep G M H y yv) (h : dget M x y = some o) :
    ∃ a w, xv = .ref a ∧ XGet G.P G.w H a yv w ∧ (∀ d, o = some d → ∃ v, w = some v ∧ Rep G M H d v) ∧ (o = none → w = none) := by
  unfold dget at h
  split at h
  · rename_i a
    have e : xv = .ref a := rx
    subst e
    split at h
    · rename_i kvs hm
      cases hk : keyD y with
      | none => rw [hk] at h; cases h
      | some k =>
        rw [hk] at h
        cases h
        obtain ⟨u, q, vs, eu, rk⟩ := ok a _ hm
        subst eu
        obtain ⟨h1, h2⟩ := repK_map k rk
        rw [rep_keyD hk ry]
        exact ⟨a, _, rfl, .inl (DGet.k q), h1, h2⟩
    · rename_i kvs hm
      cases hk : keyT y with
      | none => rw [hk] at h; cases h
      | some k =>
        rw [hk] at h
        cases h
        obtain ⟨u, q, vs, eu, rk⟩ := ok a _ hm
        subst eu
        obtain ⟨h1, h2⟩ := repK_map k rk
        obtain ⟨b, e2, qb⟩ := rep_keyT hk ry
        subst e2
        exact ⟨a, _, rfl, .inl (DGet.t q qb), h1, h2⟩
    · rename_i kvs hm
      cases hk : keyNT y with
      | none => rw [hk] at h; cases h
      | some k =>
        rw [hk] at h
        cases h
        obtain ⟨u, q, us, eu, rk⟩ := ok a _ hm
        subst eu
        obtain ⟨h1, h2⟩ := repN_map k rk
        obtain ⟨b, e2, kr⟩ := rep_keyNT hk ry
        subst e2
        exact ⟨a, _, rfl, .inr ⟨us, k, b, Rd.of q, repN_keyed rk, rfl, kr, rfl⟩, h1, h2⟩
    · rename_i ob kvs hm
      cases hk : keyNT y with
      | none => rw [hk] at h; cases h
      | some k =>
        rw [hk] at h
        cases h
        obtain ⟨u, q, us, eu, rk⟩ := ok a _ hm
        subst eu
        obtain ⟨h1, h2⟩ := repN_map k rk
        obtain ⟨b, e2, kr⟩ := rep_keyNT hk ry
        subst e2
        exact ⟨a, _, rfl, .inr ⟨us, k, b, .inr ⟨ob, q⟩, repN_keyed rk, rfl, kr, rfl⟩, h1, h2⟩
    · cases h
  · cases h
theorem toPyL_any (x : D) : ∀ ds : List D, ((toPyL ds).any fun z => PyData.eqv z (toPy x)) = ds.any fun z => deq z x
  | [] => rfl
  | d :: ds => by
    unfold toPyL
    rw [List.any_cons, List.any_cons, toPyL_any x ds]
    rfl
theorem in_ok {x y : D} {xv yv : V} {neg : Bool} {k : Bool → Prop} (ok : OkM G M H) (rx : Rep G M H x xv) (ry : Rep G M H y yv) (h : inQ M x y fun b => k (if neg then !b else b)) (z : ∀ b, k b → Q (.bl b) H) :
    rInAll G.K G.P G.w neg xv yv H Q := by
  unfold inQ at h
  split at h
  · obtain ⟨c, e, h⟩ := h
    subst e
    have e1 : xv = .str ⟨#[c]⟩ := rx
    have e2 : yv = .str _ := ry
    subst e1; subst e2
    exact .inl ⟨c, _, rfl, rfl, z _ h⟩
  · split at h
    · rename_i o ho
      obtain ⟨a, w, e, g, h1, h2⟩ := dget_ok ok ry rx ho
      refine .inr (.inl ⟨a, w, e, g, ?_⟩)
      have : w.isSome = o.isSome := by
        cases o with
        | none => rw [h2 rfl]; rfl
        | some d => obtain ⟨v, e, _⟩ := h1 d rfl; rw [e]; rfl
      rw [this]
      exact z _ h
    · obtain ⟨ds, hs, h⟩ := h
      rcases h with ⟨fx, fs, h⟩ | ⟨hl, ⟨p1, s1⟩, ⟨p2, s2⟩, h⟩
      · obtain ⟨p, vs, e, sq, rl⟩ := rep_seq ok ry hs
        obtain ⟨g1, g2⟩ := flats_rep fx rx fs rl
        refine .inr (.inr (.inl ⟨p, vs, e, sq, (flat_rep fx rx).1, g1, ?_⟩))
        rw [g2]
        exact z _ h
      · obtain ⟨p, vs, e, sq, rl⟩ := rep_lst ok ry hl
        subst e
        unfold pureD at p2
        unfold toPy at s2
        refine .inr (.inr (.inr ⟨_, _, dp_of ok x xv p1 rx, .lst sq (dps_of ok ds vs p2 rl), s1, s2, ?_⟩))
        rw [toPyL_any]
        exact z _ h
/-- the rule of each comparison -/
def rCmp (K : PySem.W.Frag) (P : Program) (w : World) : CmpOp → R2
  | .Eq => rEqAll K
  | .NotEq => rNeAll K
  | .Lt => rI0 fun i j => .bl (decide (i < j))
  | .LtE => rI0 fun i j => .bl (decide (i ≤ j))
  | .Gt => rI0 fun i j => .bl (decide (j < i))
  | .GtE => rI0 fun i j => .bl (decide (j ≤ i))
  | .Is => fun x y H Q => (y = .non ∧ Q (.bl (decide (x = .non))) H) ∨ rIsB x y H Q
  | .IsNot => fun x y H Q => (y = .non ∧ Q (.bl (!decide (x = .non))) H) ∨ rNotB x y H Q
  | .In => rInAll K P w false
  | .NotIn => rInAll K P w true
theorem op_cmp {X : Cx} (hu : X.A.units + 65 < cLine) (op : CmpOp) : OpR X (compareOp op) (rCmp X.K X.prog X.w op) := by
  cases op with
  | Eq => exact op_eqAll (by omega)
  | NotEq => exact op_neAll (by omega)
  | Lt => exact op_lt
  | LtE => exact op_le
  | Gt => exact op_gt
  | GtE => exact op_ge
  | Is => exact op_isN.or op_isBl
  | IsNot => exact op_notN.or op_notBl
  | In => exact op_inAll hu
  | NotIn => exact op_notInAll hu
theorem isNon_rep {x : D} {v : V} (r : Rep G M H x v) : decide (v = .non) = isNon x := by
  cases x with
  | non => have e : v = .non := r; subst e; rfl
  | bl b => have e : v = .bl b := r; subst e; rfl
  | int b => have e : v = .int b := r; subst e; rfl
  | str b => have e : v = .str b := r; subst e; rfl
  | mr b => have e : v = .ref b := r; subst e; rfl
  | tup b => obtain ⟨a, vs, e, _⟩ := r; subst e; rfl
  | lst b => obtain ⟨a, vs, e, _⟩ := r; subst e; rfl
  | scr b => obtain ⟨a, vs, e, _⟩ := r; subst e; rfl
  | kt b => obtain ⟨a, vs, e, _⟩ := r; subst e; rfl
  | ft b => obtain ⟨a, vs, e, _⟩ := r; subst e; rfl
theorem cmp_ok {op : CmpOp} {x y : D} {xv yv : V} {k : Bool → Prop} (ok : OkM G M H) (rx : Rep G M H x xv) (ry : Rep G M H y yv) (h : cmpQ op M x y k) (z : ∀ b, k b → Q (.bl b) H) : rCmp G.K G.P G.w op xv yv H Q := by
  cases op with
  | Eq =>
    rcases eq_ok (f := id) ok rx ry h with (⟨a, b⟩ | ⟨d, e, a, b, c, g, i⟩) | ⟨⟨a, b, ks, ls, h1, h2, h3, h4, h5, h6⟩, i⟩ | ⟨⟨a, b, xs, ys, h1, h2, h3, h4, h5⟩, i⟩
    · exact .inl (.inl (.inl ⟨a, z _ b⟩))
    · exact .inl (.inl (.inr ⟨d, e, a, b, c, g, z _ i⟩))
    · exact .inl (.inr ⟨a, b, ks, ls, h1, h2, h3, h4, h5, h6, z _ i⟩)
    · exact .inr ⟨a, b, xs, ys, h1, h2, h3, h4, h5, z _ i⟩
  | NotEq =>
    rcases eq_ok (f := fun b => !b) ok rx ry h with (⟨a, b⟩ | ⟨d, e, a, b, c, g, i⟩) | ⟨⟨a, b, ks, ls, h1, h2, h3, h4, h5, h6⟩, i⟩ | ⟨⟨a, b, xs, ys, h1, h2, h3, h4, h5⟩, i⟩
    · exact .inl (.inl (.inl ⟨a, z _ b⟩))
    · exact .inl (.inl (.inr ⟨d, e, a, b, c, g, z _ i⟩))
    · exact .inl (.inr ⟨a, b, ks, ls, h1, h2, h3, h4, h5, h6, z _ i⟩)
    · exact .inr ⟨a, b, xs, ys, h1, h2, h3, h4, h5, z _ i⟩
  | Lt => obtain ⟨i, j, e1, e2, h⟩ := h; subst e1; subst e2; exact ⟨i, j, rx, ry, z _ h⟩
  | LtE => obtain ⟨i, j, e1, e2, h⟩ := h; subst e1; subst e2; exact ⟨i, j, rx, ry, z _ h⟩
  | Gt => obtain ⟨i, j, e1, e2, h⟩ := h; subst e1; subst e2; exact ⟨i, j, rx, ry, z _ h⟩
  | GtE => obtain ⟨i, j, e1, e2, h⟩ := h; subst e1; subst e2; exact ⟨i, j, rx, ry, z _ h⟩
  | Is =>
    rcases h with ⟨e, h⟩ | ⟨a, b, e1, e2, h⟩
    · subst e; exact .inl ⟨ry, by rw [isNon_rep rx]; exact z _ h⟩
    · subst e1; subst e2; exact .inr ⟨a, b, rx, ry, z _ h⟩
  | IsNot =>
    rcases h with ⟨e, h⟩ | ⟨a, b, e1, e2, h⟩
    · subst e; exact .inl ⟨ry, by rw [isNon_rep rx]; exact z _ h⟩
    · subst e1; subst e2; exact .inr ⟨a, b, rx, ry, z _ h⟩
  | In => exact in_ok (neg := false) ok rx ry (by have h : inQ M x y k := h; simpa using h) z
  | NotIn => exact in_ok (neg := true) ok rx ry (by have h : inQ M x y (fun b => k (!b)) := h; simpa using h) z
end
end Ev

/-! Ev, part D: subscripts, slices, built-in functions and methods by values. -/
namespace Ev
open PySem PySem.Spec PyProof.Rows L2

/-! ### subscripts -/
theorem tail_of {prog : Program} {w : World} {A : Around} {E : Value → Shared → Prop} {s : Shared} {value slice : Expr} {o i : Value} {T id : String} {Q : Value → Shared → Prop} (hT : s.TypeIs o T)
    (hl : typeLookup (.type T) "__getitem__" = pure (some (.builtin id))) (h : wpAny (model prog w) A (getItem o i) Q E s) (hs : subscripted slice false o i = operate [o, i] (getItem o i)) :
    wpAny (model prog w) A (subscriptTail value slice o i) Q E s := by
  unfold subscriptTail
  refine wpAny_bind ?_
  rw [getitemInPython_of_ne hT.not_modules]
  refine wpAny_bind (wpAny_specialOf hT hl ?_)
  have fin : wpAny (model prog w) A (subscripted slice false o i) (fun r t => wpAny (model prog w) A (letTemporaryGo value o r >>= fun _ => pure r) Q E t) E s := by
    rw [hs]
    exact wpAny_operating (wpAny_mono h (fun r t q => wpAny_bind (wpAny_letTemporaryGo (wpAny_pure q))) fun _ _ x => x)
  first
    | exact wpAny_pure (wpAny_bind fin)
    | exact wpAny_bind (wpAny_pure (wpAny_bind fin))
    | exact wpAny_bind fin
def rIxD (P : Program) (w : World) : R2 := fun x y H Q => ∃ a v, x = .ref a ∧ XGet P w H a y (some v) ∧ Q v H
theorem ix_dict {X : Cx} (hu : X.A.units + 9 < cLine) : IxR X (rIxD X.prog X.w) := by
  intro value slice pins s σ H x y v u Q I rx ry h hs
  obtain ⟨a, z, rfl, g, q⟩ := h
  have e : v = Value.ref a := rx
  subst e
  exact tail_of (x_typeIs I g) PySem.F.slot_dict_getitem.lookup (x_getItem hu I g ry fun w' t I' r => ⟨z, H, I', r, q⟩) hs
def rIxAll (K : PySem.W.Frag) (P : Program) (w : World) : R2 := fun x y H Q => rIxD P w x y H Q ∨ rIx K x y H Q
theorem ix_all {X : Cx} (hu : X.A.units + 9 < cLine) : IxR X (rIxAll X.K X.prog X.w) := (ix_dict hu).or ix_seq
/-- o[i] by getItem: a list, a dict -/
def rGet (K : PySem.W.Frag) (P : Program) (w : World) : V → V → Hp → VK → Prop := fun x y H Q => rIxD P w x y H Q ∨ rIxL K x y H Q
theorem pget_all {X : Cx} (hu : X.A.units + 9 < cLine) : PGet X (rGet X.K X.prog X.w) := by
  intro pins s σ H o i ov iv Q I ro ri h
  rcases h with ⟨a, v, rfl, g, q⟩ | ⟨p, xs, k, z, rfl, rfl, hq, he, q⟩
  · have e : ov = Value.ref a := ro
    subst e
    exact x_getItem hu I g ri fun w' t I' r => ⟨v, H, I', r, q⟩
  · have e : ov = Value.ref p := ro
    subst e
    obtain ⟨t, rfl⟩ := ri
    obtain ⟨its, r, pl, hz⟩ := I.list hq
    obtain ⟨j, a1, a2, a3, a4, a5⟩ := atI_get he
    obtain ⟨w, ew, rw'⟩ := r.get a2
    have hl := r.length
    have hn := line63
    have fin : EP X pins σ Q w s := ⟨z, H, I, rw', q⟩
    by_cases h0 : 0 ≤ k
    · have hj : k.toNat = j := by
        rw [seqIndex_of h0 a5] at a1
        exact Option.some.inj a1
      exact wpAny_getItem_list pl.isList h0 (by omega) (by rw [hj]; simpa using ew) fin
    · have hj : (k + (its.toArray.size : Int)).toNat = j := by
        rw [seqIndex_neg (by omega) a4] at a1
        rw [List.size_toArray, ← hl]
        exact Option.some.inj a1
      exact wpAny_getItem_list_neg pl.isList (by omega) (by rw [List.size_toArray]; omega) (by omega) (by rw [hj]; simpa using ew) fin
def rSetAll (P : Program) (w : World) : V → V → V → Hp → (Hp → Prop) → Prop := fun o i v H Q => rSetL o i v H Q ∨ ∃ a H', o = .ref a ∧ XPut P w H a i v H' ∧ Q H'
theorem pset_all {X : Cx} (hu : X.A.units + 9 < cLine) : PSet X (rSetAll X.prog X.w) := by
  intro pins s σ H o i v ov iv u Q I ro ri rv h
  rcases h with h | ⟨a, H', rfl, g, q⟩
  · exact set_list pins s σ H o i v ov iv u Q I ro ri rv h
  · have e : ov = Value.ref a := ro
    subst e
    exact x_setItem hu I g ri rv fun s' I' => ⟨H', I', q⟩

section
variable {G : Gx} {M : Mem} {H : Hp} {Q0 : VQ} {Q : VK}
theorem atI_rep {ds : List D} {vs : List V} {i : Int} {d : D} (r : RepL G M H ds vs) (h : atI ds i = some d) : ∃ v, atI vs i = some v ∧ Rep G M H d v := by
  unfold atI at h ⊢
  rw [← r.length]
  cases e : ixN ds.length i with
  | none => rw [e] at h; cases h
  | some j =>
    rw [e] at h
    exact r.get (show ds[j]? = some d from h)
theorem ix_ok {x y : D} {xv yv : V} (ok : OkM G M H) (rx : Rep G M H x xv) (ry : Rep G M H y yv) (h : ixQ M x y Q0) (z : Rz G M H Q0 Q) : rIxAll G.K G.P G.w xv yv H Q := by
  unfold ixQ at h
  split at h
  · rename_i o ho
    obtain ⟨d, e, h⟩ := h
    subst e
    obtain ⟨a, w, e, g, f1, _⟩ := dget_ok ok rx ry ho
    obtain ⟨v, ew, r⟩ := f1 d rfl
    subst ew
    exact .inl ⟨a, v, e, g, z.now ok h r⟩
  · split at h
    · obtain ⟨i, c, e, hz, ha, h⟩ := h
      subst e
      exact .inr (.inr (.inr ⟨_, i, c, rx, ry, hz, ha, z.now ok h rfl⟩))
    · obtain ⟨ds, i, d, hs, e, ha, h⟩ := h
      subst e
      obtain ⟨p, vs, e, sq, rl⟩ := rep_seq ok rx hs
      obtain ⟨v, hv, r⟩ := atI_rep rl ha
      rcases sq with sq | sq
      · exact .inr (.inl ⟨p, vs, i, v, e, ry, sq, hv, z.now ok h r⟩)
      · exact .inr (.inr (.inl ⟨p, vs, i, v, e, ry, sq, hv, z.now ok h r⟩))
/-- .. for an operator's assignment: what is read is flat (so it stands in a list or a dict) -/
theorem get_ok {x y : D} {xv yv : V} (ok : OkM G M H) (rx : Rep G M H x xv) (ry : Rep G M H y yv) (hx : ∃ a, x = .mr a) (h : ixQ M x y Q0) (z : Rz G M H Q0 Q) : rGet G.K G.P G.w xv yv H Q := by
  obtain ⟨a, rfl⟩ := hx
  unfold ixQ at h
  split at h
  · rename_i o ho
    obtain ⟨d, e, h⟩ := h
    subst e
    obtain ⟨a, w, e, g, f1, _⟩ := dget_ok ok rx ry ho
    obtain ⟨v, ew, r⟩ := f1 d rfl
    subst ew
    exact .inl ⟨a, v, e, g, z.now ok h r⟩
  · simp only at h
    obtain ⟨ds, i, d, hs, e, ha, h⟩ := h
    subst e
    have hl : lstOf M (.mr a) = some ds := by
      unfold seqOf at hs
      cases q : lstOf M (.mr a) with
      | some es => rw [q] at hs; exact hs
      | none => rw [q] at hs; cases hs
    obtain ⟨p, vs, e, sq, rl⟩ := rep_lst ok rx hl
    obtain ⟨v, hv, r⟩ := atI_rep rl ha
    exact .inr ⟨p, vs, i, v, e, ry, sq, hv, z.now ok h r⟩
theorem repK_length {κ : Type} : ∀ {kvs : List (κ × D)} {vs : List (κ × V)}, RepK G M H kvs vs → kvs.length = vs.length
  | [], vs, r => by have e : vs = [] := r; subst e; rfl
  | (k, d) :: kvs, vs, r => by
    obtain ⟨v, r', e, a, b⟩ := r
    subst e
    simp [repK_length b]
theorem repK_any {κ : Type} [DecidableEq κ] (k : κ) : ∀ {kvs : List (κ × D)} {vs : List (κ × V)}, RepK G M H kvs vs → (kvs.any fun kv => decide (kv.1 = k)) = vs.any fun kv => decide (kv.1 = k)
  | [], vs, r => by have e : vs = [] := r; subst e; rfl
  | (k', d) :: kvs, vs, r => by
    obtain ⟨v, r', e, a, b⟩ := r
    subst e
    rw [List.any_cons, List.any_cons, repK_any k b]
theorem repK_repl {κ : Type} [DecidableEq κ] (k : κ) {d : D} {u : V} (rd : Rep G M H d u) : ∀ {kvs : List (κ × D)} {vs : List (κ × V)}, RepK G M H kvs vs →
    RepK G M H (kvs.map fun kv => if kv.1 = k then (kv.1, d) else kv) (vs.map fun kv => if kv.1 = k then (kv.1, u) else kv)
  | [], vs, r => by have e : vs = [] := r; subst e; rfl
  | (k', d') :: kvs, vs, r => by
    obtain ⟨v, r', e, a, b⟩ := r
    subst e
    rw [List.map_cons, List.map_cons]
    by_cases e : k' = k
    · simp only [e, if_true]
      exact ⟨u, _, rfl, rd, repK_repl k rd b⟩
    · simp only [e, if_false]
      exact ⟨v, _, rfl, a, repK_repl k rd b⟩
theorem repK_snoc {κ : Type} {k : κ} {d : D} {u : V} (rd : Rep G M H d u) : ∀ {kvs : List (κ × D)} {vs : List (κ × V)}, RepK G M H kvs vs → RepK G M H (kvs ++ [(k, d)]) (vs ++ [(k, u)])
  | [], vs, r => by have e : vs = [] := r; subst e; exact ⟨u, [], rfl, rd, rfl⟩
  | (k', d') :: kvs, vs, r => by
    obtain ⟨v, r', e, a, b⟩ := r
    subst e
    exact ⟨v, _, rfl, a, repK_snoc rd b⟩
theorem repK_set {κ : Type} [DecidableEq κ] {k : κ} {d : D} {u : V} (rd : Rep G M H d u) {kvs : List (κ × D)} {vs : List (κ × V)} (r : RepK G M H kvs vs) : RepK G M H (setK kvs k d) (putK vs k u) := by
  unfold setK putK
  rw [repK_any k r]
  split
  · exact repK_repl k rd r
  · exact repK_snoc rd r
theorem set_ok {x y d : D} {xv yv v : V} {q : Mem → Prop} {Qh : Hp → Prop} (ok : OkM G M H) (rx : Rep G M H x xv) (ry : Rep G M H y yv) (rd : Rep G M H d v) (h : setQ M x y d q)
    (z : ∀ M' H', q M' → OkM G M' H' → Ext M H M' H' → Qh H') : rSetAll G.P G.w xv yv v H Qh := by
  rcases h with ⟨p, ds, k, j, rfl, hm, rfl, hi, h⟩ | ⟨p, kvs, k, rfl, hm, hk, hz, h⟩ | ⟨p, kvs, k, rfl, hm, hk, hz, h⟩ | ⟨p, kvs, k, rfl, hm, hk, hz, h⟩
  · obtain ⟨u, qu, vs, eu, rl⟩ := ok p _ hm
    subst eu
    exact .inl ⟨p, vs, k, j, rx, ry, qu, by rw [← rl.length]; exact hi, z _ _ h (ok.write hm ⟨_, rfl, rl.set j rd⟩) (Ext.write hm)⟩
  · obtain ⟨u, qu, vs, eu, rl⟩ := ok p _ hm
    subst eu
    have e := rep_keyD hk ry
    subst e
    exact .inr ⟨p, _, rx, .inl (DPut.k qu (by rw [← repK_length rl]; exact hz)), z _ _ h (ok.write hm ⟨_, rfl, repK_set rd rl⟩) (Ext.write hm)⟩
  · obtain ⟨u, qu, vs, eu, rl⟩ := ok p _ hm
    subst eu
    obtain ⟨b, e, qb⟩ := rep_keyT hk ry
    subst e
    exact .inr ⟨p, _, rx, .inl (DPut.t qu qb (by rw [← repK_length rl]; exact hz)), z _ _ h (ok.write hm ⟨_, rfl, repK_set rd rl⟩) (Ext.write hm)⟩
  · obtain ⟨u, qu, us, eu, rl⟩ := ok p _ hm
    subst eu
    obtain ⟨h1, h2, ds, e⟩ := keyNT_d hk
    obtain ⟨b, e2, kr⟩ := rep_keyNT hk ry
    subst e2
    exact .inr ⟨p, _, rx, .inr ⟨us, k, b, qu, repN_keyed rl, rfl, kr, by rw [← repN_length rl]; exact hz, rfl⟩, z _ _ h (ok.write hm ⟨_, rfl, repN_put (by rw [h1]; exact ry) h2 rd rl⟩) (Ext.write hm)⟩

/-! ### slices -/
def rSlAll (K : PySem.W.Frag) : V → Option Int → Option Int → Hp → VK → Prop := fun x lo hi H Q => rSlS x lo hi H Q ∨ rSlA K x lo hi H Q ∨ rSlL K x lo hi H Q
theorem sl_all {X : Cx} : SlR X (rSlAll X.K) := sl_str.or (sl_tupA.or sl_list)
theorem RepL.cut {ds : List D} {vs : List V} (r : RepL G M H ds vs) (lo hi : Option Int) : RepL G M H (cutD ds lo hi) (cutV vs lo hi) := by
  unfold cutD cutV
  rw [r.length]
  exact (r.drop _).take _
theorem sl_ok {m : Bool} {x : D} {xv : V} {lo hi : Option Int} (ok : OkM G M H) (rx : Rep G M H x xv) (h : slQ m M x lo hi Q0) (z : Rz G M H Q0 Q) : rSlAll G.K xv lo hi H Q := by
  unfold slQ at h
  split at h
  · exact .inl ⟨_, rx, h.1, z.now ok h.2 rfl⟩
  · rename_i ds
    obtain ⟨hz, h⟩ := h
    obtain ⟨a, vs, e, ma, qa, ra⟩ := id rx
    subst e
    refine .inr (.inl ⟨a, vs, rfl, SqT.of qa, fun hw => ?_, fun _ p hp => newT_ok ok (ra.cut lo hi) h z hp⟩)
    have e : cutD ds lo hi = ds := by
      unfold cutD
      rw [ra.length, hw.1, hw.2, List.drop_zero, Nat.sub_zero, ← ra.length]
      exact List.take_length
    rw [e] at h
    exact z.now ok h rx
  · rename_i ds
    obtain ⟨hz, h1, h2⟩ := h
    obtain ⟨a, vs, e, ma, ⟨o, qa, c⟩, ra⟩ := id rx
    subst e
    rw [ra.length] at h1 h2
    exact .inr (.inl ⟨a, vs, rfl, .inl (.inr ⟨o, qa⟩), fun hw => z.now ok (h1 hw) rx, fun hw p hp => newT_ok ok (ra.cut lo hi) (h2 hw) z hp⟩)
  · obtain ⟨ds, hl, h⟩ := h
    obtain ⟨p, vs, e, sq, rl⟩ := rep_lst ok rx hl
    exact .inr (.inr ⟨p, vs, e, sq, fun q hq => newL_ok ok (rl.cut lo hi) h z hq⟩)

/-! ### built-in functions -/
def BI.val : BI → Value
  | .len => .builtin "len"
  | .abs => .builtin "abs"
  | .max2 | .max1 => .builtin "max"
  | .min2 | .min1 => .builtin "min"
  | .sum => .builtin "sum"
  | .int => .type "int"
  | .str => .type "str"
  | .list => .type "list"
  | .tuple => .type "tuple"
  | .sorted => .builtin "sorted"
  | .all => .builtin "all"
  | .lenD => .builtin "len"
  | .sortD => .builtin "sorted"
  | .dict => .type "dict"
  | .dictP => .type "dict"
def BI.name : BI → Str
  | .len => "len"
  | .abs => "abs"
  | .max2 | .max1 => "max"
  | .min2 | .min1 => "min"
  | .sum => "sum"
  | .int => "int"
  | .str => "str"
  | .list => "list"
  | .tuple => "tuple"
  | .sorted => "sorted"
  | .all => "all"
  | .lenD => "len"
  | .sortD => "sorted"
  | .dict => "dict"
  | .dictP => "dict"
/-! ### dict(xs) of a list of pairs, keys nested tuples -/
def putAll (us : List NE) : List NE := us.foldl (fun acc u => nPut acc u.1 u.2.1 u.2.2) []
def rDictN (K : PySem.W.Frag) (P : Program) (w : World) : List V → Hp → VK → Prop := fun xs H Q => ∃ (a : Addr) (vs : List Addr) (us : List NE), xs = [.ref a] ∧ SqL K H a (vs.map V.ref) ∧
  Paired (fun p u => SqT K H p [.ref u.2.1, u.2.2] ∧ KeyRef H u.1 u.2.1) vs us ∧ ∀ p, H p = none → Q (.ref p) (upd H p (dNO P w p (putAll us)))
theorem pairsN_of {X : Cx} {pins : List (Addr × Obj)} {σ : L2.St} {H : Hp} {s : Shared} (I : Inv X pins σ H s) : ∀ {ps : List Addr} {us : List NE}, Paired (fun p u => SqT X.K H p [.ref u.2.1, u.2.2] ∧ KeyRef H u.1 u.2.1) ps us →
    ∃ prs : List (NK × Addr × Value), NV us prs ∧ prs.length = ps.length ∧ ∀ (j : Nat) (q : NK × Addr × Value), prs[j]? = some q → ∃ b, ps[j]? = some b ∧ s.heap.IsTuple b #[.ref q.2.1, q.2.2] ∧ (nestedKind X.prog X.w).is s.heap q.1 q.2.1
  | _, _, .nil => ⟨[], .nil, rfl, fun j q e => by simp at e⟩
  | _, _, .cons (a := p) (b := u) h t => by
    obtain ⟨prs, r, hl, hp⟩ := pairsN_of I t
    obtain ⟨its, rv, ht, _⟩ := I.tuple h.1
    obtain ⟨x, y, ei, rx, ry⟩ := vals2 rv
    subst ei
    cases (show x = Value.ref u.2.1 from rx)
    refine ⟨(u.1, u.2.1, y) :: prs, .cons ⟨rfl, rfl, ry⟩ r, by rw [List.length_cons, List.length_cons, hl], fun j q e => ?_⟩
    cases j with
    | zero =>
      have e' : (u.1, u.2.1, y) = q := Option.some.inj e
      subst e'
      exact ⟨p, rfl, ht, kis_of I.hok h.2⟩
    | succ j =>
      obtain ⟨b, e1, e2, e3⟩ := hp j q (by simpa using e)
      exact ⟨b, by simpa using e1, e2, e3⟩
theorem NV.all {us : List NE} {xs : List (NK × Addr × Value)} (r : NV us xs) : ∀ {acc : List NE} {acc' : List (NK × Addr × Value)}, NV acc acc' → NV (us.foldl (fun acc u => nPut acc u.1 u.2.1 u.2.2) acc) (PySem.storedAllH acc' xs) := by
  induction r with
  | nil => intro acc acc' h; exact h
  | @cons p q ps qs h t ih =>
    intro acc acc' ha
    obtain ⟨h1, h2, h3⟩ := h
    have := ha.put p.1 p.2.1 h3
    rw [h1, h2] at this
    exact ih (show NV (nPut acc p.1 p.2.1 p.2.2) (storedH acc' q.1 q.2.1 q.2.2) from by rw [h1, h2]; exact this)
theorem cr_dictN {X : Cx} (hc : X.calm = true) (hu : X.A.units + 65 < cLine) : CallR X (.type "dict") (rDictN X.K X.prog X.w) := by
  intro pins s σ H xs us Q I r q
  obtain ⟨a, ps, kvs, ex, hq, hp, q⟩ := q
  subst ex
  obtain ⟨u, eu, rx⟩ := vals1 r
  subst eu
  cases (show u = Value.ref a from rx)
  obtain ⟨its, rv, pl, hz⟩ := I.list hq
  have ei := refs_at rv
  subst ei
  rw [List.length_map] at hz
  obtain ⟨prs, rel, hl, hpr⟩ := pairsN_of I hp
  obtain ⟨o, n, ho, hcl, hd, hdat⟩ := pl
  have hpl : prs.length = (prs.map fun p => (Value.ref p.2.1, p.2.2)).length := by rw [List.length_map]
  refine PySem.call_dict_pairsH (knd := nestedKind X.prog X.w) (ps := prs) (PySem.PairArg.list (prog := X.prog) (w := X.w) a (ps.map Value.ref).toArray (fun j => ps[j]?.getD 0) (prs.map fun p => (Value.ref p.2.1, p.2.2))) (I.ok.hd hc) (show X.A.units + 1 + 1 + 8 < cLine by omega)
    ⟨⟨o, n, ho, hcl, hd, hdat⟩, by simp [hl], fun j k v e => ?_⟩ ⟨hpl, fun i key v e => ?_⟩ (fun h' hk x hx => ?_) (by rw [← hpl, hl]; exact hz) fun h' tk hd' k => ?_
  · rw [List.getElem?_map] at e
    obtain ⟨p, hp1, hp2⟩ := Option.map_eq_some_iff.mp e
    cases hp2
    obtain ⟨b, e1, e2, e3⟩ := hpr j p hp1
    exact ⟨by simp [e1], .inl (by show s.heap.IsTuple (ps[j]?.getD 0) _; rw [e1]; exact e2)⟩
  · have e : (prs.map fun p => (Value.ref p.2.1, p.2.2))[i]? = some (key, v) := e
    rw [List.getElem?_map] at e
    obtain ⟨p, hp1, hp2⟩ := Option.map_eq_some_iff.mp e
    cases hp2
    exact ⟨p.1, p.2.1, hp1, rfl⟩
  · obtain ⟨j, hj⟩ := List.getElem?_of_mem hx
    obtain ⟨b, e1, e2, e3⟩ := hpr j x hj
    exact ⟨PySem.NestedIs.at (fun c ob vs n hb hdt => hk c ob (Nat.ne_of_lt (Heap.lt_size hb)) (by simp) hb) _ _ e3.1, e3.2⟩
  · have hm : (s.heap.objs.size == sysModules) = false := beq_eq_false_iff_ne.mpr (Nat.ne_of_gt I.big)
    have hlen : (putAll kvs).length ≤ sizeLine := by
      have g : ∀ (us acc : List NE), (us.foldl (fun acc u => nPut acc u.1 u.2.1 u.2.2) acc).length ≤ acc.length + us.length := by
        intro us
        induction us with
        | nil => intro acc; exact Nat.le_refl _
        | cons u us ih =>
          intro acc
          have h1 := ih (nPut acc u.1 u.2.1 u.2.2)
          have h2 := length_nPut acc u.1 u.2.1 u.2.2
          simp only [List.foldl_cons, List.length_cons]
          omega
      have := g kvs []
      have h3 : kvs.length = prs.length := Paired.length rel
      unfold putAll
      simp only [List.length_nil] at this
      omega
    exact ⟨.ref s.heap.objs.size, upd H s.heap.objs.size (dNO X.prog X.w s.heap.objs.size (putAll kvs)), I.laid (t' := tk) (fun b ob e => k b ob (by simp) e) (Nat.le_refl _) (dn_new hlen hm (rel.all .nil) hd'), rfl, q _ (I.hok.fresh (Nat.le_refl _))⟩
theorem BI.boot (b : BI) : bootBuiltins b.name = some b.val := by cases b <;> decide +kernel
def rBi (K : PySem.W.Frag) (P : Program) (w : World) : BI → List V → Hp → VK → Prop
  | .len => fun xs H Q => (∃ p ys, xs = [.ref p] ∧ (SqL K H p ys ∨ SqT K H p ys) ∧ Q (.int ys.length) H) ∨ ∃ z, xs = [.str z] ∧ z.length ≤ sizeLine ∧ Q (.int z.length) H
  | .abs => fun xs H Q => ∃ i, xs = [.int i] ∧ Q (.int (if i < 0 then -i else i)) H
  | .max2 => fun xs H Q => ∃ i j, xs = [.int i, .int j] ∧ Q (.int (if j > i then j else i)) H
  | .min2 => fun xs H Q => ∃ i j, xs = [.int i, .int j] ∧ Q (.int (if j < i then j else i)) H
  | .max1 => rMax K
  | .min1 => rMin K
  | .sum => rSum K
  | .all => rAll K
  | .int => fun xs H Q => ((∃ i, xs = [.int i] ∧ Q (.int i) H) ∨ ∃ k, xs = [.bl k] ∧ Q (.int (if k then 1 else 0)) H) ∨ ∃ a n, xs = [.str a] ∧ PySem.intText? a = some n ∧ a.length ≤ 640 ∧ Q (.int n) H
  | .str => fun xs H Q => (∃ i, xs = [.int i] ∧ i.natAbs.log2 < 1920 ∧ Q (.str (toString i)) H) ∨ (∃ a, xs = [.str a] ∧ Q (.str a) H) ∨ (xs = [.non] ∧ Q (.str "None") H)
  | .list => fun xs H Q => ∃ p ys, xs = [.ref p] ∧ (SqL K H p ys ∨ SqT K H p ys) ∧ ∀ l, H l = none → Q (.ref l) (upd H l (.lst ys))
  | .tuple => fun xs H Q => ∃ p ys, xs = [.ref p] ∧ ((SqL K H p ys ∧ ∀ l, H l = none → Q (.ref l) (upd H l (.tup ys))) ∨ (SqT K H p ys ∧ Q (.ref p) H))
  | .sorted => rSortedI K
  | .lenD => rLenN P w
  | .sortD => fun vs H Q => rSortedDat K vs H Q ∨ rSortedS K P w vs H Q
  | .dict => fun xs H Q => ∃ (a : Addr) (kvs : List (Key × V)), xs = [.ref a] ∧ Rd H a (.dK kvs) ∧ ∀ p, H p = none → Q (.ref p) (upd H p (.dK kvs))
  | .dictP => rDictN K P w
theorem call_str_none {X : Cx} : CallR X (.type "str") (fun xs H Q => xs = [.non] ∧ Q (.str "None") H) := by
  intro pins s σ H xs us Q I r h
  obtain ⟨rfl, q⟩ := h
  obtain ⟨u, rfl, r1⟩ := vals1 r
  cases r1
  exact PySem.P.str_of_none ⟨.str _, H, I.tok _, ⟨_, rfl⟩, q⟩
theorem cr_bi {X : Cx} (hc : X.calm = true) (hu : X.A.units + 65 < cLine) (b : BI) : CallR X b.val (rBi X.K X.prog X.w b) := by
  cases b with
  | len => exact call_len_seq.or call_len_str
  | abs => exact call_abs
  | max2 => exact call_max2 hc
  | min2 => exact call_min2 hc
  | max1 => exact cr_max hc
  | min1 => exact cr_min hc
  | sum => exact cr_sum hc
  | int => exact call_int1.or call_int_str
  | str => exact call_str_int.or (SkE.call_str_str.or call_str_none)
  | list => exact call_list_of
  | tuple => exact call_tuple_of
  | sorted => exact cr_sortedI
  | all => exact cr_all hc
  | lenD => exact call_len_dN
  | sortD => exact (cr_sortedDat hu).or (cr_sortedS hc hu)
  | dict => exact call_dictD
  | dictP => exact cr_dictN hc hu
theorem maxL_is : ∀ {ns : List Int} {m : Int}, 0 < ns.length → m ∈ ns → (∀ y, y ∈ ns → y ≤ m) → m = maxL ns
  | [a], m, _, hm, _ => by simp at hm; simpa [maxL] using hm
  | a :: b :: r, m, _, hm, hx => by
    have hin : maxL (b :: r) ∈ b :: r ∧ ∀ y ∈ b :: r, y ≤ maxL (b :: r) := by
      clear hx hm
      induction r generalizing b with
      | nil => simp [maxL]
      | cons c r ih =>
        obtain ⟨h1, h2⟩ := ih c (by simp)
        simp only [maxL]
        refine ⟨?_, fun y hy => ?_⟩
        · rcases Int.le_total b (maxL (c :: r)) with e | e
          · rw [Int.max_eq_right e]; exact List.mem_cons_of_mem _ h1
          · rw [Int.max_eq_left e]; exact List.mem_cons_self
        · rcases List.mem_cons.mp hy with e | e
          · subst e; exact Int.le_max_left _ _
          · exact Int.le_trans (h2 y e) (Int.le_max_right _ _)
    have h1 := hx a List.mem_cons_self
    have h2 := hx _ (List.mem_cons_of_mem _ hin.1)
    have h3 : m ≤ max a (maxL (b :: r)) := by
      rcases List.mem_cons.mp hm with e | e
      · subst e; exact Int.le_max_left _ _
      · exact Int.le_trans (hin.2 m e) (Int.le_max_right _ _)
    simp only [maxL]
    have h4 : max a (maxL (b :: r)) ≤ m := Int.max_le.mpr ⟨h1, h2⟩
    omega
theorem minL_is : ∀ {ns : List Int} {m : Int}, 0 < ns.length → m ∈ ns → (∀ y, y ∈ ns → m ≤ y) → m = minL ns
  | [a], m, _, hm, _ => by simp at hm; simpa [minL] using hm
  | a :: b :: r, m, _, hm, hx => by
    have hin : minL (b :: r) ∈ b :: r ∧ ∀ y ∈ b :: r, minL (b :: r) ≤ y := by
      clear hx hm
      induction r generalizing b with
      | nil => simp [minL]
      | cons c r ih =>
        obtain ⟨h1, h2⟩ := ih c (by simp)
        simp only [minL]
        refine ⟨?_, fun y hy => ?_⟩
        · rcases Int.le_total (minL (c :: r)) b with e | e
          · rw [Int.min_eq_right e]; exact List.mem_cons_of_mem _ h1
          · rw [Int.min_eq_left e]; exact List.mem_cons_self
        · rcases List.mem_cons.mp hy with e | e
          · subst e; exact Int.min_le_left _ _
          · exact Int.le_trans (Int.min_le_right _ _) (h2 y e)
    have h1 := hx a List.mem_cons_self
    have h2 := hx _ (List.mem_cons_of_mem _ hin.1)
    have h3 : min a (minL (b :: r)) ≤ m := by
      rcases List.mem_cons.mp hm with e | e
      · subst e; exact Int.min_le_left _ _
      · exact Int.le_trans (Int.min_le_right _ _) (hin.2 m e)
    simp only [minL]
    have h4 : m ≤ min a (minL (b :: r)) := Int.le_min.mpr ⟨h1, h2⟩
    omega
theorem repL1 {x : D} {vs : List V} (r : RepL G M H [x] vs) : ∃ v, vs = [v] ∧ Rep G M H x v := by
  obtain ⟨v, r', e, a, b⟩ := r
  have e' : r' = [] := b
  subst e'; subst e
  exact ⟨v, rfl, a⟩
theorem repL2 {x y : D} {vs : List V} (r : RepL G M H [x, y] vs) : ∃ v u, vs = [v, u] ∧ Rep G M H x v ∧ Rep G M H y u := by
  obtain ⟨v, r', e, a, b⟩ := r
  obtain ⟨u, e', c⟩ := repL1 b
  subst e'; subst e
  exact ⟨v, u, rfl, a, c⟩
theorem repN_keys : ∀ {kvs : List (NK × D)} {us : List NE}, RepN G M H kvs us → RepL G M H (kvs.map fun kv => dOfK kv.1) (us.map fun u => V.ref u.2.1)
  | [], us, r => by have e : us = [] := r; subst e; exact RepL.nil
  | (k, d) :: kvs, us, r => by
    obtain ⟨b, v, r', e, h1, h2, h3, h4⟩ := r
    subst e
    exact RepL.cons h1 (repN_keys h4)
/-- pairs of data and values -/
theorem pairs_of : ∀ {ds : List D} {vs : List V}, RepL G M H ds vs → ∃ ts : List (D × V), ds = ts.map (·.1) ∧ vs = ts.map (·.2) ∧ ∀ t ∈ ts, Rep G M H t.1 t.2
  | [], vs, r => by have e : vs = [] := r; subst e; exact ⟨[], rfl, rfl, fun _ h => nomatch h⟩
  | d :: ds, vs, r => by
    obtain ⟨v, r', e, a, b⟩ := r
    subst e
    obtain ⟨ts, h1, h2, h3⟩ := pairs_of b
    refine ⟨(d, v) :: ts, by rw [h1]; rfl, by rw [h2]; rfl, fun t ht => ?_⟩
    rcases List.mem_cons.mp ht with rfl | ht
    · exact a
    · exact h3 t ht
theorem rep_pairs : ∀ {ts : List (D × V)}, (∀ t ∈ ts, Rep G M H t.1 t.2) → RepL G M H (ts.map (·.1)) (ts.map (·.2))
  | [], _ => RepL.nil
  | t :: ts, h => RepL.cons (h t List.mem_cons_self) (rep_pairs fun u hu => h u (List.mem_cons_of_mem _ hu))
theorem pureL_mem : ∀ {ds : List D}, pureL ds = true → ∀ d ∈ ds, pureD d = true
  | [], _, d, h => nomatch h
  | e :: ds, p, d, h => by
    unfold pureL at p
    rw [Bool.and_eq_true] at p
    rcases List.mem_cons.mp h with rfl | h
    · exact p.1
    · exact pureL_mem p.2 d h
theorem sort_pairs (ts : List (D × V)) : ((ts.map fun t => (t.2, toPy t.1)).mergeSort leD).map (·.1) = (ts.mergeSort fun x y => leQ x.1 y.1).map (·.2) ∧ (ts.map (·.1)).mergeSort leQ = (ts.mergeSort fun x y => leQ x.1 y.1).map (·.1) := by
  refine ⟨?_, ?_⟩
  · rw [← List.map_mergeSort (r := fun x y : D × V => leQ x.1 y.1) (s := leD) (f := fun t : D × V => (t.2, toPy t.1)) (fun _ _ _ _ => rfl), List.map_map]; rfl
  · rw [← List.map_mergeSort (r := fun x y : D × V => leQ x.1 y.1) (s := leQ) (f := fun t : D × V => t.1) (fun _ _ _ _ => rfl)]
theorem sort_ok {m : Bool} {ds : List D} {vs : List V} {a : Addr} (ok : OkM G M H) (rl : RepL G M H ds vs) (sd : SortD ds) (h : newL m (ds.mergeSort leQ) M Q0) (z : Rz G M H Q0 Q) (src : SqL G.K H a vs ∨ Sorts G.K G.P G.w H a vs) :
    rSortedDat G.K [.ref a] H Q ∨ rSortedS G.K G.P G.w [.ref a] H Q := by
  obtain ⟨ts, e1, e2, hr⟩ := pairs_of rl
  obtain ⟨s1, s2⟩ := sort_pairs ts
  subst e1 e2
  have ev : (ts.map fun t => (t.2, toPy t.1)).map (·.1) = ts.map (·.2) := by rw [List.map_map]; rfl
  have ed : (ts.map fun t => (t.2, toPy t.1)).map (·.2) = (ts.map (·.1)).map toPy := by rw [List.map_map, List.map_map]; rfl
  have sb : SortB G.K H (ts.map fun t => (t.2, toPy t.1)) := ⟨fun b hb => by
      obtain ⟨t, ht, rfl⟩ := List.mem_map.mp hb
      exact dp_of ok _ _ (pureL_mem sd.pu _ (List.mem_map.mpr ⟨t, ht, rfl⟩)) (hr t ht), by rw [ed]; exact sd.al, by rw [ed]; exact sd.so, fun b hb => by
      obtain ⟨t, ht, rfl⟩ := List.mem_map.mp hb
      exact sd.de _ (List.mem_map.mpr ⟨t, ht, rfl⟩)⟩
  have fin : ∀ p, H p = none → Q (.ref p) (upd H p (.lst (((ts.map fun t => (t.2, toPy t.1)).mergeSort leD).map (·.1)))) := fun p hp => by
    rw [s1]
    rw [s2] at h
    exact newL_ok ok (rep_pairs fun t ht => hr t ((List.mergeSort_perm _ _).subset ht)) h z hp
  rcases src with src | src
  · exact .inl ⟨a, _, rfl, by rw [ev]; exact src, sb, fin⟩
  · exact .inr ⟨a, _, rfl, by rw [ev]; exact src, sb, fin⟩
/-- the pairs of a list, as they lie -/
theorem rep_dictP (ok : OkM G M H) : ∀ {ps : List (D × NK × D)} {us : List V}, (∀ p ∈ ps, keyNT p.1 = some p.2.1) → RepL G M H (ps.map fun p => D.tup [p.1, p.2.2]) us →
    ∃ (as : List Addr) (ns : List NE), us = as.map V.ref ∧ Paired (fun p u => SqT G.K H p [.ref u.2.1, u.2.2] ∧ KeyRef H u.1 u.2.1) as ns ∧ RepN G M H (ps.map fun p => (p.2.1, p.2.2)) ns
  | [], us, _, r => by
    have e : us = [] := r
    subst e
    exact ⟨[], [], rfl, .nil, rfl⟩
  | p :: ps, us, hk, r => by
    obtain ⟨v, rest, e, rv, rr⟩ := (show ∃ v r, us = v :: r ∧ Rep G M H (D.tup [p.1, p.2.2]) v ∧ RepL G M H (ps.map fun p => D.tup [p.1, p.2.2]) r from r)
    subst e
    obtain ⟨as, ns, e2, hp, hn⟩ := rep_dictP ok (fun q hq => hk q (List.mem_cons_of_mem _ hq)) rr
    obtain ⟨a, vs, e3, m, q, rl⟩ := (show ∃ a vs, v = .ref a ∧ M a = none ∧ H a = some (.tup vs) ∧ RepL G M H [p.1, p.2.2] vs from rv)
    subst e3
    obtain ⟨x, y, e4, rx, ry⟩ := repL2 rl
    subst e4
    have hkp := hk p List.mem_cons_self
    obtain ⟨b, e5, kr⟩ := rep_keyNT hkp rx
    subst e5
    obtain ⟨d1, d2, _⟩ := keyNT_d hkp
    exact ⟨a :: as, (p.2.1, b, y) :: ns, by rw [e2]; rfl, .cons ⟨.inl (Rd.of q), kr⟩ hp, b, y, ns, rfl, by rw [d1]; exact rx, d2, ry, hn⟩
theorem repN_all : ∀ {kvs : List (NK × D)} {us : List NE}, RepN G M H kvs us → ∀ {acc : List (NK × D)} {acc' : List NE}, RepN G M H acc acc' →
    RepN G M H (kvs.foldl (fun acc p => setK acc p.1 p.2) acc) (us.foldl (fun acc u => nPut acc u.1 u.2.1 u.2.2) acc')
  | [], us, r, acc, acc', h => by
    have e : us = [] := r
    subst e
    exact h
  | (k, d) :: kvs, us, r, acc, acc', h => by
    obtain ⟨b, v, rest, e, h1, h2, h3, h4⟩ := r
    subst e
    exact repN_all h4 (repN_put h1 h2 h3 h)
theorem bi_ok {b : BI} {m : Bool} {xs : List D} {vs : List V} (ok : OkM G M H) (r : RepL G M H xs vs) (h : biQ b m M xs Q0) (z : Rz G M H Q0 Q) : rBi G.K G.P G.w b vs H Q := by
  unfold biQ at h
  split at h
  · obtain ⟨v, e, a⟩ := repL1 r
    subst e
    have e : v = .str _ := a
    subst e
    exact .inr ⟨_, rfl, h.1, z.now ok h.2 rfl⟩
  · obtain ⟨v, e, a⟩ := repL1 r
    subst e
    obtain ⟨ds, hs, h⟩ := h
    obtain ⟨p, us, e, sq, rl⟩ := rep_seq ok a hs
    subst e
    exact .inl ⟨p, us, rfl, sq, by rw [← rl.length]; exact z.now ok h rfl⟩
  · obtain ⟨v, e, a⟩ := repL1 r
    subst e
    have e : v = .int _ := a
    subst e
    exact ⟨_, rfl, z.now ok h rfl⟩
  · obtain ⟨v, u, e, a, b⟩ := repL2 r
    subst e
    have e : v = .int _ := a
    subst e
    have e : u = .int _ := b
    subst e
    exact ⟨_, _, rfl, z.now ok h rfl⟩
  · obtain ⟨v, u, e, a, b⟩ := repL2 r
    subst e
    have e : v = .int _ := a
    subst e
    have e : u = .int _ := b
    subst e
    exact ⟨_, _, rfl, z.now ok h rfl⟩
  · obtain ⟨v, e, a⟩ := repL1 r
    subst e
    obtain ⟨ns, hs, hl, h⟩ := h
    obtain ⟨p, us, e, sq, rl⟩ := rep_lst ok a hs
    subst e
    have e := rl.inv_int
    subst e
    exact ⟨p, ns, rfl, sq, hl, fun k hk hx => by rw [maxL_is hl hk hx]; exact z.now ok h rfl⟩
  · obtain ⟨v, e, a⟩ := repL1 r
    subst e
    obtain ⟨ns, hs, hl, h⟩ := h
    obtain ⟨p, us, e, sq, rl⟩ := rep_lst ok a hs
    subst e
    have e := rl.inv_int
    subst e
    exact ⟨p, ns, rfl, sq, hl, fun k hk hx => by rw [minL_is hl hk hx]; exact z.now ok h rfl⟩
  · obtain ⟨v, e, a⟩ := repL1 r
    subst e
    obtain ⟨ns, hs, h⟩ := h
    obtain ⟨p, us, e, sq, rl⟩ := rep_lst ok a hs
    subst e
    have e := rl.inv_int
    subst e
    exact ⟨p, ns, rfl, sq, z.now ok h rfl⟩
  · obtain ⟨v, e, a⟩ := repL1 r
    subst e
    obtain ⟨ns, hs, h⟩ := h
    obtain ⟨p, us, e, sq, rl⟩ := rep_lst ok a hs
    subst e
    have e := rl.inv_bl
    subst e
    exact ⟨p, ns, rfl, sq, z.now ok h rfl⟩
  · obtain ⟨v, e, a⟩ := repL1 r
    subst e
    have e : v = .int _ := a
    subst e
    exact .inl (.inl ⟨_, rfl, z.now ok h rfl⟩)
  · obtain ⟨v, e, a⟩ := repL1 r
    subst e
    have e : v = .bl _ := a
    subst e
    exact .inl (.inr ⟨_, rfl, z.now ok h rfl⟩)
  · obtain ⟨v, e, a⟩ := repL1 r
    subst e
    have e : v = .str _ := a
    subst e
    obtain ⟨n, h1, h2, h⟩ := h
    exact .inr ⟨_, n, rfl, h1, h2, z.now ok h rfl⟩
  · obtain ⟨v, e, a⟩ := repL1 r
    subst e
    have e : v = .int _ := a
    subst e
    exact .inl ⟨_, rfl, h.1, z.now ok h.2 rfl⟩
  · obtain ⟨v, e, a⟩ := repL1 r
    subst e
    have e : v = .str _ := a
    subst e
    exact .inr (.inl ⟨_, rfl, z.now ok h rfl⟩)
  · obtain ⟨v, e, a⟩ := repL1 r
    subst e
    have e : v = .non := a
    subst e
    exact .inr (.inr ⟨rfl, z.now ok h rfl⟩)
  · obtain ⟨v, e, a⟩ := repL1 r
    subst e
    obtain ⟨ds, hs, h⟩ := h
    obtain ⟨p, us, e, sq, rl⟩ := rep_seq ok a hs
    subst e
    exact ⟨p, us, rfl, sq, fun l hl => newL_ok ok rl h z hl⟩
  · obtain ⟨v, e, a⟩ := repL1 r
    subst e
    obtain ⟨p, us, e, m, q, rl⟩ := id a
    subst e
    exact ⟨p, us, rfl, .inr ⟨SqT.of q, z.now ok h a⟩⟩
  · obtain ⟨v, e, a⟩ := repL1 r
    subst e
    obtain ⟨ds, hs, h⟩ := h
    obtain ⟨p, us, e, sq, rl⟩ := rep_lst ok a hs
    subst e
    exact ⟨p, us, rfl, .inl ⟨sq, fun l hl => newT_ok ok rl h z hl⟩⟩
  · obtain ⟨v, e, a⟩ := repL1 r
    subst e
    obtain ⟨ns, hs, h⟩ := h
    obtain ⟨p, us, e, sq, rl⟩ := rep_lst ok a hs
    subst e
    have e := rl.inv_int
    subst e
    exact ⟨p, ns, rfl, sq, fun ns' q hp hs' hq => newL_ok ok (RepL.map_int ns') (h ns' hp hs') z hq⟩
  · obtain ⟨v, e, a⟩ := repL1 r
    subst e
    obtain ⟨p, kvs, ex, hm, h⟩ := h
    subst ex
    have e : v = .ref p := a
    subst e
    have key : ∀ us, Rd H p (dNO G.P G.w p us) → RepN G M H kvs us → rLenN G.P G.w [.ref p] H Q := fun us hq rn => ⟨p, us, rfl, hq, repN_keyed rn, by rw [← repN_length rn]; exact z.now ok h rfl⟩
    rcases hm with hm | ⟨o, hm⟩
    · obtain ⟨u, q, us, eu, rn⟩ := ok p _ hm
      subst eu
      exact key us (Rd.of q) rn
    · obtain ⟨u, q, us, eu, rn⟩ := ok p _ hm
      subst eu
      exact key us (.inr ⟨o, q⟩) rn
  · obtain ⟨v, e, a⟩ := repL1 r
    subst e
    obtain ⟨ds, hs, sd, h⟩ := h
    rcases hs with hs | ⟨p, kvs, ex, hm, ed⟩
    · obtain ⟨p, us, e, sq, rl⟩ := rep_seq ok a hs
      subst e
      exact sort_ok ok rl sd h z (sq.imp id .inl)
    · subst ex ed
      have e : v = .ref p := a
      subst e
      rcases hm with hm | ⟨o, hm⟩
      · obtain ⟨u, q, us, eu, rn⟩ := ok p _ hm
        subst eu
        exact sort_ok ok (repN_keys rn) sd h z (.inr (.inr ⟨us, Rd.of q, rfl⟩))
      · obtain ⟨u, q, us, eu, rn⟩ := ok p _ hm
        subst eu
        exact sort_ok ok (repN_keys rn) sd h z (.inr (.inr ⟨us, .inr ⟨o, q⟩, rfl⟩))
  · obtain ⟨v, e, a⟩ := repL1 r
    subst e
    obtain ⟨p, kvs, ex, hm, h⟩ := h
    subst ex
    have e : v = .ref p := a
    subst e
    obtain ⟨u, q, vs, eu, rk⟩ := ok p _ hm
    subst eu
    refine ⟨p, vs, rfl, Rd.of q, fun b hb => ?_⟩
    exact z _ _ _ _ (h b (ok.dom hb)) (ok.newM hb ⟨vs, rfl, rk⟩) rfl (Ext.newM hb)
  · obtain ⟨v, e, a⟩ := repL1 r
    subst e
    obtain ⟨ps, hs, hk, h⟩ := h
    obtain ⟨p, us, e, sq, rl⟩ := rep_lst ok a hs
    subst e
    obtain ⟨as, ns, e2, hp, hn⟩ := rep_dictP ok hk rl
    subst e2
    refine ⟨p, as, ns, rfl, sq, hp, fun b hb => ?_⟩
    exact z _ _ _ _ (h b (ok.dom hb)) (ok.newM hb ⟨_, rfl, by have := repN_all hn (acc := []) (acc' := []) rfl; rw [List.foldl_map] at this; exact this⟩) rfl (Ext.newM hb)
  · exact h.elim

/-! ### methods of built-in types -/
def MI.name : MI → Str
  | .append => "append"
  | .extend => "extend"
  | .pop | .popAt => "pop"
  | .insert => "insert"
  | .find => "find"
  | .count => "count"
  | .index => "index"
  | .get1 | .get2 => "get"
def MI.ty : MI → String
  | .find => "str"
  | .get1 | .get2 => "dict"
  | _ => "list"
def MI.id : MI → String
  | .append => "list.append"
  | .extend => "list.extend"
  | .pop | .popAt => "list.pop"
  | .insert => "list.insert"
  | .find => "str.find"
  | .count => "list.count"
  | .index => "list.index"
  | .get1 | .get2 => "dict.get"
theorem MI.attrs (n : MI) : PlainAttrs n.ty := by
  cases n with
  | append => exact PySem.F.plainAttrs_list
  | extend => exact PySem.F.plainAttrs_list
  | pop => exact PySem.F.plainAttrs_list
  | popAt => exact PySem.F.plainAttrs_list
  | insert => exact PySem.F.plainAttrs_list
  | find => exact PySem.F.plainAttrs_str
  | count => exact PySem.F.plainAttrs_list
  | index => exact PySem.F.plainAttrs_list
  | get1 => exact PySem.F.plainAttrs_dict
  | get2 => exact PySem.F.plainAttrs_dict
theorem MI.slot (n : MI) : Slot n.ty n.name n.id := by
  cases n with
  | append => exact PySem.F.slot_list_append
  | extend => exact PySem.F.slot_list_extend
  | pop => exact PySem.F.slot_list_pop
  | popAt => exact PySem.F.slot_list_pop
  | insert => exact PySem.F.slot_list_insert
  | find => exact PySem.F.slot_str_find
  | count => exact PySem.F.slot_list_count
  | index => exact PySem.F.slot_list_index
  | get1 => exact PySem.F.slot_dict_get
  | get2 => exact PySem.F.slot_dict_get
theorem MI.desc (n : MI) : typeOf (.builtin n.id) = pure (.type "method_descriptor") := by
  cases n with
  | append => exact PySem.F.type_list_append
  | extend => exact PySem.F.type_list_extend
  | pop => exact PySem.F.type_list_pop
  | popAt => exact PySem.F.type_list_pop
  | insert => exact PySem.F.type_list_insert
  | find => exact PySem.F.type_str_find
  | count => exact PySem.F.type_list_count
  | index => exact PySem.F.type_list_index
  | get1 => exact PySem.F.type_dict_get
  | get2 => exact PySem.F.type_dict_get
theorem mt_get1 {X : Cx} (hu : X.A.units + 9 < cLine) : MtR X "dict.get" (fun x xs H Q => ∃ a y o, x = .ref a ∧ xs = [y] ∧ XGet X.prog X.w H a y o ∧ Q (o.getD .non) H) := by
  intro pins s σ H x xs v us Q I rx rv h
  obtain ⟨a, y, o, rfl, rfl, g, q⟩ := h
  have e : v = Value.ref a := rx
  subst e
  obtain ⟨u, rfl, ry⟩ := vals1 rv
  exact x_get1 hu I g ry fun w' t I' r => ⟨_, H, I', r, q⟩
theorem mt_get2 {X : Cx} (hu : X.A.units + 9 < cLine) : MtR X "dict.get" (fun x xs H Q => ∃ a y d o, x = .ref a ∧ xs = [y, d] ∧ XGet X.prog X.w H a y o ∧ Q (o.getD d) H) := by
  intro pins s σ H x xs v us Q I rx rv h
  obtain ⟨a, y, d, o, rfl, rfl, g, q⟩ := h
  have e : v = Value.ref a := rx
  subst e
  obtain ⟨u, w, rfl, ry, rd⟩ := vals2 rv
  exact x_get2 hu I g ry rd fun w' t I' r => ⟨_, H, I', r, q⟩
def rMi (K : PySem.W.Frag) (P : Program) (w : World) : MI → V → List V → Hp → VK → Prop
  | .append => rAppend
  | .extend => rExtend
  | .pop => rPop
  | .popAt => rPopAt
  | .insert => fun x vs H Q => ∃ (l : Addr) (xs : List V) (i : Int) (y : V), x = .ref l ∧ vs = [.int i, y] ∧ H l = some (.lst xs) ∧ xs.length < sizeLine ∧ 0 ≤ i ∧ i < 2 ^ 63 ∧
    Q .non (upd H l (.lst (xs.take i.toNat ++ [y] ++ xs.drop i.toNat)))
  | .find => fun x xs H Q => ∃ a b, x = .str a ∧ xs = [.str b] ∧ Q (.int (Txt.find a b)) H
  | .count => rCntI K
  | .index => fun x xs H Q => rIndex K x xs H Q ∨ rIndexD K x xs H Q
  | .get1 => fun x xs H Q => ∃ a y o, x = .ref a ∧ xs = [y] ∧ XGet P w H a y o ∧ Q (o.getD .non) H
  | .get2 => fun x xs H Q => ∃ a y d o, x = .ref a ∧ xs = [y, d] ∧ XGet P w H a y o ∧ Q (o.getD d) H
theorem mt_mi {X : Cx} (hu : X.A.units + 65 < cLine) (n : MI) : MtR X n.id (rMi X.K X.prog X.w n) := by
  cases n with
  | append => exact mt_append
  | extend => exact mt_extend
  | pop => exact mt_pop
  | popAt => exact mt_popAt
  | insert => exact mt_insert
  | find => exact mt_find
  | count => exact mt_lcount
  | index => exact mt_index.or (mt_indexD hu)
  | get1 => exact mt_get1 (by omega)
  | get2 => exact mt_get2 (by omega)
theorem recv_ok {n : MI} {x : D} {v : V} (ok : OkM G M H) (rx : Rep G M H x v) (h : recvOk n M x) : tyW G.K G.P G.w n.ty v H := by
  have lst : (∃ ds, lstOf M x = some ds) → tyW G.K G.P G.w "list" v H := fun ⟨ds, h⟩ => by
    obtain ⟨p, vs, e, sq, _⟩ := rep_lst ok rx h
    subst e
    exact .inl (.inl ⟨rfl, vs, sq⟩)
  have dct : (∃ a, x = .mr a ∧ ((∃ kvs, M a = some (.dK kvs)) ∨ (∃ kvs, M a = some (.dT kvs)) ∨ (∃ kvs, M a = some (.dN kvs)) ∨ ∃ o kvs, M a = some (.dF o kvs))) → tyW G.K G.P G.w "dict" v H := fun ⟨a, e, hk⟩ => by
    subst e
    have e : v = .ref a := rx
    subst e
    rcases hk with ⟨kvs, h⟩ | ⟨kvs, h⟩ | ⟨kvs, h⟩ | ⟨o, kvs, h⟩
    · obtain ⟨u, q, vs, eu, _⟩ := ok a _ h
      subst eu
      exact .inl (.inr (.inr (.inl ⟨rfl, .inl ⟨vs, q⟩⟩)))
    · obtain ⟨u, q, vs, eu, _⟩ := ok a _ h
      subst eu
      exact .inl (.inr (.inr (.inl ⟨rfl, .inr ⟨vs, q⟩⟩)))
    · obtain ⟨u, q, us, eu, _⟩ := ok a _ h
      subst eu
      exact .inr (.inl ⟨rfl, a, us, rfl, Rd.of q⟩)
    · obtain ⟨u, q, us, eu, _⟩ := ok a _ h
      subst eu
      exact .inr (.inl ⟨rfl, a, us, rfl, .inr ⟨o, q⟩⟩)
  have str : (∃ z, x = .str z) → tyW G.K G.P G.w "str" v H := fun ⟨z, e⟩ => by
    subst e
    have e : v = .str z := rx
    subst e
    exact .inl rfl
  cases n with
  | find => exact str h
  | get1 => exact dct h
  | get2 => exact dct h
  | append => exact lst h
  | extend => exact lst h
  | pop => exact lst h
  | popAt => exact lst h
  | insert => exact lst h
  | count => exact lst h
  | index => exact lst h
theorem RepL.insert {ds : List D} {vs : List V} {d : D} {v : V} (r : RepL G M H ds vs) (rd : Rep G M H d v) (k : Nat) : RepL G M H (ds.take k ++ [d] ++ ds.drop k) (vs.take k ++ [v] ++ vs.drop k) :=
  ((r.take k).append (RepL.cons rd RepL.nil)).append (r.drop k)
theorem toPyL_get : ∀ (ds : List D) (j : Nat), (toPyL ds)[j]? = (ds[j]?).map toPy
  | [], j => by simp [toPyL]
  | d :: ds, 0 => by simp [toPyL]
  | d :: ds, j + 1 => by
    simp only [toPyL, List.getElem?_cons_succ]
    exact toPyL_get ds j
theorem mi_ok {n : MI} {m : Bool} {x : D} {xs : List D} {v : V} {vs : List V} (ok : OkM G M H) (rx : Rep G M H x v) (r : RepL G M H xs vs) (h : miQ n m M x xs Q0) (z : Rz G M H Q0 Q) : rMi G.K G.P G.w n v vs H Q := by
  unfold miQ at h
  split at h
  · obtain ⟨y, e, ry⟩ := repL1 r
    subst e
    obtain ⟨ds, hm, hz, h⟩ := h
    obtain ⟨u, qu, us, eu, rl⟩ := ok _ _ hm
    subst eu
    exact ⟨_, us, y, rx, rfl, qu, by rw [← rl.length]; exact hz, z _ _ _ _ h (ok.write hm ⟨_, rfl, rl.append (RepL.cons ry RepL.nil)⟩) rfl (Ext.write hm)⟩
  · obtain ⟨y, e, ry⟩ := repL1 r
    subst e
    obtain ⟨ds, es, hm, he, hz, h⟩ := h
    obtain ⟨u, qu, us, eu, rl⟩ := ok _ _ hm
    subst eu
    obtain ⟨b, ws, e, qb, rb⟩ := rep_own ok ry he
    subst e
    exact ⟨_, b, us, ws, rx, rfl, qu, qb, by rw [← rl.length, ← rb.length]; exact hz, z _ _ _ _ h (ok.write hm ⟨_, rfl, rl.append rb⟩) rfl (Ext.write hm)⟩
  · have e : vs = [] := r
    subst e
    obtain ⟨ds, y, hm, hy, h⟩ := h
    obtain ⟨u, qu, us, eu, rl⟩ := ok _ _ hm
    subst eu
    obtain ⟨w, hw, rw'⟩ := rl.get hy
    exact ⟨_, us, w, rx, rfl, qu, by rw [← rl.length]; exact hw, z _ _ _ _ h (ok.write hm ⟨_, rfl, rl.dropLast⟩) (rw'.ext (Ext.write hm)) (Ext.write hm)⟩
  · obtain ⟨y, e, ry⟩ := repL1 r
    subst e
    have e : y = .int _ := ry
    subst e
    obtain ⟨ds, k, d, hm, hi, h1, h2, hy, h⟩ := h
    obtain ⟨u, qu, us, eu, rl⟩ := ok _ _ hm
    subst eu
    obtain ⟨w, hw, rw'⟩ := rl.get hy
    exact ⟨_, us, _, k, w, rx, rfl, qu, h2, h1, (ixN_seq (by rw [← rl.length]; exact hi)).1, hw, z _ _ _ _ h (ok.write hm ⟨_, rfl, rl.eraseIdx k⟩) (rw'.ext (Ext.write hm)) (Ext.write hm)⟩
  · obtain ⟨y, w, e, ry, rw'⟩ := repL2 r
    subst e
    have e : y = .int _ := ry
    subst e
    obtain ⟨ds, hm, hz, h0, h1, h⟩ := h
    obtain ⟨u, qu, us, eu, rl⟩ := ok _ _ hm
    subst eu
    exact ⟨_, us, _, w, rx, rfl, qu, by rw [← rl.length]; exact hz, h0, h1, z _ _ _ _ h (ok.write hm ⟨_, rfl, rl.insert rw' _⟩) rfl (Ext.write hm)⟩
  · obtain ⟨y, e, ry⟩ := repL1 r
    subst e
    obtain ⟨ds, j, d, hl, hk, hj, he, hb, h⟩ := h
    obtain ⟨p, us, e, sq, rl⟩ := rep_lst ok rx hl
    rcases hk with ⟨fy, fs⟩ | ⟨⟨p1, s1⟩, ⟨p2, s2⟩⟩
    · obtain ⟨w, hw, rw'⟩ := rl.get hj
      have fd := fun (d : D) (hd : d ∈ ds) => List.all_eq_true.mp fs d hd
      refine .inl ⟨p, us, y, j, w, e, rfl, sq, (flat_rep fy ry).1, (flats_rep fy ry fs rl).1, hw, ?_, fun k z' hk hz => ?_, z.now ok h rfl⟩
      · rw [(flat_rep (fd d (List.mem_of_getElem? hj)) rw').2 _ y fy ry]; exact he
      · obtain ⟨d', hd', rd'⟩ := rl.getV hz
        rw [(flat_rep (fd d' (List.mem_of_getElem? hd')) rd').2 _ y fy ry]
        exact hb k d' hk hd'
    · unfold pureD at p2
      unfold toPy at s2
      refine .inr ⟨p, y, _, toPyL ds, j, toPy d, e, rfl, .lst sq (dps_of ok ds us p2 rl), dp_of ok _ y p1 ry, s2, s1, ?_, he, fun k z' hk hz => ?_, z.now ok h rfl⟩
      · rw [toPyL_get, hj]; rfl
      · rw [toPyL_get] at hz
        cases q : ds[k]? with
        | none => rw [q] at hz; cases hz
        | some d' =>
          rw [q] at hz
          cases hz
          exact hb k d' hk q
  · obtain ⟨y, e, ry⟩ := repL1 r
    subst e
    have e : y = .int _ := ry
    subst e
    obtain ⟨ns, hl, h⟩ := h
    obtain ⟨p, us, e, sq, rl⟩ := rep_lst ok rx hl
    subst e
    have e := rl.inv_int
    subst e
    exact ⟨p, ns, _, rfl, rfl, sq, z.now ok h rfl⟩
  · obtain ⟨y, e, ry⟩ := repL1 r
    subst e
    exact ⟨_, _, rx, by rw [show y = .str _ from ry], z.now ok h rfl⟩
  · obtain ⟨y, e, ry⟩ := repL1 r
    subst e
    obtain ⟨o, ho, h⟩ := h
    obtain ⟨a, w, e, g, f1, f2⟩ := dget_ok ok rx ry ho
    refine ⟨a, y, w, e, rfl, g, z.now ok h ?_⟩
    cases o with
    | none => rw [f2 rfl]; rfl
    | some d => obtain ⟨u, ew, ru⟩ := f1 d rfl; subst ew; exact ru
  · obtain ⟨y, d', e, ry, rd⟩ := repL2 r
    subst e
    obtain ⟨o, ho, h⟩ := h
    obtain ⟨a, w, e, g, f1, f2⟩ := dget_ok ok rx ry ho
    refine ⟨a, y, d', w, e, rfl, g, z.now ok h ?_⟩
    cases o with
    | none => rw [f2 rfl]; exact rd
    | some d => obtain ⟨u, ew, ru⟩ := f1 d rfl; subst ew; exact ru
  · exact h.elim

/-! ### isinstance -/
def isTys : List String := ["int", "bool", "str", "tuple", "list"]
theorem kit_isB {t n : String} (ht : t ∈ ["NoneType", "bool", "int", "str", "tuple", "list", "dict"]) (hn : n ∈ isTys) : kitB t n = some (isB t [n]) := by
  have h : (["NoneType", "bool", "int", "str", "tuple", "list", "dict"].all fun t => isTys.all fun n => decide (kitB t n = some (isB t [n]))) = true := by decide +kernel
  exact of_decide_eq_true (List.all_eq_true.mp (List.all_eq_true.mp h t ht) n hn)
theorem typeOfD_in {x : D} {t : String} (h : typeOfD M x = some t) : t ∈ ["NoneType", "bool", "int", "str", "tuple", "list", "dict"] := by
  unfold typeOfD at h
  split at h <;> first | (cases h; decide) | (split at h <;> first | (cases h; decide) | cases h) | cases h
theorem tyX_of {x : D} {v : V} {t : String} (ok : OkM G M H) (rx : Rep G M H x v) (h : typeOfD M x = some t) : TyX G.K H v (.type t) := by
  cases x with
  | non => cases h; have e : v = .non := rx; subst e; exact .base .non
  | bl b => cases h; have e : v = .bl b := rx; subst e; exact .base (.bl b)
  | int b => cases h; have e : v = .int b := rx; subst e; exact .base (.int b)
  | str b => cases h; have e : v = .str b := rx; subst e; exact .base (.str b)
  | tup ds => cases h; obtain ⟨a, vs, e, m, q, _⟩ := rx; subst e; exact .base (.tup q)
  | lst ds => cases h; obtain ⟨a, vs, e, m, q, _⟩ := rx; subst e; exact .base (.lst q)
  | mr a =>
    have e : v = .ref a := rx
    subst e
    unfold typeOfD at h
    simp only at h
    split at h
    · rename_i ds hm
      cases h
      obtain ⟨u, q, vs, eu, _⟩ := ok a _ hm
      subst eu
      exact .base (.lst q)
    · rename_i ds hm
      cases h
      obtain ⟨u, q, vs, eu, _⟩ := ok a _ hm
      subst eu
      exact .base (.dK q)
    · cases h
  | _ => cases h
theorem kitAny_isB {K : PySem.W.Frag} {t : String} (ht : t ∈ ["NoneType", "bool", "int", "str", "tuple", "list", "dict"]) : ∀ {ns : List String}, (∀ n ∈ ns, n ∈ isTys) → PySem.W.kitAny K (.type t) (ns.map Value.type) = some (isB t ns)
  | [], _ => rfl
  | n :: ns, h => by
    have h1 := kit_ty (K := K) (kit_isB ht (h n List.mem_cons_self))
    have h2 := kitAny_isB (K := K) ht fun k hk => h k (List.mem_cons_of_mem _ hk)
    have e : isB t (n :: ns) = (isB t [n] || isB t ns) := by simp [isB]
    rw [List.map_cons, e]
    exact kitAny_cons h1 (fun e => by rw [e, h2]; simp) fun e => by rw [e]; simp
end
end Ev

/-! Ev, part F: the small syntax stands for the text (chk), and what is shown of it holds of the text: expressions. -/
namespace Ev
open PySem PySem.Spec PyProof.Rows L2

/-! ### the static look -/
/-- the classes: fields, methods with their keys, those that are made with the key of their __init__, those that are raised, dicts of the module, what an except clause catches -/
structure Cst where
  fl : List (Str × Str) := []
  ms : List (Str × Str × Str) := []
  nw : List (Str × Str) := []
  xs : List Str := []
  kd : List (Str × List (Str × Int)) := []
  ca : List (Str × List Str) := []
  is : List (Str × Str) := []
structure Sc where
  N : List Str
  sc : Scope
  wr : Str → Bool
  fs : List Str
  cx : Cst
  top : Bool
def Sc.blk (S : Sc) (scope : Scope) : Sc :=
  { S with top := false, sc := relS scope S.sc, wr := fun x => match scope.names.lookup x with | some .local => true | some .cell => true | _ => false }
def notDbg (x : Str) : Bool := !(x == ("__debug__" : Str))
def visB (S : Sc) (i : Nat) (x : Str) : Bool :=
  decide (S.N[i]? = some x) && (match S.sc.names.lookup x with | some .local => true | some .cell => true | some .free => true | _ => false) && notDbg x && !(x == ("__classdict__" : Str))
def glB (S : Sc) (x : Str) : Bool := decide (S.sc.names.lookup x = some .globalImplicit) && notDbg x
def bnames : List Str := ["ValueError", "len", "abs", "max", "min", "sum", "int", "bool", "str", "list", "tuple", "sorted", "all", "range", "enumerate", "zip", "isinstance", "dict"]
/-- the names of types in a second argument of isinstance -/
def chkTy (S : Sc) (n : String) : Expr → Bool
  | .Name x _ => decide (x = Str.ofString n) && glB S x && decide (n ∈ isTys) && decide (x ∈ bnames)
  | _ => false
def chkTys (S : Sc) : List String → List Expr → Bool
  | [], [] => true
  | n :: ns, e :: es => chkTy S n e && chkTys S ns es
  | _, _ => false
def plainCall (args : List Expr) : Bool := args.all fun e => match e with | .Starred .. => false | _ => true
def ownP (S : Sc) (own : List Nat) : List (Str × Nat) := own.filterMap fun i => (S.N[i]?).map fun x => (x, i)
def noCall : Expr → Bool
  | .Call .. => false
  | _ => true
def isTupE : Expr → Bool
  | .Tuple .. => true
  | _ => false
def keysT : List Str → List (Option Expr) → Bool
  | [], [] => true
  | k :: ks, some (.Constant (.str x) _ _) :: es => decide (x = k) && keysT ks es
  | _, _ => false
mutual
def chkE : E → Sc → Expr → Bool
  | .v i, S, e => match e with | .Name x _ => visB S i x | _ => false
  | .g y, S, e => match e with | .Name x _ => decide (x = y) && glB S x | _ => false
  | .int i, _, e => match e with | .Constant (.int j) _ _ => decide (i = j) | _ => false
  | .str x, _, e => match e with | .Constant (.str y) _ _ => decide (x = y) | _ => false
  | .bl b, _, e => match e with | .Constant (.bool c) _ _ => b == c | _ => false
  | .non, _, e => match e with | .Constant .none _ _ => true | _ => false
  | .bin op _ a b, S, e => match e with | .BinOp x op' y _ => decide (op = op') && chkE a S x && chkE b S y | _ => false
  | .neg a, S, e => match e with | .UnaryOp .USub x _ => chkE a S x | _ => false
  | .cmp op a b, S, e => match e with | .Compare x [op'] [y] _ => decide (op = op') && chkE a S x && chkE b S y | _ => false
  | .chain o o' a b c, S, e => match e with | .Compare x [p, p'] [y, z] _ => decide (o = p) && decide (o' = p') && chkE a S x && chkE b S y && chkE c S z &&
      (match p with | .In => false | .NotIn => false | _ => true) && (match p' with | .In => false | .NotIn => false | _ => true) | _ => false
  | .and a b, S, e => match e with | .BoolOp .And (x :: y :: r) pos => chkE a S x && chkE b S (.BoolOp .And (y :: r) pos) | _ => false
  | .or a b, S, e => match e with | .BoolOp .Or (x :: y :: r) pos => chkE a S x && chkE b S (.BoolOp .Or (y :: r) pos) | _ => false
  | .one a, S, e => match e with | .BoolOp _ [x] _ => chkE a S x | _ => false
  | .not a, S, e => match e with | .UnaryOp .Not x _ => chkE a S x | _ => false
  | .tup es, S, e => match e with | .Tuple xs _ _ => chkA es S xs | _ => false
  | .lst _ es, S, e => match e with | .List xs _ => chkA es S xs | _ => false
  | .dict _, _, e => match e with | .Dict [] [] _ => true | _ => false
  | .ix a i, S, e => match e with | .Subscript x y _ => chkE a S x && chkE i S y | _ => false
  | .sl _ a lo hi, S, e => match e with | .Subscript x (.Slice l h none _) _ => chkE a S x && (match l with | none => isNop lo | some y => chkE lo S y) && (match h with | none => isNop hi | some y => chkE hi S y) | _ => false
  | .nop, _, _ => false
  | .fld c a f, S, e => match e with | .Attribute x g _ => decide (g = f) && decide ((c, f) ∈ S.cx.fl) && chkE a S x && noCall x | _ => false
  | .mcall c m k o es, S, e => match e with
    | .Call (.Attribute x n apos) args [] cpos => decide (n = m) && decide ((c, m, k) ∈ S.cx.ms) && chkE o S x && noCall x && chkA es S args && (apos.endLine == cpos.line) && decide (args.length < 30)
    | _ => false
  | .make c k es, S, e => match e with | .Call (.Name x _) args [] _ => decide (x = c) && glB S x && decide ((c, k) ∈ S.cx.nw) && chkA es S args | _ => false
  | .kix x tab i, S, e => match e with | .Subscript (.Name y _) z _ => decide (y = x) && glB S x && decide ((x, tab) ∈ S.cx.kd) && chkE i S z | _ => false
  | .call f es, S, e => match e with | .Call (.Name x _) args [] _ => decide (x = f) && glB S x && decide (f ∈ S.fs) && chkA es S args | _ => false
  | .bi b _ es, S, e => match e with | .Call (.Name x _) (a :: r) [] _ => decide (x = b.name) && glB S x && decide (x ∈ bnames) && chkA es S (a :: r) | _ => false
  | .isi a ts, S, e => match e with | .Call (.Name x _) [o, t] [] _ => decide (x = "isinstance") && glB S x && chkE a S o && decide (ts.length ≤ 20) &&
      (match t with | .Tuple ns _ _ => chkTys S ts ns | t => (match ts with | [n] => chkTy S n t | _ => false)) | _ => false
  | .meth n _ o es, S, e => match e with
    | .Call (.Attribute x m apos) args [] cpos => decide (m = n.name) && chkE o S x && noCall x && chkA es S args && (apos.endLine == cpos.line) && decide (args.length < 30)
    | _ => false
  | .rg t _ two a b, S, e => match e with
    | .Call (.Name x _) [.Call (.Name y _) args [] _] [] _ => decide (x = if t then ("tuple" : Str) else ("list" : Str)) && glB S x && decide (y = "range") && glB S y &&
        (match args with
        | [p] => !two && chkE a S p && isNop b
        | [p, q] => two && chkE a S p && chkE b S q
        | _ => false)
    | _ => false
  | .lc _ elt tg it cond own, S, e => match e with
    | .ListComp el [⟨t, i, ifs, 0⟩] scope _ => chkI it S t i && blkC S.N S.sc scope (ownP S own) && decide ((ownP S own).map (·.2) = own) && chkT tg (S.blk scope) t && chkE elt (S.blk scope) el &&
        decide (∀ j ∈ slotsT tg, j ∈ own) &&
        (match ifs with
        | [] => isNop cond
        | [c] => chkE cond (S.blk scope) c
        | _ => false)
    | _ => false
  | .frz a, S, e => chkE a S e
  | .dict1 k v, S, e => match e with | .Dict [some x] [y] _ => chkE k S x && chkE v S y | _ => false
  | .lock a, S, e => chkE a S e
  | .sortLen _ a, S, e => match e with | .Call (.Name x _) [y] [⟨some kw, .Name z _, _⟩] _ => decide (x = "sorted") && glB S x && decide (kw = "key") && decide (z = "len") && glB S z && chkE a S y | _ => false
  | .sp .maxV _ a _, S, e => match e with | .Call (.Name x _) [.Call (.Attribute y n apos) [] [] cpos] [⟨some kw, .Constant .none _ _, _⟩] _ => decide (x = "max") && glB S x && decide (kw = "default") && decide (n = "values") && chkE a S y && noCall y && (apos.endLine == cpos.line) | _ => false
  | .sp .maxD _ a b, S, e => match e with | .Call (.Name x _) [y] [⟨some kw, z, _⟩] _ => decide (x = "max") && glB S x && decide (kw = "default") && chkE a S y && chkE b S z | _ => false
  | .sp .zipL _ a b, S, e => match e with | .Call (.Name x _) [.Call (.Name y _) [c, d] [] _] [] _ => decide (x = "list") && glB S x && decide (y = "zip") && glB S y && chkE a S c && chkE b S d | _ => false
  | .sp .join _ a b, S, e => match e with | .Call (.Attribute x n apos) [y] [] cpos => decide (n = "join") && chkE a S x && noCall x && chkE b S y && (apos.endLine == cpos.line) | _ => false
  | .sp .split _ a b, S, e => match e with | .Call (.Attribute x n apos) [y] [] cpos => decide (n = "split") && chkE a S x && noCall x && chkE b S y && (apos.endLine == cpos.line) | _ => false
  | .sp .cntS _ a b, S, e => match e with | .Call (.Attribute x n apos) [y] [] cpos => decide (n = "count") && chkE a S x && noCall x && chkE b S y && (apos.endLine == cpos.line) | _ => false
  | .sp .tIx _ a b, S, e => match e with | .Call (.Attribute x n apos) [y] [] cpos => decide (n = "index") && chkE a S x && noCall x && chkE b S y && (apos.endLine == cpos.line) | _ => false
  | .sp .kOne _ a _, S, e => match e with | .Tuple [x] _ _ => chkE a S x | _ => false
  | .sp .kAdd _ a b, S, e => match e with | .BinOp x .Add y _ => chkE a S x && chkE b S y | _ => false
  | .sp .kTupL _ a _, S, e => match e with | .Call (.Name x _) [y] [] _ => decide (x = "tuple") && glB S x && chkE a S y | _ => false
  | .sp .mulS _ a b, S, e => match e with | .BinOp x .Mult y _ => chkE a S x && chkE b S y | _ => false
  | .disp ks es, S, e => match e with | .Dict (k0 :: kr) vs _ => keysT ks (k0 :: kr) && chkA es S vs && decide (ks.Nodup) && decide (ks.length = vs.length) && decide (ks.length ≤ 15) | _ => false
  | .sst _ a lo hi st, S, e => match e with | .Subscript x (.Slice (some l) (some (.Constant (.int h) _ _)) (some (.Constant (.int t) _ _)) _) _ => chkE a S x && chkE lo S l && decide (h = (hi : Int)) && decide (t = (st : Int)) && decide (st ≠ 0) | _ => false
  | .items _, _, _ => false
  | .keys _, _, _ => false
  | .rev _ a, S, e => match e with | .Subscript x (.Slice none none (some (.UnaryOp .USub (.Constant (.int j) _ _) _)) _) _ => decide (j = 1) && chkE a S x | _ => false
  | .nil, _, _ => false
  | .cons _ _, _, _ => false
  | .over _, _, _ => false
  | .rng1 _, _, _ => false
  | .rng2 _ _, _, _ => false
  | .enum _, _, _ => false
  | .zip _ _, _, _ => false
def chkA : E → Sc → List Expr → Bool
  | .nil, _, l => match l with | [] => true | _ => false
  | .cons a es, S, l => match l with | x :: xs => chkE a S x && chkA es S xs | _ => false
  | _, _, _ => false
def chkI : E → Sc → Expr → Expr → Bool
  | .over a, S, _, e => chkE a S e
  | .rng1 a, S, _, e => match e with | .Call (.Name x _) [p] [] _ => decide (x = "range") && glB S x && chkE a S p | _ => false
  | .rng2 a b, S, _, e => match e with | .Call (.Name x _) [p, q] [] _ => decide (x = "range") && glB S x && chkE a S p && chkE b S q | _ => false
  | .enum a, S, t, e => match e with | .Call (.Name x _) [p] [] _ => decide (x = "enumerate") && glB S x && chkE a S p && isTupE t | _ => false
  | .keys a, S, _, e => chkE a S e
  | .items a, S, t, e => match e with | .Call (.Attribute x m apos) [] [] cpos => decide (m = "items") && chkE a S x && noCall x && (apos.endLine == cpos.line) && isTupE t | _ => false
  | .zip a b, S, t, e => match e with | .Call (.Name x _) [p, q] [] _ => decide (x = "zip") && glB S x && chkE a S p && chkE b S q && isTupE t | _ => false
  | _, _, _, _ => false
def chkT : E → Sc → Expr → Bool
  | .v i, S, e => match e with | .Name x _ => decide (S.N[i]? = some x) && S.wr x | _ => false
  | .tup es, S, e => match e with | .Tuple xs _ _ => chkTs es S xs | _ => false
  | .ix a i, S, e => match e with | .Subscript x y _ => chkE a S x && chkE i S y | _ => false
  | _, _, _ => false
def chkTs : E → Sc → List Expr → Bool
  | .nil, _, l => match l with | [] => true | _ => false
  | .cons a es, S, l => match l with | x :: xs => chkT a S x && chkTs es S xs | _ => false
  | _, _, _ => false
def slotsT : E → List Nat
  | .v i => [i]
  | .tup es => slotsT es
  | .cons a es => slotsT a ++ slotsT es
  | _ => []
end
end Ev

/-! Ev, part G: what holds of the small syntax holds of the text: the lifts, and each form of expression. -/
namespace Ev
open PySem PySem.Spec PyProof.Rows L2

/-- the slots bear the names' data -/
def RepS (G : Gx) (M : Mem) (H : Hp) (σ : Env) (σV : L2.St) : Prop := σ.length = σV.length ∧ ∀ (i : Nat) d, σ[i]? = some (some d) → ∃ v, σV[i]? = some (some v) ∧ Rep G M H d v
def Stt (G : Gx) (M0 : Mem) (H0 : Hp) (σ : Env) (M : Mem) (σV : L2.St) (H : Hp) : Prop := Ext M0 H0 M H ∧ RepS G M H σ σV ∧ OkM G M H
section
variable {G : Gx} {M0 : Mem} {H0 : Hp}
theorem RepS.ext {M M' : Mem} {H H' : Hp} {σ : Env} {σV : L2.St} (x : Ext M H M' H') (r : RepS G M H σ σV) : RepS G M' H' σ σV := ⟨r.1, fun i d e => let ⟨v, a, b⟩ := r.2 i d e; ⟨v, a, b.ext x⟩⟩
theorem RepS.set {M : Mem} {H : Hp} {σ : Env} {σV : L2.St} (r : RepS G M H σ σV) {i : Nat} {d : D} {v : V} (rd : Rep G M H d v) : RepS G M H (σ.set i (some d)) (σV.set i (some v)) := by
  refine ⟨by simp [r.1], fun j e h => ?_⟩
  by_cases q : i = j
  · subst q
    rw [List.getElem?_set] at h
    split at h
    · split at h
      · cases h
        rename_i hl
        rw [List.getElem?_set, if_pos rfl, if_pos (by rw [← r.1]; exact hl)]
        exact ⟨v, rfl, rd⟩
      · cases h
    · rename_i z; exact absurd rfl z
  · rw [List.getElem?_set_ne q] at h ⊢
    exact r.2 j e h
theorem RepS.forget {M : Mem} {H : Hp} {σ : Env} {σV : L2.St} (r : RepS G M H σ σV) (i : Nat) : RepS G M H (σ.set i none) (σV.set i none) := by
  refine ⟨by simp [r.1], fun j e h => ?_⟩
  by_cases q : i = j
  · subst q
    rw [List.getElem?_set] at h
    split at h
    · split at h <;> cases h
    · rename_i z; exact absurd rfl z
  · rw [List.getElem?_set_ne q] at h ⊢
    exact r.2 j e h
theorem RepS.wipe {M : Mem} {H : Hp} {σ : Env} {σV : L2.St} (r : RepS G M H σ σV) : ∀ l : List Nat, RepS G M H (wipeD σ l) (L2.wipe σV l)
  | [] => r
  | i :: l => (RepS.wipe r l).forget i
theorem Stt.ext {σ : Env} {M M' : Mem} {σV : L2.St} {H H' : Hp} (s : Stt G M0 H0 σ M σV H) (x : Ext M H M' H') (ok : OkM G M' H') : Stt G M0 H0 σ M' σV H' := ⟨s.1.trans x, s.2.1.ext x, ok⟩

/-! ### the lifts -/
def lift (G : Gx) (M0 : Mem) (H0 : Hp) (te : Env → Mem → VQ → Prop) : TE := fun σV H Q => ∃ σ M Q0, Stt G M0 H0 σ M σV H ∧ te σ M Q0 ∧ Rz G M H Q0 Q
def liftA (G : Gx) (M0 : Mem) (H0 : Hp) (te : Env → Mem → (List D → Mem → Prop) → Prop) : TA := fun σV H Q => ∃ σ M Q0, Stt G M0 H0 σ M σV H ∧ te σ M Q0 ∧
  ∀ ds M' vs H', Q0 ds M' → OkM G M' H' → RepL G M' H' ds vs → Ext M H M' H' → Q vs H'
def liftB (G : Gx) (M0 : Mem) (H0 : Hp) (te : Env → Mem → (Bool → Mem → Prop) → Prop) : TT := fun σV H Q => ∃ σ M Q0, Stt G M0 H0 σ M σV H ∧ te σ M Q0 ∧
  ∀ b M' H', Q0 b M' → OkM G M' H' → Ext M H M' H' → Q b H'
/-- the iterator yields the items while the thing stands still -/
def ItOk (G : Gx) (M1 : Mem) (H1 : Hp) (J : It) (ds : List D) (still : Mem → Prop) : Prop := ∀ (i : Nat) M H, Ext M1 H1 M H → OkM G M H → still M →
  (∀ d, ds[i]? = some d → J.go i H ∧ ∀ x H', J.yld i H x H' → Ext M H M H' ∧ OkM G M H' ∧ Rep G M H' d x) ∧ (i = ds.length → J.stop i H)
def liftI (G : Gx) (M0 : Mem) (H0 : Hp) (te : Env → Mem → (List D → (Mem → Prop) → Mem → Prop) → Prop) : TI := fun σV H R => ∃ σ M Q0, Stt G M0 H0 σ M σV H ∧ te σ M Q0 ∧
  ∀ ds still M' J H', Q0 ds still M' → OkM G M' H' → Ext M H M' H' → ItOk G M' H' J ds still → R J H'
def liftT (G : Gx) (M0 : Mem) (H0 : Hp) (sl : List Nat) (te : D → Env → Mem → (Env → Mem → Prop) → Prop) : TG := fun v σV H Q => ∃ d σ M Q0, Rep G M H d v ∧ Stt G M0 H0 σ M σV H ∧ te d σ M Q0 ∧
  ∀ σ' M' σV' H', Q0 σ' M' → RepS G M' H' σ' σV' → OkM G M' H' → Ext M H M' H' → (∀ own : List Nat, (∀ i ∈ sl, i ∈ own) → L2.wipe σV' own = L2.wipe σV own) → Q σV' H'
def liftTs (G : Gx) (M0 : Mem) (H0 : Hp) (sl : List Nat) (te : List D → Env → Mem → (Env → Mem → Prop) → Prop) : TGs := fun vs σV H Q => ∃ ds σ M Q0, RepL G M H ds vs ∧ Stt G M0 H0 σ M σV H ∧ te ds σ M Q0 ∧
  ∀ σ' M' σV' H', Q0 σ' M' → RepS G M' H' σ' σV' → OkM G M' H' → Ext M H M' H' → (∀ own : List Nat, (∀ i ∈ sl, i ∈ own) → L2.wipe σV' own = L2.wipe σV own) → Q σV' H'
end
theorem PE.imp {X : Cx} {e : Expr} {t t' : TE} (h : PE X e t) (k : ∀ σ H Q, t' σ H Q → t σ H Q) : PE X e t' := ⟨fun pins s σ H Q I q => h.run pins s σ H Q I (k σ H Q q)⟩
theorem PT.imp {X : Cx} {e : Expr} {t t' : TT} (h : PT X e t) (k : ∀ σ H Q, t' σ H Q → t σ H Q) : PT X e t' := ⟨fun pins s σ H Q I q => h.run pins s σ H Q I (k σ H Q q)⟩
theorem PW.imp {X : Cx} {e : Expr} {t t' : TT} (h : PW X e t) (k : ∀ σ H Q, t' σ H Q → t σ H Q) : PW X e t' := ⟨fun wh pins s σ H Q I q => h.run wh pins s σ H Q I (k σ H Q q)⟩
theorem PA.imp {X : Cx} {e : List Expr} {t t' : TA} (h : PA X e t) (k : ∀ σ H Q, t' σ H Q → t σ H Q) : PA X e t' := ⟨fun p pins s σ H Q I q => h.run p pins s σ H Q I (k σ H Q q)⟩
theorem PI.imp {X : Cx} {tg e : Expr} {t t' : TI} (h : PI X tg e t) (k : ∀ σ H Q, t' σ H Q → t σ H Q) : PI X tg e t' := ⟨fun pins s σ H Q I q => h.run pins s σ H Q I (k σ H Q q)⟩
theorem PG.imp {X : Cx} {e : Expr} {t t' : TG} (h : PG X e t) (k : ∀ v σ H Q, t' v σ H Q → t v σ H Q) : PG X e t' := ⟨fun pins s σ H v u Q I r q => h.run pins s σ H v u Q I r (k v σ H Q q)⟩
theorem PGs.imp {X : Cx} {e : List Expr} {t t' : TGs} (h : PGs X e t) (k : ∀ v σ H Q, t' v σ H Q → t v σ H Q) : PGs X e t' := ⟨fun pins s σ H v u Q I r q => h.run pins s σ H v u Q I r (k v σ H Q q)⟩
theorem PS.imp {X : Cx} {e : Stmt} {t t' : TS} (h : PS X e t) (k : ∀ D σ H, t' D σ H → t D σ H) : PS X e t' := ⟨fun pins s σ H D I q => h.run pins s σ H D I (k D σ H q)⟩
theorem PSs.imp {X : Cx} {e : List Stmt} {t t' : TS} (h : PSs X e t) (k : ∀ D σ H, t' D σ H → t D σ H) : PSs X e t' := ⟨fun pins s σ H D I q => h.run pins s σ H D I (k D σ H q)⟩
theorem pe_false {X : Cx} {e : Expr} : PE X e (fun _ _ _ => False) := ⟨fun _ _ _ _ _ _ h => h.elim⟩
theorem pt_false {X : Cx} {e : Expr} : PT X e (fun _ _ _ => False) := ⟨fun _ _ _ _ _ _ h => h.elim⟩
theorem PE.none {X : Cx} {e : Expr} {t : TE} (h : ∀ σ H Q, ¬ t σ H Q) : PE X e t := ⟨fun _ _ _ _ _ _ q => (h _ _ _ q).elim⟩
theorem PT.none {X : Cx} {e : Expr} {t : TT} (h : ∀ σ H Q, ¬ t σ H Q) : PT X e t := ⟨fun _ _ _ _ _ _ q => (h _ _ _ q).elim⟩

/-! ### the context -/
def wishE (G : Gx) (W : WQ) (M0 : Mem) (H0 : Hp) : XK := fun cls d H => ∃ c C M, W c M ∧ G.cls c = some C ∧ cls = .ref C ∧ d = none ∧ OkM G M H ∧ Ext M0 H0 M H
structure CallOk (X : Cx) (G : Gx) (F : Fx) (f : Str) : Prop where
  ex : ∃ (k : Nat) (fa : Addr) (fd : FuncData) (ps : List Str) (sp : Sp), FnOk X.prog X.w X.K X.mg X.base (L2.CX X.prog X.w) k fa fd ps sp ∧ Room k X.A ∧ X.mg f = some (.ref fa) ∧ PySem.W.keepIn X.K (.ref fa) = true ∧ Binds X.K fd ps [] ∧
    ∀ ds M W vs H Q0 Q E, F.call f ds M Q0 W → OkM G M H → RepL G M H ds vs → Rz G M H Q0 Q → (∀ c M' H', W c M' → OkM G M' H' → Ext M H M' H' → ∀ C, G.cls c = some C → E (.ref C) none H') → sp vs H Q E
/-- the key's def runs, r units of room left behind it -/
def RunOk (X : Cx) (G : Gx) (F : Fx) (r : Nat) (fa : Addr) (k : Str) : Prop :=
  ∃ (n : Nat) (fd : FuncData) (ps : List Str) (sp : Sp), FnOk X.prog X.w X.K X.mg X.base (L2.CX X.prog X.w) n fa fd ps sp ∧ Room (n + r) X.A ∧ Binds X.K fd ps [] ∧
    ∀ ds M W vs H Q0 Q E, F.call k ds M Q0 W → OkM G M H → RepL G M H ds vs → Rz G M H Q0 Q → (∀ c M' H', W c M' → OkM G M' H' → Ext M H M' H' → ∀ C, G.cls c = some C → E (.ref C) none H') → sp vs H Q E
def MethOk (X : Cx) (G : Gx) (F : Fx) (c m k : Str) : Prop := ∃ C fa, G.cls c = some C ∧ Cls X.K C ∧ Meth X.K C m fa ∧ RunOk X G F 0 fa k
def MakeOk (X : Cx) (G : Gx) (F : Fx) (c k : Str) : Prop := ∃ C fa, G.cls c = some C ∧ X.mg c = some (.ref C) ∧ Mk X.K C fa ∧ RunOk X G F 1 fa k
def FldOk (G : Gx) (c f : Str) : Prop := ∃ C, G.cls c = some C ∧ Cls G.K C ∧ NoAttr G.K C f
def veB : List Value := [.type "ValueError", .type "Exception", .type "BaseException", .type "object"]
/-- a class that is raised -/
def XcOk (G : Gx) (mg : Str → Option Value) (c : Str) : Prop :=
  ∃ C, G.cls c = some C ∧ mg c = some (.ref C) ∧ PySem.W.excIn G.K C veB "ValueError.__new__" = true ∧ PySem.W.keepIn G.K (.ref C) = true ∧ PySem.W.subIn G.K (.ref C) (.type "BaseException") = some true ∧ PySem.W.typeIn G.K (.ref C) = some (.type "type")
def KdOk (G : Gx) (mg : Str → Option Value) (x : Str) (tab : List (Str × Int)) : Prop := ∃ p, mg x = some (.ref p) ∧ ∀ z n, tab.lookup z = some n → KDct G.K G.w p z (.int n)
/-- what the clause of a class catches -/
def CaOk (G : Gx) (mg : Str → Option Value) (c : Str) (ys : List Str) : Prop :=
  ∃ C, mg c = some (.ref C) ∧ ∀ y ∈ ys, ∃ Y, G.cls y = some Y ∧ PySem.W.exmOne G.K (.ref Y) (.ref C) = some true ∧ ExcC G.K Y ∧ PySem.W.kitOne G.K (.ref Y) (.type "ValueError") = some true
/-- isinstance asks the one class's instances about the other -/
def IsOk (G : Gx) (mg : Str → Option Value) (y c : Str) : Prop := ∃ Y C, G.cls y = some Y ∧ mg c = some (.ref C) ∧ PySem.W.kitOne G.K (.ref Y) (.ref C) = some (decide (y = c))
structure Sta (X : Cx) (S : Sc) (G : Gx) (F : Fx) (W : WQ) (M0 : Mem) (H0 : Hp) : Prop where
  N : X.N = S.N
  nd : S.N.Nodup
  sc : X.env.scope = S.sc
  calm : X.calm = true
  K : X.K = G.K
  P : X.prog = G.P
  w : X.w = G.w
  wr : ∀ x, S.wr x = true → Loc X.env.scope x ∧ (X.fn x = true ∨ X.env.scope.names.lookup x = some .local)
  bn : ∀ x ∈ bnames, X.mg x = none
  gl : ∀ x d, F.glob x = some d → ∃ u v, X.mg x = some u ∧ RelV v u ∧ ∀ M H, Rep G M H d v
  fns : ∀ f ∈ S.fs, CallOk X G F f
  pass : Passes (L2.CX X.prog X.w) X (wishE G W M0 H0)
  own : PassesOwn (model X.prog X.w) X.A X.env X.xe
  hu : X.A.units + 65 < cLine
  ms : ∀ t ∈ S.cx.ms, MethOk X G F t.1 t.2.1 t.2.2
  nw : ∀ t ∈ S.cx.nw, MakeOk X G F t.1 t.2
  fl : ∀ t ∈ S.cx.fl, FldOk G t.1 t.2
  xs : ∀ c ∈ S.cx.xs, XcOk G X.mg c
  kd : ∀ t ∈ S.cx.kd, KdOk G X.mg t.1 t.2
  ca : ∀ t ∈ S.cx.ca, CaOk G X.mg t.1 t.2
  is : ∀ t ∈ S.cx.is, IsOk G X.mg t.1 t.2
  tk : S.top = true → L2.Takes X (fun cls d _ H => wishE G W M0 H0 cls d H)
  stk : S.top = true → X.stack = X.env :: X.outer ∧ X.env.frame = some X.env.locals

section
variable {X : Cx} {S : Sc} {G : Gx} {F : Fx} {W : WQ} {M0 : Mem} {H0 : Hp} {m m2 m3 : E} {a b c : Expr} {ta tb tc : Env → Mem → VQ → Prop}
theorem ne_dbg {x : Str} (h : notDbg x = true) : (x == ("__debug__" : Str)) = false := by
  unfold notDbg at h
  simpa using h
theorem Sta.gl_of (Z : Sta X S G F W M0 H0) {x : Str} (h : glB S x = true) : Gl X x ∧ (x == ("__debug__" : Str)) = false := by
  unfold glB at h
  rw [Bool.and_eq_true] at h
  refine ⟨?_, ne_dbg h.2⟩
  show X.env.scope.names.lookup x = _
  rw [Z.sc]
  exact of_decide_eq_true h.1

theorem s_v (Z : Sta X S G F W M0 H0) {i : Nat} {x : Str} {pos : Pos} (h : visB S i x = true) : PE X (.Name x pos) (lift G M0 H0 (wpE F W (.v i))) := by
  unfold visB at h
  simp only [Bool.and_eq_true] at h
  obtain ⟨⟨⟨h1, h2⟩, h3⟩, h4⟩ := h
  have hv : Vis X.env.scope x := by
    show X.env.scope.names.lookup x = _ ∨ X.env.scope.names.lookup x = _ ∨ X.env.scope.names.lookup x = _
    rw [Z.sc]
    split at h2 <;> first | exact .inl (by assumption) | exact .inr (.inl (by assumption)) | exact .inr (.inr (by assumption)) | cases h2
  refine PE.imp (pe_var (i := i) (by rw [Z.N]; exact of_decide_eq_true h1) hv (ne_dbg h3) (by simpa using h4)) fun σ H Q ⟨σD, M, Q0, s, ⟨d, e, q⟩, z⟩ => ?_
  obtain ⟨v, ev, r⟩ := s.2.1.2 i d e
  exact ⟨v, ev, z.now s.2.2 q r⟩
theorem s_g (Z : Sta X S G F W M0 H0) {x : Str} {pos : Pos} (h : glB S x = true) : PE X (.Name x pos) (lift G M0 H0 (wpE F W (.g x))) := by
  obtain ⟨g, nd⟩ := Z.gl_of h
  refine ⟨fun pins s σ H Q I ⟨σD, M, Q0, st, ⟨d, e, q⟩, z⟩ => ?_⟩
  obtain ⟨u, v, hm, r, rp⟩ := Z.gl x d e
  exact (pe_glob g hm r nd).run pins s σ H Q I (z.now st.2.2 q (rp _ _))
theorem s_c {e : Expr} {v : V} {d : D} (h : PE X e (tC v)) (r : ∀ M H, Rep G M H d v) : PE X e (lift G M0 H0 fun _ M Q => Q d M) :=
  PE.imp h fun σ H Q ⟨σD, M, Q0, s, q, z⟩ => z.now s.2.2 q (r _ _)
/-- two in a row -/
theorem lift2 {r : R2} {k : Mem → D → D → VQ → Prop}
    (hk : ∀ M H x y xv yv (Q0 : VQ) (Q : VK), OkM G M H → Rep G M H x xv → Rep G M H y yv → k M x y Q0 → Rz G M H Q0 Q → r xv yv H Q) {σ : L2.St} {H : Hp} {Q : VK}
    (h : lift G M0 H0 (fun σ M Q => ta σ M fun x M1 => tb σ M1 fun y M2 => k M2 x y Q) σ H Q) : tOp r (lift G M0 H0 ta) (lift G M0 H0 tb) σ H Q := by
  obtain ⟨σD, M, Q0, s, q, z⟩ := h
  refine ⟨σD, M, _, s, q, fun x M1 xv H1 q1 ok1 rx e1 => ?_⟩
  refine ⟨σD, M1, _, s.ext e1 ok1, q1, fun y M2 yv H2 q2 ok2 ry e2 => ?_⟩
  exact hk M2 H2 x y xv yv Q0 Q ok2 (rx.ext e2) ry q2 (z.on (e1.trans e2))
theorem s_bin (Z : Sta X S G F W M0 H0) {op : Operator} {mu : Bool} {pos : Pos} (ha : PE X a (lift G M0 H0 (wpE F W m))) (hb : PE X b (lift G M0 H0 (wpE F W m2))) : PE X (.BinOp a op b pos) (lift G M0 H0 (wpE F W (.bin op mu m m2))) :=
  PE.imp (pe_op (op_bin op) ha hb) fun σ H Q h => lift2 (k := fun M x y Q => binQ op mu M x y Q) (fun M H x y xv yv Q0 Q ok rx ry q z => by rw [Z.K]; (try rw [Z.P, Z.w]); exact bin_ok ok rx ry q z) h
theorem s_neg {pos : Pos} (ha : PE X a (lift G M0 H0 (wpE F W m))) : PE X (.UnaryOp .USub a pos) (lift G M0 H0 (wpE F W (.neg m))) :=
  PE.imp (pe_un un_neg ha) fun σ H Q ⟨σD, M, Q0, s, q, z⟩ => ⟨σD, M, _, s, q, fun x M1 xv H1 ⟨i, e, q1⟩ ok1 rx e1 => by
    subst e
    exact ⟨i, rx, (z.on e1).now ok1 q1 rfl⟩⟩
theorem chk_set : ∀ (m : E) {S : Sc} {l : List Expr} {k : Nat} {p : Pos}, chkE m S (.Set l k p) = false := by
  intro m
  induction m <;> intros <;> first | rfl | (rename_i kk _ _ _ _ _ _ _ _ _; cases kk <;> rfl) | (rename_i kk _ _ _ _ _ _ _ _; cases kk <;> rfl) | (rename_i kk _ _ _ _ _ _ _ _ _ _; cases kk <;> rfl) | (rename_i ih _ _ _ _; exact ih) | (rename_i ih _ _ _; exact ih) | (rename_i ih _ _ _ _ _; exact ih)
theorem chk_star : ∀ (m : E) {S : Sc} {x : Expr} {p : Pos}, chkE m S (.Starred x p) = false := by
  intro m
  induction m <;> intros <;> first | rfl | (rename_i kk _ _ _ _ _ _ _ _ _; cases kk <;> rfl) | (rename_i kk _ _ _ _ _ _ _ _; cases kk <;> rfl) | (rename_i kk _ _ _ _ _ _ _ _ _ _; cases kk <;> rfl) | (rename_i ih _ _ _ _; exact ih) | (rename_i ih _ _ _; exact ih) | (rename_i ih _ _ _ _ _; exact ih)
theorem chk_slice : ∀ (m : E) {S : Sc} {x y z : Option Expr} {p : Pos}, chkE m S (.Slice x y z p) = false := by
  intro m
  induction m <;> intros <;> first | rfl | (rename_i kk _ _ _ _ _ _ _ _ _; cases kk <;> rfl) | (rename_i kk _ _ _ _ _ _ _ _; cases kk <;> rfl) | (rename_i kk _ _ _ _ _ _ _ _ _ _; cases kk <;> rfl) | (rename_i ih _ _ _ _ _; exact ih)
theorem cmp_mark {op : CmpOp} {d : Expr} {S : Sc} {mm : E} (h : chkE mm S d = true) : behindInMarks op d = false := by
  cases d with
  | Set elts k p => rw [chk_set] at h; cases h
  | _ => rfl
theorem star_cons {d : Expr} {r : List Expr} {S : Sc} {mm : E} {env : PySem.Env} (h : chkE mm S d = true) : starEach (d :: r) env = (false, eval d env) :: starEach r env := by
  cases d with
  | Starred x p => rw [chk_star] at h; cases h
  | _ => rfl
theorem star_false : ∀ (es : E) {r : List Expr} {S : Sc} {env : PySem.Env} {pos : Pos}, chkA es S r = true → (backTo pos (starEach r env)).any (·.1) = false := by
  intro es
  induction es with
  | nil =>
    intro r S env pos h
    cases r with
    | nil => rfl
    | cons x xs => exact Bool.noConfusion (show false = true from h)
  | cons a es _ ih =>
    intro r S env pos h
    cases r with
    | nil => exact Bool.noConfusion (show false = true from h)
    | cons x xs =>
      have h : (chkE a S x && chkA es S xs) = true := h
      rw [Bool.and_eq_true] at h
      have q := ih (env := env) (pos := pos) h.2
      rw [star_cons h.1]
      unfold backTo at q ⊢
      rw [List.map_cons, List.any_cons, q]
      rfl
  | _ => intro r S env pos h; exact Bool.noConfusion (show false = true from h)
theorem s_cmp (Z : Sta X S G F W M0 H0) {op : CmpOp} {pos : Pos} (ha : PE X a (lift G M0 H0 (wpE F W m))) (hb : PE X b (lift G M0 H0 (wpE F W m2))) (hk : chkE m2 S b = true) :
    PE X (.Compare a [op] [b] pos) (lift G M0 H0 (wpE F W (.cmp op m m2))) :=
  PE.imp (pe_cmpR (op_cmp Z.hu op) ha hb (cmp_mark hk)) fun σ H Q h => lift2 (k := fun M x y Q => cmpQ op M x y fun k => Q (.bl k) M)
    (fun M H x y xv yv Q0 Q ok rx ry q z => by rw [Z.K]; (try rw [Z.P, Z.w]); exact cmp_ok ok rx ry q fun b hb => z.now ok hb rfl) h
theorem t_cmp (Z : Sta X S G F W M0 H0) {op : CmpOp} {pos : Pos} (ha : PE X a (lift G M0 H0 (wpE F W m))) (hb : PE X b (lift G M0 H0 (wpE F W m2))) (hk : chkE m2 S b = true) :
    PT X (.Compare a [op] [b] pos) (liftB G M0 H0 (wpB F W (.cmp op m m2))) := by
  refine PT.imp (pt_cmpR (op_cmp Z.hu op) ha hb (cmp_mark hk)) fun σ H Q ⟨σD, M, Q0, s, q, z⟩ => ?_
  refine ⟨σD, M, _, s, q, fun x M1 xv H1 q1 ok1 rx e1 => ?_⟩
  refine ⟨σD, M1, _, s.ext e1 ok1, q1, fun y M2 yv H2 q2 ok2 ry e2 => ?_⟩
  rw [Z.K]; (try rw [Z.P, Z.w])
  exact cmp_ok ok2 (rx.ext e2) ry q2 fun b hb => ⟨b, rfl, z _ _ _ hb ok2 (e1.trans e2)⟩
theorem chain_mark {op : CmpOp} {d : Expr} (h : (match op with | .In => false | .NotIn => false | _ => true) = true) : behindInMarks op d = false := by
  refine nobehind d ?_ ?_
  · intro e; subst e; cases h
  · intro e; subst e; cases h
theorem s_chain (Z : Sta X S G F W M0 H0) {op op' : CmpOp} {pos : Pos} (ha : PE X a (lift G M0 H0 (wpE F W m))) (hb : PE X b (lift G M0 H0 (wpE F W m2))) (hc : PE X c (lift G M0 H0 (wpE F W m3)))
    (h1 : (match op with | .In => false | .NotIn => false | _ => true) = true) (h2 : (match op' with | .In => false | .NotIn => false | _ => true) = true) :
    PE X (.Compare a [op, op'] [b, c] pos) (lift G M0 H0 (wpE F W (.chain op op' m m2 m3))) := by
  refine PE.imp (pe_chain (op_cmp Z.hu op) (op_cmp Z.hu op') ha hb hc (chain_mark h2)) fun σ H Q ⟨σD, M, Q0, s, q, z⟩ => ?_
  refine ⟨σD, M, _, s, q, fun x M1 xv H1 q1 ok1 rx e1 => ?_⟩
  refine ⟨σD, M1, _, s.ext e1 ok1, q1, fun y M2 yv H2 q2 ok2 ry e2 => ?_⟩
  rw [Z.K]; (try rw [Z.P, Z.w])
  refine cmp_ok ok2 (rx.ext e2) ry q2 fun k hk => ⟨k, rfl, ?_⟩
  cases k with
  | true =>
    rw [if_pos rfl] at hk ⊢
    refine ⟨σD, M2, _, (s.ext e1 ok1).ext e2 ok2, hk, fun u M3 uv H3 q3 ok3 ru e3 => ?_⟩
    exact cmp_ok ok3 (ry.ext e3) ru q3 fun k' hk' => (z.on (e1.trans (e2.trans e3))).now ok3 hk' rfl
  | false =>
    rw [if_neg Bool.false_ne_true] at hk ⊢
    exact (z.on (e1.trans e2)).now ok2 hk rfl
theorem t_chain (Z : Sta X S G F W M0 H0) {op op' : CmpOp} {pos : Pos} (ha : PE X a (lift G M0 H0 (wpE F W m))) (hb : PE X b (lift G M0 H0 (wpE F W m2))) (hc : PE X c (lift G M0 H0 (wpE F W m3)))
    (h1 : (match op with | .In => false | .NotIn => false | _ => true) = true) (h2 : (match op' with | .In => false | .NotIn => false | _ => true) = true) :
    PT X (.Compare a [op, op'] [b, c] pos) (liftB G M0 H0 (wpB F W (.chain op op' m m2 m3))) := by
  refine PT.imp (pt_chain (op_cmp Z.hu op) (op_cmp Z.hu op') ha hb hc (chain_mark h2)) fun σ H Q ⟨σD, M, Q0, s, q, z⟩ => ?_
  refine ⟨σD, M, _, s, q, fun x M1 xv H1 q1 ok1 rx e1 => ?_⟩
  refine ⟨σD, M1, _, s.ext e1 ok1, q1, fun y M2 yv H2 q2 ok2 ry e2 => ?_⟩
  rw [Z.K]; (try rw [Z.P, Z.w])
  refine cmp_ok ok2 (rx.ext e2) ry q2 fun k hk => ⟨k, rfl, ?_⟩
  cases k with
  | true =>
    rw [if_pos rfl] at hk ⊢
    refine ⟨σD, M2, _, (s.ext e1 ok1).ext e2 ok2, hk, fun u M3 uv H3 q3 ok3 ru e3 => ?_⟩
    exact cmp_ok ok3 (ry.ext e3) ru q3 fun k' hk' => ⟨k', rfl, z _ _ _ hk' ok3 (e1.trans (e2.trans e3))⟩
  | false =>
    rw [if_neg Bool.false_ne_true] at hk ⊢
    exact ⟨false, rfl, z _ _ _ hk ok2 (e1.trans e2)⟩
end
end Ev

/-! Ev, part H: further forms of expression. -/
namespace Ev
open PySem PySem.Spec PyProof.Rows L2
section
variable {X : Cx} {S : Sc} {G : Gx} {F : Fx} {W : WQ} {M0 : Mem} {H0 : Hp} {m m2 m3 : E} {a b c : Expr}
theorem s_and {r : List Expr} {pos : Pos} (ha : PE X a (lift G M0 H0 (wpE F W m))) (hb : PE X (.BoolOp .And (b :: r) pos) (lift G M0 H0 (wpE F W m2))) : PE X (.BoolOp .And (a :: b :: r) pos) (lift G M0 H0 (wpE F W (.and m m2))) := by
  refine PE.imp (pe_and ha hb) fun σ H Q ⟨σD, M, Q0, s, q, z⟩ => ?_
  refine ⟨σD, M, _, s, q, fun x M1 xv H1 ⟨k, e, q1⟩ ok1 rx e1 => ?_⟩
  subst e
  refine ⟨k, rx, ?_⟩
  cases k with
  | true => rw [if_pos rfl] at q1 ⊢; exact ⟨σD, M1, _, s.ext e1 ok1, q1, z.on e1⟩
  | false => rw [if_neg Bool.false_ne_true] at q1 ⊢; exact (z.on e1).now ok1 q1 rfl
theorem s_or {r : List Expr} {pos : Pos} (ha : PE X a (lift G M0 H0 (wpE F W m))) (hb : PE X (.BoolOp .Or (b :: r) pos) (lift G M0 H0 (wpE F W m2))) : PE X (.BoolOp .Or (a :: b :: r) pos) (lift G M0 H0 (wpE F W (.or m m2))) := by
  refine PE.imp (pe_or ha hb) fun σ H Q ⟨σD, M, Q0, s, q, z⟩ => ?_
  refine ⟨σD, M, _, s, q, fun x M1 xv H1 ⟨k, e, q1⟩ ok1 rx e1 => ?_⟩
  subst e
  refine ⟨k, rx, ?_⟩
  cases k with
  | true => rw [if_pos rfl] at q1 ⊢; exact (z.on e1).now ok1 q1 rfl
  | false => rw [if_neg Bool.false_ne_true] at q1 ⊢; exact ⟨σD, M1, _, s.ext e1 ok1, q1, z.on e1⟩
theorem s_not {pos : Pos} (ha : PE X a (lift G M0 H0 (wpE F W m))) : PE X (.UnaryOp .Not a pos) (lift G M0 H0 (wpE F W (.not m))) := by
  refine PE.imp (pe_not ha) fun σ H Q ⟨σD, M, Q0, s, q, z⟩ => ?_
  refine ⟨σD, M, _, s, q, fun x M1 xv H1 ⟨k, e, q1⟩ ok1 rx e1 => ?_⟩
  subst e
  exact ⟨k, rx, (z.on e1).now ok1 q1 rfl⟩
/-! ### tests -/
theorem t_and {r : List Expr} {pos : Pos} (ha : PT X a (liftB G M0 H0 (wpB F W m))) (hb : PW X (.BoolOp .And (b :: r) pos) (liftB G M0 H0 (wpB F W m2))) : PW X (.BoolOp .And (a :: b :: r) pos) (liftB G M0 H0 (wpB F W (.and m m2))) := by
  refine PW.imp (pw_and ha hb) fun σ H Q ⟨σD, M, Q0, s, q, z⟩ => ?_
  refine ⟨σD, M, _, s, q, fun k M1 H1 q1 ok1 e1 => ?_⟩
  cases k with
  | true => rw [if_pos rfl] at q1 ⊢; exact ⟨σD, M1, _, s.ext e1 ok1, q1, fun b M' H' h1 h2 h3 => z _ _ _ h1 h2 (e1.trans h3)⟩
  | false => rw [if_neg Bool.false_ne_true] at q1 ⊢; exact z _ _ _ q1 ok1 e1
theorem t_or {r : List Expr} {pos : Pos} (ha : PT X a (liftB G M0 H0 (wpB F W m))) (hb : PW X (.BoolOp .Or (b :: r) pos) (liftB G M0 H0 (wpB F W m2))) : PW X (.BoolOp .Or (a :: b :: r) pos) (liftB G M0 H0 (wpB F W (.or m m2))) := by
  refine PW.imp (pw_or ha hb) fun σ H Q ⟨σD, M, Q0, s, q, z⟩ => ?_
  refine ⟨σD, M, _, s, q, fun k M1 H1 q1 ok1 e1 => ?_⟩
  cases k with
  | true => rw [if_pos rfl] at q1 ⊢; exact z _ _ _ q1 ok1 e1
  | false => rw [if_neg Bool.false_ne_true] at q1 ⊢; exact ⟨σD, M1, _, s.ext e1 ok1, q1, fun b M' H' h1 h2 h3 => z _ _ _ h1 h2 (e1.trans h3)⟩
theorem t_not {pos : Pos} (ha : PT X a (liftB G M0 H0 (wpB F W m))) : PT X (.UnaryOp .Not a pos) (liftB G M0 H0 (wpB F W (.not m))) :=
  PT.imp (pt_not ha) fun σ H Q ⟨σD, M, Q0, s, q, z⟩ => ⟨σD, M, _, s, q, fun k M1 H1 q1 ok1 e1 => z _ _ _ q1 ok1 e1⟩
/-- an expression whose value is a truth, as a test -/
theorem t_val {e : Expr} {te : Env → Mem → VQ → Prop} {tb : Env → Mem → (Bool → Mem → Prop) → Prop} (h : PE X e (lift G M0 H0 te)) (hb : ∀ σ M Q, tb σ M Q → te σ M fun x M1 => ∃ k, x = .bl k ∧ Q k M1)
    (he : ∀ whole, isTrue e X.env whole = (do let v ← whole; standAt e.pos; holding [v] (truthy v))) : PT X e (liftB G M0 H0 tb) := by
  refine PT.imp (pt_val h he) fun σ H Q ⟨σD, M, Q0, s, q, z⟩ => ?_
  refine ⟨σD, M, _, s, hb _ _ _ q, fun x M1 xv H1 ⟨k, e, q1⟩ ok1 rx e1 => ?_⟩
  subst e
  exact ⟨k, rx, z _ _ _ q1 ok1 e1⟩
/-! ### argument lists, displays -/
theorem s_nil : PA X [] (liftA G M0 H0 (wpA F W .nil)) := PA.imp pa_nil fun σ H Q ⟨σD, M, Q0, s, q, z⟩ => z _ _ _ _ q s.2.2 RepL.nil Ext.refl
theorem s_cons {r : List Expr} (hk : chkE m S a = true) (ha : PE X a (lift G M0 H0 (wpE F W m))) (hr : PA X r (liftA G M0 H0 (wpA F W m2))) : PA X (a :: r) (liftA G M0 H0 (wpA F W (.cons m m2))) := by
  refine PA.imp (pa_cons ha hr (star_cons hk)) fun σ H Q ⟨σD, M, Q0, s, q, z⟩ => ?_
  refine ⟨σD, M, _, s, q, fun x M1 xv H1 q1 ok1 rx e1 => ?_⟩
  refine ⟨σD, M1, _, s.ext e1 ok1, q1, fun ds M2 vs H2 q2 ok2 rl e2 => ?_⟩
  exact z _ _ _ _ q2 ok2 (RepL.cons (rx.ext e2) rl) (e1.trans e2)
theorem s_tup {es : List Expr} {k : Nat} {pos : Pos} (h : PA X es (liftA G M0 H0 (wpA F W m))) : PE X (.Tuple es k pos) (lift G M0 H0 (wpE F W (.tup m))) := by
  refine PE.imp (pe_tup h) fun σ H Q ⟨σD, M, Q0, s, q, z⟩ => ?_
  refine ⟨σD, M, _, s, q, fun ds M1 vs H1 ⟨hz, q1⟩ ok1 rl e1 => ⟨by rw [← rl.length]; exact hz, fun p hp => newT_ok ok1 rl q1 (z.on e1) hp⟩⟩
theorem s_lst {mu : Bool} {es : List Expr} {pos : Pos} (h : PA X es (liftA G M0 H0 (wpA F W m))) : PE X (.List es pos) (lift G M0 H0 (wpE F W (.lst mu m))) := by
  refine PE.imp (pe_lst h) fun σ H Q ⟨σD, M, Q0, s, q, z⟩ => ?_
  exact ⟨σD, M, _, s, q, fun ds M1 vs H1 q1 ok1 rl e1 => ⟨by rw [← rl.length]; exact q1.1, fun p hp => newL_ok ok1 rl q1 (z.on e1) hp⟩⟩
theorem pe_dnewTT {pos : Pos} : PE X (.Dict [] [] pos) tDNewT := pe_dnewT
theorem s_dict (Z : Sta X S G F W M0 H0) {t : Nat} {pos : Pos} : PE X (.Dict [] [] pos) (lift G M0 H0 (wpE F W (.dict t))) := by
  match t with
  | 1 =>
    refine PE.imp pe_dnewT fun σ H Q ⟨σD, M, Q0, s, q, z⟩ p hp => ?_
    have h := q p (s.2.2.dom hp)
    exact z _ _ _ _ h (s.2.2.newM hp ⟨[], rfl, rfl⟩) rfl (Ext.newM hp)
  | 0 =>
    refine PE.imp pe_dnewK fun σ H Q ⟨σD, M, Q0, s, q, z⟩ p hp => ?_
    have h := q p (s.2.2.dom hp)
    exact z _ _ _ _ h (s.2.2.newM hp ⟨[], rfl, rfl⟩) rfl (Ext.newM hp)
  | n + 2 =>
    refine PE.imp pe_dnewN fun σ H Q ⟨σD, M, Q0, s, q, z⟩ p hp => ?_
    have h := q p (s.2.2.dom hp)
    rw [Z.P, Z.w]
    exact z _ _ _ _ h (s.2.2.newM hp ⟨[], rfl, rfl⟩) rfl (Ext.newM hp)
theorem s_ix (Z : Sta X S G F W M0 H0) {pos : Pos} (ha : PE X a (lift G M0 H0 (wpE F W m))) (hb : PE X b (lift G M0 H0 (wpE F W m2))) (hk : chkE m2 S b = true) : PE X (.Subscript a b pos) (lift G M0 H0 (wpE F W (.ix m m2))) := by
  have hp : PlainIx b := fun o i => by
    cases b with
    | Slice x y z p => rw [chk_slice] at hk; cases hk
    | _ => rfl
  exact PE.imp (pe_ix (ix_all (by have := Z.hu; omega)) ha hb hp) fun σ H Q h => lift2 (k := fun M x y Q => ixQ M x y Q) (fun M H x y xv yv Q0 Q ok rx ry q z => by rw [Z.K, Z.P, Z.w]; exact ix_ok ok rx ry q z) h
theorem s_rev (Z : Sta X S G F W M0 H0) {mu : Bool} {k : Nat} {p1 p2 p3 pos : Pos} (ha : PE X a (lift G M0 H0 (wpE F W m))) :
    PE X (.Subscript a (.Slice none none (some (.UnaryOp .USub (.Constant (.int 1) k p1) p2)) p3) pos) (lift G M0 H0 (wpE F W (.rev mu m))) := by
  refine PE.imp (pe_revL ha) fun σ H Q ⟨σD, M, Q0, s, q, z⟩ => ?_
  refine ⟨σD, M, _, s, q, fun x M1 xv H1 ⟨ds, hl, q1⟩ ok1 rx e1 => ?_⟩
  obtain ⟨p, vs, e, sq, rl⟩ := rep_lst ok1 rx hl
  rw [Z.K]; (try rw [Z.P, Z.w])
  exact ⟨p, vs, e, sq, fun p hp => newL_ok ok1 rl.reverse q1 (z.on e1) hp⟩
/-! ### xs[k:hi:st]: some of the items -/
def tSst (K : PySem.W.Frag) (te ti : TE) : TE := fun σ H Q => te σ H fun x H1 => ti σ H1 fun y H2 => ∃ i, y = .int i ∧ ∃ a xs, x = .ref a ∧ SqL K H2 a xs ∧ ∀ (p : Addr) (idx : List Nat), H2 p = none → (idx.filterMap (xs[·]?)).length ≤ xs.length → Q (.ref p) (upd H2 p (.lst (idx.filterMap (xs[·]?))))
theorem vals_pick {xs : List V} {us : List Value} (r : Vals xs us) : ∀ idx : List Nat, Vals (idx.filterMap (xs[·]?)) (idx.filterMap (us[·]?))
  | [] => .nil
  | i :: idx => by
    have ih := vals_pick r idx
    cases e : xs[i]? with
    | none =>
      have e2 : us[i]? = none := by
        rw [List.getElem?_eq_none_iff] at e ⊢
        rw [← r.length]; exact e
      rw [List.filterMap_cons, List.filterMap_cons, e, e2]; exact ih
    | some x =>
      obtain ⟨u, e2, ru⟩ := r.get e
      rw [List.filterMap_cons, List.filterMap_cons, e, e2]; exact .cons ru ih
theorem repL_pick {M : Mem} {H : Hp} {ds : List D} {vs : List V} (r : RepL G M H ds vs) : ∀ idx : List Nat, RepL G M H (idx.filterMap (ds[·]?)) (idx.filterMap (vs[·]?))
  | [] => RepL.nil
  | i :: idx => by
    have ih := repL_pick r idx
    cases e : ds[i]? with
    | none =>
      have e2 : vs[i]? = none := by
        rw [List.getElem?_eq_none_iff] at e ⊢
        rw [← r.length]; exact e
      rw [List.filterMap_cons, List.filterMap_cons, e, e2]; exact ih
    | some x =>
      obtain ⟨u, e2, ru⟩ := r.get e
      rw [List.filterMap_cons, List.filterMap_cons, e, e2]; exact RepL.cons ru ih
theorem pe_sst {e l : Expr} {te ti : TE} {hi st : Int} {k1 k2 : Nat} {p1 p2 p3 pos : Pos} (h0 : st ≠ 0) (he : PE X e te) (hl : PE X l ti) : PE X (.Subscript e (.Slice (some l) (some (.Constant (.int hi) k1 p1)) (some (.Constant (.int st) k2 p2)) p3) pos) (tSst X.K te ti) := by
  refine ⟨fun pins s σ H Q I h => ?_⟩
  refine Subscript_ (thn (he.run pins s σ H _ I h) fun v s1 ⟨x, H1, I1, r1, q1⟩ => ?_)
  refine wpAny_Slice (thn ((po_some hl).run pins s1 σ H1 (fun _ H2 => ∃ a xs, x = .ref a ∧ SqL X.K H2 a xs ∧ ∀ (p : Addr) (idx : List Nat), H2 p = none → (idx.filterMap (xs[·]?)).length ≤ xs.length → Q (.ref p) (upd H2 p (.lst (idx.filterMap (xs[·]?))))) I1 q1) fun vl s2 ⟨lo, H2, I2, pl, a, xs, ex, hx, q⟩ => ?_)
  subst ex
  cases (show v = Value.ref a from r1)
  refine thn ((po_some pe_int).run pins s2 σ H2 (fun o H3 => o = some hi ∧ H3 = H2) I2 ⟨hi, rfl, rfl, rfl⟩) fun vu s3 ⟨u, H3, I3, pu, eu, e3⟩ => ?_
  subst eu e3
  refine thn ((po_some pe_int).run pins s3 σ H3 (fun o H4 => o = some st ∧ H4 = H3) I3 ⟨st, rfl, rfl, rfl⟩) fun vs s4 ⟨o, H4, I4, ps, eo, e4⟩ => ?_
  subst eo e4
  have I5 : Inv X pins σ H4 { s4 with heap := s4.heap.push { cls := .type "slice", data := .fields #[vl, vu, vs] } } := I4.kept (t' := s4.toks) fun b ob q => Heap.get?_push_of_some _ q
  obtain ⟨its, r, ht, hz⟩ := I5.list hx
  have hlen := r.length
  show wpAny (model X.prog X.w) X.A (subscriptTail e (.Slice (some l) (some (.Constant (.int hi) k1 p1)) (some (.Constant (.int st) k2 p2)) p3) (.ref a) (.ref s4.heap.objs.size)) (EP X pins σ Q) X.xe { s4 with heap := s4.heap.push { cls := .type "slice", data := .fields #[vl, vu, vs] } }
  refine tail_any (ops := [.ref a, .ref s4.heap.objs.size]) ht.isList.typeIs (PySem.slot_list_getitem.lookup) ?_ (by with_unfolding_all rfl)
  refine wpAny_getItem_list_slice ht.isList (Heap.IsSliceOf.new _ vl vu vs) pl pu ps (by simpa using h0) ?_ (by rw [List.size_toArray]; omega)
  have hsz := slicePick_size_le its.toArray lo (some hi) (some st)
  unfold slicePick at hsz ⊢
  generalize sliceRange (sliceBounds lo (some hi) (some st) its.toArray.size).1 (sliceBounds lo (some hi) (some st) its.toArray.size).2.1 (sliceBounds lo (some hi) (some st) its.toArray.size).2.2 = idx at hsz ⊢
  have ea : idx.filterMap (its.toArray[·]?) = idx.filterMap (its[·]?) := by
    congr 1
    funext i
    simp
  rw [ea] at hsz ⊢
  have rp := vals_pick r idx
  have hl2 := rp.length
  rw [List.size_toArray, List.size_toArray] at hsz
  have hle : (idx.filterMap (xs[·]?)).length ≤ xs.length := by omega
  refine ⟨.ref _, _, I5.laid (t' := s4.toks) (o := .lst (idx.filterMap (xs[·]?))) (fun b ob q => Heap.get?_push_of_some _ q) (Nat.le_refl _) ?_, rfl, q _ idx (I5.hok.fresh (Nat.le_refl _)) hle⟩
  exact ⟨by omega, _, 0, rp, Heap.get?_push_size _ rfl⟩
theorem s_sst (Z : Sta X S G F W M0 H0) {mu : Bool} {l : Expr} {hi st : Int} {nh ns : Nat} {k1 k2 : Nat} {p1 p2 p3 pos : Pos} (h0 : st ≠ 0) (ha : PE X a (lift G M0 H0 (wpE F W m))) (hl : PE X l (lift G M0 H0 (wpE F W m2))) :
    PE X (.Subscript a (.Slice (some l) (some (.Constant (.int hi) k1 p1)) (some (.Constant (.int st) k2 p2)) p3) pos) (lift G M0 H0 (wpE F W (.sst mu m m2 nh ns))) := by
  refine PE.imp (pe_sst h0 ha hl) fun σ H Q ⟨σD, M, Q0, s, q, z⟩ => ?_
  refine ⟨σD, M, _, s, q, fun x M1 xv H1 q1 ok1 rx e1 => ?_⟩
  have s1 := s.ext e1 ok1
  refine ⟨σD, M1, _, s1, q1, fun y M2 yv H2 ⟨i, ey, ds, hds, q2⟩ ok2 ry e2 => ?_⟩
  subst ey
  have ey : yv = .int i := ry
  subst ey
  obtain ⟨p, vs, e, sq, rl⟩ := rep_lst ok2 (rx.ext e2) hds
  subst e
  rw [Z.K]; (try rw [Z.P, Z.w])
  refine ⟨i, rfl, p, vs, rfl, sq, fun b idx hb hle => ?_⟩
  have rp := repL_pick rl idx
  refine newL_ok ok2 rp (q2 _ (fun d hd => ?_) (by rw [rp.length, rl.length]; exact hle)) (z.on (e1.trans e2)) hb
  obtain ⟨j, _, hj⟩ := List.mem_filterMap.mp hd
  exact List.mem_of_getElem? hj
/-- a part of a slice, written or not -/
def tPartD (G : Gx) (M0 : Mem) (H0 : Hp) (m : E) (te : Env → Mem → VQ → Prop) : TO := fun σV H Q => ∃ σ M Q0, Stt G M0 H0 σ M σV H ∧ te σ M Q0 ∧ ∀ d M' H', Q0 d M' → OkM G M' H' → Ext M H M' H' → ∃ o, partE m d = some o ∧ Q o H'
theorem PO.imp {o : Option Expr} {t t' : TO} (h : PO X o t) (k : ∀ σ H Q, t' σ H Q → t σ H Q) : PO X o t' := ⟨fun pins s σ H Q I q => h.run pins s σ H Q I (k σ H Q q)⟩
theorem chk_nop {e : Expr} {S : Sc} {m : E} (h : chkE m S e = true) : isNop m = false := by
  cases m <;> first | rfl | exact Bool.noConfusion (show false = true from h)
theorem s_part {o : Option Expr} (hm : (match o with | none => isNop m | some y => chkE m S y) = true) (h : ∀ y, o = some y → PE X y (lift G M0 H0 (wpE F W m))) : PO X o (tPartD G M0 H0 m (wpE F W m)) := by
  cases o with
  | none =>
    refine PO.imp po_none fun σ H Q ⟨σD, M, Q0, s, q, z⟩ => ?_
    have hm : isNop m = true := hm
    have e : m = .nop := by cases m <;> first | rfl | cases hm
    subst e
    obtain ⟨o, e, h⟩ := z _ _ _ q s.2.2 Ext.refl
    cases e
    exact h
  | some y =>
    refine PO.imp (po_some (h y rfl)) fun σ H Q ⟨σD, M, Q0, s, q, z⟩ => ?_
    refine ⟨σD, M, _, s, q, fun d M1 v H1 q1 ok1 r e1 => ?_⟩
    obtain ⟨o, e, h⟩ := z _ _ _ q1 ok1 e1
    unfold partE at e
    rw [if_neg (by rw [chk_nop (show chkE m S y = true from hm)]; exact Bool.false_ne_true)] at e
    split at e
    · cases e
      exact ⟨_, r, h⟩
    · cases e
theorem s_sl (Z : Sta X S G F W M0 H0) {mu : Bool} {lo hi : Option Expr} {pos p2 : Pos} (ha : PE X a (lift G M0 H0 (wpE F W m))) (hl : (match lo with | none => isNop m2 | some y => chkE m2 S y) = true) (hl' : ∀ y, lo = some y → PE X y (lift G M0 H0 (wpE F W m2)))
    (hh : (match hi with | none => isNop m3 | some y => chkE m3 S y) = true) (hh' : ∀ y, hi = some y → PE X y (lift G M0 H0 (wpE F W m3))) : PE X (.Subscript a (.Slice lo hi none p2) pos) (lift G M0 H0 (wpE F W (.sl mu m m2 m3))) := by
  refine PE.imp (pe_slice sl_all ha (s_part (M0 := M0) (H0 := H0) hl hl') (s_part hh hh')) fun σ H Q ⟨σD, M, Q0, s, q, z⟩ => ?_
  refine ⟨σD, M, _, s, q, fun x M1 xv H1 q1 ok1 rx e1 => ?_⟩
  have s1 := s.ext e1 ok1
  refine ⟨σD, M1, _, s1, q1, fun l M2 H2 ⟨l', e, q2⟩ ok2 e2 => ⟨l', e, ?_⟩⟩
  · refine ⟨σD, M2, _, s1.ext e2 ok2, q2, fun h M3 H3 ⟨h', e', q3⟩ ok3 e3 => ⟨h', e', ?_⟩⟩
    rw [Z.K]; (try rw [Z.P, Z.w])
    exact sl_ok ok3 (rx.ext (e2.trans e3)) q3 (z.on (e1.trans (e2.trans e3)))
end
end Ev

/-! Ev, part I: calls, methods, comprehensions, what is walked, targets. -/
namespace Ev
open PySem PySem.Spec PyProof.Rows L2
section
variable {X : Cx} {S : Sc} {G : Gx} {F : Fx} {W : WQ} {M0 : Mem} {H0 : Hp} {m m2 m3 : E} {a b c : Expr}
theorem s_call (Z : Sta X S G F W M0 H0) {f : Str} {args : List Expr} {p pos : Pos} (hg : glB S f = true) (hf : f ∈ S.fs) (hk : chkA m S args = true) (ha : PA X args (liftA G M0 H0 (wpA F W m))) :
    PE X (.Call (.Name f p) args [] pos) (lift G M0 H0 (wpE F W (.call f m))) := by
  obtain ⟨k, fa, fd, ps, sp, FO, hr, hm, hkp, hb, hsp⟩ := (Z.fns f hf).ex
  obtain ⟨g, nd⟩ := Z.gl_of hg
  have fin : ∀ σ H Q, lift G M0 H0 (wpE F W (.call f m)) σ H Q → tCall sp [] (wishE G W M0 H0) (liftA G M0 H0 (wpA F W m)) σ H Q := by
    intro σ H Q ⟨σD, M, Q0, s, q, z⟩
    refine ⟨σD, M, _, s, q, fun ds M1 vs H1 q1 ok1 rl e1 => ?_⟩
    show sp (vs ++ []) H1 Q _
    rw [List.append_nil]
    exact hsp ds M1 W vs H1 Q0 Q _ q1 ok1 rl (z.on e1) fun c M' H' hw ok' e' C hC => ⟨c, C, M', hw, hC, rfl, rfl, ok', (s.1.trans e1).trans e'⟩
  cases args with
  | nil =>
    refine PE.imp (pe_call0 FO hr g hm hkp hb .nil Z.pass nd) fun σ H Q h => ?_
    obtain ⟨σD, M, Q0, s, q, z⟩ := fin σ H Q h
    cases m <;> first | exact Bool.noConfusion (show false = true from hk) | skip
    exact z _ _ _ _ q s.2.2 RepL.nil Ext.refl
  | cons x xs =>
    have hx : ∃ m1 m2, m = .cons m1 m2 ∧ chkE m1 S x = true ∧ chkA m2 S xs = true := by
      cases m <;> first | exact Bool.noConfusion (show false = true from hk) | skip
      rename_i m1 m2
      have hk : (chkE m1 S x && chkA m2 S xs) = true := hk
      rw [Bool.and_eq_true] at hk
      exact ⟨m1, m2, rfl, hk.1, hk.2⟩
    obtain ⟨m1, m2, e, k1, k2⟩ := hx
    exact PE.imp (pe_call FO hr g hm hkp hb .nil Z.pass ha nd (star_cons k1) (star_false m2 k2)) fin
theorem s_bi (Z : Sta X S G F W M0 H0) {b : BI} {mu : Bool} {x : Expr} {xs : List Expr} {p pos : Pos} (hg : glB S b.name = true) (hn : b.name ∈ bnames) (hk : chkA m S (x :: xs) = true) (ha : PA X (x :: xs) (liftA G M0 H0 (wpA F W m))) :
    PE X (.Call (.Name b.name p) (x :: xs) [] pos) (lift G M0 H0 (wpE F W (.bi b mu m))) := by
  obtain ⟨g, nd⟩ := Z.gl_of hg
  have hx : ∃ m1 m2, m = .cons m1 m2 ∧ chkE m1 S x = true ∧ chkA m2 S xs = true := by
    cases m <;> first | exact Bool.noConfusion (show false = true from hk) | skip
    rename_i m1 m2
    have hk : (chkE m1 S x && chkA m2 S xs) = true := hk
    rw [Bool.and_eq_true] at hk
    exact ⟨m1, m2, rfl, hk.1, hk.2⟩
  obtain ⟨m1, m2, e, k1, k2⟩ := hx
  have fin : ∀ σ H Q, lift G M0 H0 (wpE F W (.bi b mu m)) σ H Q → tCB (rBi X.K X.prog X.w b) (liftA G M0 H0 (wpA F W m)) σ H Q := by
    intro σ H Q ⟨σD, M, Q0, s, q, z⟩
    refine ⟨σD, M, _, s, q, fun ds M1 vs H1 q1 ok1 rl e1 => ?_⟩
    rw [Z.K]; (try rw [Z.P, Z.w])
    exact bi_ok ok1 rl q1 (z.on e1)
  have hB : ∀ id : String, b.val = .builtin id → PE X (.Call (.Name b.name p) (x :: xs) [] pos) (lift G M0 H0 (wpE F W (.bi b mu m))) := fun id hv =>
    PE.imp (pe_callB (hv ▸ cr_bi Z.calm Z.hu b) g (Z.bn _ hn) (hv ▸ b.boot) ha (by intro q; rw [q] at hn; revert hn; decide +kernel) nd (star_cons k1) (star_false m2 k2)) fin
  have hT : ∀ T : String, b.val = .type T → PE X (.Call (.Name b.name p) (x :: xs) [] pos) (lift G M0 H0 (wpE F W (.bi b mu m))) := fun id hv =>
    PE.imp (pe_callTy (hv ▸ cr_bi Z.calm Z.hu b) g (Z.bn _ hn) (hv ▸ b.boot) ha (by intro q; rw [q] at hn; revert hn; decide +kernel) nd (star_cons k1) (star_false m2 k2)) fin
  cases e : b.val with
  | builtin id => exact hB id e
  | type T => exact hT T e
  | _ => cases b <;> cases e
theorem bool_chk {n : String} {S : Sc} {t : Expr} (h : chkTy S n t = true) : ∃ p, t = .Name (Str.ofString n) p ∧ glB S (Str.ofString n) = true ∧ n ∈ isTys ∧ Str.ofString n ∈ bnames := by
  cases t <;> first | exact Bool.noConfusion (show false = true from h) | skip
  rename_i x p
  have h : (decide (x = Str.ofString n) && glB S x && decide (n ∈ isTys) && decide (x ∈ bnames)) = true := h
  simp only [Bool.and_eq_true, decide_eq_true_eq] at h
  obtain ⟨⟨⟨h1, h2⟩, h3⟩, h4⟩ := h
  subst h1
  exact ⟨p, rfl, h2, h3, h4⟩
theorem boot_tys : ∀ n ∈ isTys, bootBuiltins (Str.ofString n) = some (.type n) := by decide +kernel
theorem s_ty (Z : Sta X S G F W M0 H0) {n : String} {t : Expr} (h : chkTy S n t = true) : PE X t (tC (.ty n)) := by
  obtain ⟨p, rfl, hg, hn, hb⟩ := bool_chk h
  obtain ⟨g, nd⟩ := Z.gl_of hg
  exact pe_bltn g (Z.bn _ hb) (boot_tys n hn) rfl (by intro q; rw [q] at hb; revert hb; decide +kernel) nd
theorem chkTy_star {S : Sc} {n : String} {x : Expr} {r : List Expr} {env : PySem.Env} (h : chkTy S n x = true) : starEach (x :: r) env = (false, eval x env) :: starEach r env := by
  obtain ⟨p, rfl, _⟩ := bool_chk h
  rfl
def tTys : List String → TA
  | [] => tNil
  | n :: ns => tCons (tC (.ty n)) (tTys ns)
theorem tTys_run : ∀ (ns : List String) (σ : L2.St) (H : Hp) (Q : List V → Hp → Prop), tTys ns σ H Q ↔ Q (ns.map V.ty) H
  | [], _, _, _ => Iff.rfl
  | n :: ns, σ, H, Q => tTys_run ns σ H fun xs H2 => Q (.ty n :: xs) H2
theorem s_tys (Z : Sta X S G F W M0 H0) : ∀ {ns : List String} {ts : List Expr}, chkTys S ns ts = true → PA X ts (tTys ns)
  | [], [], _ => pa_nil
  | [], _ :: _, h => Bool.noConfusion (show false = true from h)
  | _ :: _, [], h => Bool.noConfusion (show false = true from h)
  | n :: ns, t :: ts, h => by
    have h : (chkTy S n t && chkTys S ns ts) = true := h
    rw [Bool.and_eq_true] at h
    exact pa_cons (s_ty Z h.1) (s_tys Z h.2) (chkTy_star h.1)
theorem chkTys_in {S : Sc} : ∀ {ns : List String} {ts : List Expr}, chkTys S ns ts = true → ∀ n ∈ ns, n ∈ isTys
  | [], _, _ => by simp
  | n :: ns, [], h => Bool.noConfusion (show false = true from h)
  | n :: ns, t :: ts, h => by
    have h : (chkTy S n t && chkTys S ns ts) = true := h
    rw [Bool.and_eq_true] at h
    intro k hk
    rcases List.mem_cons.mp hk with e | e
    · subst e
      obtain ⟨_, _, _, hn, _⟩ := bool_chk h.1
      exact hn
    · exact chkTys_in h.2 k e
theorem paired_tys : ∀ ns : List String, Paired ClsV (ns.map V.ty) (ns.map Value.type)
  | [] => .nil
  | n :: ns => .cons (.ty n) (paired_tys ns)
/-- isinstance(x, T) -/
theorem s_isi1 (Z : Sta X S G F W M0 H0) {n : String} {t : Expr} {p pos : Pos} (hg : glB S "isinstance" = true) (hk : chkE m S a = true) (ht : chkTy S n t = true) (ha : PE X a (lift G M0 H0 (wpE F W m))) :
    PE X (.Call (.Name "isinstance" p) [a, t] [] pos) (lift G M0 H0 (wpE F W (.isi m [n]))) := by
  obtain ⟨g, nd⟩ := Z.gl_of hg
  obtain ⟨_, _, _, hn, _⟩ := bool_chk ht
  refine PE.imp (pe_callB call_isi g (Z.bn _ (by decide +kernel)) boot_isinstance (pa_cons ha (pa_cons (s_ty Z ht) pa_nil (chkTy_star ht)) (star_cons hk)) (by decide +kernel) nd (star_cons hk) (by rw [chkTy_star ht]; rfl)) fun σ H Q ⟨σD, M, Q0, s, q, z⟩ => ?_
  refine ⟨σD, M, _, s, q, fun x M1 xv H1 ⟨ty, e, q1⟩ ok1 rx e1 => ?_⟩
  refine ⟨xv, .ty n, .type ty, .type n, _, rfl, .ty n, ?_, kit_ty (kit_isB (typeOfD_in e) hn), (z.on e1).now ok1 q1 rfl⟩
  rw [Z.K]; (try rw [Z.P, Z.w])
  exact tyX_of ok1 rx e
/-- isinstance(x, (T1, ..)) -/
theorem s_isiT (Z : Sta X S G F W M0 H0) {ns : List String} {ts : List Expr} {k : Nat} {p pos p2 : Pos} (hg : glB S "isinstance" = true) (hk : chkE m S a = true) (hl : ns.length ≤ 20) (ht : chkTys S ns ts = true) (ha : PE X a (lift G M0 H0 (wpE F W m))) :
    PE X (.Call (.Name "isinstance" p) [a, .Tuple ts k p2] [] pos) (lift G M0 H0 (wpE F W (.isi m ns))) := by
  obtain ⟨g, nd⟩ := Z.gl_of hg
  refine PE.imp (pe_callB call_isiT g (Z.bn _ (by decide +kernel)) boot_isinstance (pa_cons ha (pa_cons (pe_tup (s_tys Z ht)) pa_nil) (star_cons hk)) (by decide +kernel) nd (star_cons hk) rfl) fun σ H Q ⟨σD, M, Q0, s, q, z⟩ => ?_
  refine ⟨σD, M, _, s, q, fun x M1 xv H1 ⟨ty, e, q1⟩ ok1 rx e1 => ?_⟩
  refine (tTys_run ns _ _ _).mpr ⟨?_, fun tp hp => ?_⟩
  · rw [List.length_map, sizeLine_eq]; omega
  · refine ⟨xv, tp, ns.map V.ty, .type ty, ns.map Value.type, _, rfl, upd_same, paired_tys ns, ?_, kitAny_isB (typeOfD_in e) (chkTys_in ht), z _ _ _ _ q1 (ok1.new hp) rfl (e1.trans (Ext.new hp))⟩
    rw [Z.K]; (try rw [Z.P, Z.w])
    exact tyX_of (ok1.new hp) (rx.ext (Ext.new hp)) e
/-- {k: v} -/
theorem s_dict1 (Z : Sta X S G F W M0 H0) {pos : Pos} (ha : PE X a (lift G M0 H0 (wpE F W m))) (hb : PE X b (lift G M0 H0 (wpE F W m2))) : PE X (.Dict [some a] [b] pos) (lift G M0 H0 (wpE F W (.dict1 m m2))) := by
  refine PE.imp (pe_dict1N Z.hu ha hb) fun σ H Q ⟨σD, M, Q0, s, q, z⟩ p hp => ?_
  rw [Z.P, Z.w]
  have ok0 : OkM G (mput M p (.dN [])) (upd H p (dNO G.P G.w p [])) := s.2.2.newM hp ⟨[], rfl, rfl⟩
  have e0 : Ext M H (mput M p (.dN [])) (upd H p (dNO G.P G.w p [])) := Ext.newM hp
  refine ⟨σD, _, _, s.ext e0 ok0, q p (s.2.2.dom hp), fun x M1 xv H1 q1 ok1 rx e1 => ?_⟩
  refine ⟨σD, M1, _, (s.ext e0 ok0).ext e1 ok1, q1, fun y M2 yv H2 ⟨hm, nk, hk, q2⟩ ok2 ry e2 => ?_⟩
  obtain ⟨u, qu, us, eu, rn⟩ := ok2 p _ hm
  subst eu
  have e : us = [] := rn
  subst e
  obtain ⟨b, e3, kr⟩ := rep_keyNT hk (rx.ext e2)
  subst e3
  obtain ⟨h1, h2, _⟩ := keyNT_d hk
  refine ⟨qu, b, nk, rfl, kr, ?_⟩
  have rb : Rep G M2 H2 (dOfK nk) (.ref b) := by rw [h1]; exact rx.ext e2
  exact z _ _ _ _ q2 (ok2.write hm ⟨_, rfl, b, yv, [], rfl, rb, h2, ry, rfl⟩) rfl ((e0.trans (e1.trans e2)).trans (Ext.write hm))
/-- the dict is not written from now on -/
theorem s_lock (Z : Sta X S G F W M0 H0) (ha : PE X a (lift G M0 H0 (wpE F W m))) : PE X a (lift G M0 H0 (wpE F W (.lock m))) := by
  refine PE.imp (pe_lockN ha) fun σ H Q ⟨σD, M, Q0, s, q, z⟩ => ?_
  refine ⟨σD, M, _, s, q, fun x M1 xv H1 q1 ok1 rx e1 => ?_⟩
  rw [Z.P, Z.w]
  rcases q1 with ⟨p, o, kvs, e, hm, q1⟩ | ⟨p, kvs, e, hm, q1⟩
  · exact .inl (z _ _ _ _ q1 ok1 rx e1)
  · subst e
    have e : xv = .ref p := rx
    subst e
    obtain ⟨u, qu, us, eu, rn⟩ := ok1 p _ hm
    subst eu
    exact .inr ⟨p, us, rfl, qu, fun o => z _ _ _ _ (q1 o) (ok1.write hm ⟨us, rfl, rn⟩) rfl (e1.trans (Ext.write hm))⟩
/-- sorted(x, key=len) -/
theorem lens_of : ∀ {ds : List (List D)} {M : Mem} {H : Hp} {vs : List V}, RepL G M H (ds.map .tup) vs → ∃ ts : List (List D × V), ds = ts.map (·.1) ∧ vs = ts.map (·.2) ∧ ∀ t ∈ ts, Rep G M H (.tup t.1) t.2
  | [], M, H, vs, r => by have e : vs = [] := r; subst e; exact ⟨[], rfl, rfl, fun _ h => nomatch h⟩
  | d :: ds, M, H, vs, r => by
    obtain ⟨v, r', e, a, b⟩ := r
    subst e
    obtain ⟨ts, h1, h2, h3⟩ := lens_of b
    refine ⟨(d, v) :: ts, by rw [h1]; rfl, by rw [h2]; rfl, fun t ht => ?_⟩
    rcases List.mem_cons.mp ht with rfl | ht
    · exact a
    · exact h3 t ht
theorem sort_lens (ts : List (List D × V)) : ((ts.map fun t => (t.2, t.1.length)).mergeSort leL).map (·.1) = (ts.mergeSort fun x y => leN x.1 y.1).map (·.2) ∧ (ts.map (·.1)).mergeSort leN = (ts.mergeSort fun x y => leN x.1 y.1).map (·.1) := by
  refine ⟨?_, ?_⟩
  · rw [← List.map_mergeSort (r := fun x y : List D × V => leN x.1 y.1) (s := leL) (f := fun t : List D × V => (t.2, t.1.length)) (fun _ _ _ _ => rfl), List.map_map]; rfl
  · rw [← List.map_mergeSort (r := fun x y : List D × V => leN x.1 y.1) (s := leN) (f := fun t : List D × V => t.1) (fun _ _ _ _ => rfl)]
theorem rep_lens {M : Mem} {H : Hp} : ∀ {ts : List (List D × V)}, (∀ t ∈ ts, Rep G M H (.tup t.1) t.2) → RepL G M H ((ts.map (·.1)).map .tup) (ts.map (·.2))
  | [], _ => RepL.nil
  | t :: ts, h => RepL.cons (h t List.mem_cons_self) (rep_lens fun u hu => h u (List.mem_cons_of_mem _ hu))
theorem s_sortLen (Z : Sta X S G F W M0 H0) {mu : Bool} {p p2 kpos pos : Pos} (hg : glB S "sorted" = true) (hg2 : glB S "len" = true) (hk : chkE m S a = true) (ha : PE X a (lift G M0 H0 (wpE F W m))) :
    PE X (.Call (.Name "sorted" p) [a] [⟨some "key", .Name "len" p2, kpos⟩] pos) (lift G M0 H0 (wpE F W (.sortLen mu m))) := by
  obtain ⟨g, nd⟩ := Z.gl_of hg
  obtain ⟨g2, nd2⟩ := Z.gl_of hg2
  refine PE.imp (pe_sortLen Z.hu g (Z.bn _ (by decide +kernel)) g2 (Z.bn _ (by decide +kernel)) ha (star_cons hk) (by rw [star_cons hk]; rfl)) fun σ H Q ⟨σD, M, Q0, s, q, z⟩ => ?_
  refine ⟨σD, M, _, s, q, fun x M1 xv H1 ⟨ds, hl, q1⟩ ok1 rx e1 => ?_⟩
  obtain ⟨p, vs, e, sq, rl⟩ := rep_lst ok1 rx hl
  obtain ⟨ts, h1, h2, h3⟩ := lens_of rl
  obtain ⟨t1, t2⟩ := sort_lens ts
  subst h1 h2
  rw [Z.K]
  refine ⟨p, ts.map fun t => (t.2, t.1.length), e, by rw [List.map_map]; exact sq, fun b hb => ?_, fun l hl => ?_⟩
  · obtain ⟨t, ht, rfl⟩ := List.mem_map.mp hb
    obtain ⟨t', ys, e2, hy, ry⟩ := rep_tup (ds := t.1) (h3 t ht) rfl
    exact ⟨t', ys, e2, hy, ry.length.symm⟩
  · rw [t1]
    rw [t2] at q1
    exact newL_ok ok1 (rep_lens fun t ht => h3 t ((List.mergeSort_perm _ _).subset ht)) q1 (z.on e1) hl
end
end Ev

/-! Ev, part J: what loops and comprehensions walk. -/
namespace Ev
open PySem PySem.Spec PyProof.Rows L2
theorem meets_enum1 {v : Value} {o : Obj} {Z : Heap → Prop} (B : Begins v o Z) :
    Meets (Builtin.«enumerate.__new__» ⟨[.type "enumerate", v], []⟩) (fun _ R s => Z s.heap ∧ R (.ok (.ret (.ref (s.heap.push o).objs.size)))
      { s with heap := (s.heap.push o).push { cls := .type "enumerate", data := .fields #[.none, .bool false, .ref s.heap.objs.size, rawInt 0, .none, .none] } }) := .of_wp fun prog w A R s h => by
  obtain ⟨hp, g, d, tk, os⟩ := s
  obtain ⟨z, h⟩ := h
  have f1 := sub_enumerate
  have go : ∀ {A' : Around} {E : Value → Shared → Prop} {Q : Value → Shared → Prop}, Q (.ref hp.objs.size) ⟨hp.push o, g, d, tk, os⟩ → wpAny (model prog w) A' (pyIter v) Q E ⟨hp, g, d, tk, os⟩ := fun q => B.iter prog w _ _ ⟨hp, g, d, tk, os⟩ _ z q
  wp_walk using go
  refine wpAny_stack_any fun st => wpAny_pure ?_
  split
  · rename_i c _ _ _ _ _
    cases (c == Value.type "enumerate") <;> (wp_walk using go; exact ⟨_, rfl, h⟩)
  · wp_walk using go
    exact ⟨_, rfl, h⟩
/-- enumerate(v): its two new cells -/
theorem call_enum1 {prog : Program} {w : World} {A : Around} {E : Value → Shared → Prop} {s : Shared} {v : Value} {o : Obj} {Z : Heap → Prop} {Q : Value → Shared → Prop} (B : Begins v o Z) (z : Z s.heap)
    (h : ∀ h', IsEnum h' (s.heap.objs.size + 1) s.heap.objs.size 0 .none → h'.get? s.heap.objs.size = some o → (∀ b u, s.heap.get? b = some u → h'.get? b = some u) → Q (.ref (s.heap.objs.size + 1)) { s with heap := h' }) :
    wpAny (model prog w) A (call (.type "enumerate") [v]) Q E s := by
  refine callType_new F.called_enumerate (by decide) (F.typeCall_enumerate_1 _) (F.newCall_enumerate_1 _) (fun obj => F.args_object_init_2 obj _) F.entry_enumerate_new (meets_enum1 B) ⟨z, ?_⟩
  have hz : (s.heap.push o).objs.size = s.heap.objs.size + 1 := Heap.size_push ..
  show _ ∧ _
  rw [hz]
  have he : IsEnum ((s.heap.push o).push { cls := .type "enumerate", data := .fields #[.none, .bool false, .ref s.heap.objs.size, rawInt 0, .none, .none] }) (s.heap.objs.size + 1) s.heap.objs.size 0 .none := by
    have q := Heap.get?_push_size (s.heap.push o) (o := { cls := .type "enumerate", data := .fields #[.none, .bool false, .ref s.heap.objs.size, rawInt 0, .none, .none] }) rfl
    rw [hz] at q; exact q
  exact ⟨⟨_, he, rfl⟩, h _ he (Heap.get?_push_of_some _ (Heap.get?_push_size _ B.free)) fun b u x => Heap.get?_push_of_some _ (Heap.get?_push_of_some _ x)⟩
/-- the tuple at a, its items in new pairs with their places -/
def IteT (K : PySem.W.Frag) (a : Addr) : It :=
  ⟨fun i H => ∃ (xs : List V) (x : V), SqT K H a xs ∧ xs[i]? = some x, fun i H v H' => ∃ T x, v = .ref T ∧ H T = none ∧ H' = upd H T (.tup [.int (i : Nat), x]) ∧ ∀ ys, SqT K H a ys → ys[i]? = some x,
    fun i H => ∃ xs : List V, SqT K H a xs ∧ i = xs.length⟩
theorem turn_enumT {P : Program} {w : World} {K : PySem.W.Frag} {elts : List Expr} {kk : Nat} {tpos : Pos} (a e it : Addr) :
    Turn P w K (.Tuple elts kk tpos) (IteT K a) [e, it] e (fun i h => (∃ old, IsEnum h e it ((i : Nat) : Int) old) ∧ h.IsTupleIter it a i ∧ e ≠ it ∧ a ≠ it ∧ a ≠ e) where
  mem := by simp
  obj := fun i h st b hb => by
    obtain ⟨⟨old, he⟩, ⟨o, ho, hc, hd⟩, _⟩ := st
    rcases (show b = e ∨ b = it by simpa using hb) with z | z
    · rw [z]; exact ⟨_, he, fun v q => nomatch q⟩
    · rw [z]; exact ⟨o, ho, fun v q => by rw [hd] at q; cases q⟩
  keep := fun i h h' st k => by
    obtain ⟨⟨old, he⟩, hi, hne⟩ := st
    exact ⟨⟨old, k e (by simp) _ he⟩, hi.at fun o q => k it (by simp) o q, hne⟩
  item := by
    intro X hP hw hK hc i pins s σ H E I hf st hg
    subst hP hw hK
    obtain ⟨⟨old, he⟩, hit, hne, hai, hae⟩ := st
    obtain ⟨xs, x, hq, hx⟩ := hg
    obtain ⟨its, rv, p, _⟩ := I.tuple hq
    have hel : e < s.heap.objs.size := Heap.lt_size he
    have hil : it < s.heap.objs.size := by obtain ⟨_, q, _⟩ := hit; exact Heap.lt_size q
    have hsz : i < its.toArray.size := by
      have z := (List.getElem?_eq_some_iff.mp hx).1
      rw [List.size_toArray, ← rv.length]; exact z
    have Dw := Draws.tuple (prog := X.prog) (w := X.w) (A := X.A.in1) (I.ok.hd hc) it a hai its.toArray
    refine wpAny_pyNext_enum_itemD Dw he ⟨hit, p⟩ hsz hne (by simp [hne, Ne.symm hae]) fun u h' tk hu ho hit' hT hz hk => ?_
    have hu : its[i]? = some u := by simpa using hu
    have ru : RelV x u := by
      obtain ⟨u', h1, h2⟩ := rv.get hx
      rw [hu] at h1; cases h1; exact h2
    refine ⟨_, rfl, wpAny_letOwnedTupleGo_enum (s := { s with heap := h', toks := tk + 1 }) ho fun h2 he2 sb => ?_⟩
    have hT2 : h2.get? s.heap.objs.size = some { cls := .type "tuple", data := .seq #[.int i tk, u] } := (sb.2 _ (Nat.ne_of_gt hel)).trans hT
    have new : ObjOk X.prog X.w (upd H s.heap.objs.size (.tup [.int (i : Nat), x])) h2 s.heap.objs.size (.tup [.int (i : Nat), x]) := ⟨by show 2 ≤ sizeLine; decide, [.int i tk, u], .cons ⟨_, rfl⟩ (.cons ru .nil), ⟨_, hT2, rfl, _, rfl⟩⟩
    have I1 : Inv X pins σ (upd H s.heap.objs.size (.tup [.int (i : Nat), x])) { s with heap := h2, toks := tk + 1 } :=
      I.turnedNew (ch := [e, it]) (fun b ob hb q => (sb.2 b (fun z => hb (by simp [z]))).trans (hk b ob (fun z => hb (by simp [z])) (fun z => hb (by simp [z])) q)) hf (Nat.le_refl _) new
    have e1 : ((i + 1 : Nat) : Int) = (i : Int) + 1 := by omega
    have he3 : IsEnum h2 e it ((i + 1 : Nat) : Int) u := by rw [e1]; exact he2
    refine ⟨.ref s.heap.objs.size, _, I1, rfl, ⟨_, x, rfl, I.hok.fresh (Nat.le_refl _), rfl, fun ys hy => by rw [I.tuple_inj hy hq]; exact hx⟩, ⟨⟨u, he3⟩, hit'.1.at fun o q => (sb.2 it (Ne.symm hne)).trans q, hne, hai, hae⟩, fun b hb => ?_⟩
    have lt : b < s.heap.objs.size := by
      rcases (show b = e ∨ b = it by simpa using hb) with z | z
      · rw [z]; exact hel
      · rw [z]; exact hil
    rw [upd_ne (Nat.ne_of_lt lt)]
    exact (hf b hb).1
  done := by
    intro X hP hw hK hc i pins s σ H E I hf st hg
    subst hP hw hK
    obtain ⟨⟨old, he⟩, hit, hne, hai, hae⟩ := st
    obtain ⟨xs, hq, hx⟩ := hg
    obtain ⟨its, rv, p, _⟩ := I.tuple hq
    obtain ⟨f0, f1, f2, f3, f4, f5⟩ := hf it (by simp)
    have hl : i = its.toArray.size := by rw [hx, List.size_toArray]; exact rv.length
    subst hl
    have Dw := Draws.tuple (prog := X.prog) (w := X.w) (A := X.A.in1) (I.ok.hd hc) it a hai its.toArray
    exact wpAny_pyNext_enum_endD Dw he ⟨hit, p⟩ fun h' eb => ⟨rfl, I.turned (t' := s.toks) (fun b o hb q => eb b o hb q) f0 f1 f3 f4 f5⟩
  self := fun A i s Q E st h => let ⟨⟨_, he⟩, _⟩ := st; wpAny_pyIter_enum he h

section
variable {X : Cx} {S : Sc} {G : Gx} {F : Fx} {W : WQ} {M0 : Mem} {H0 : Hp} {m m2 m3 : E} {a b c tg : Expr}
/-- what is walked by a value: a text, a list, a tuple -/
def iAll (K : PySem.W.Frag) (P : Program) (w : World) (te : TE) : TI := fun σ H R => te σ H fun v H1 => (∃ x, v = .str x ∧ R (Its x) H1) ∨ (∃ a xs, v = .ref a ∧ SqL K H1 a xs ∧ R (Itl K a) H1) ∨ (∃ a xs, v = .ref a ∧ SqT K H1 a xs ∧ R (Itt K a) H1) ∨
  ∃ d o us, v = .ref d ∧ H1 d = some (.frz o (dNO P w d us)) ∧ R (ItkN P w d o us.length) H1
theorem pi_all {te : TE} (he : PE X a te) : PI X tg a (iAll X.K X.prog X.w te) := by
  refine ⟨fun pins s σ H R I h => thn (he.run pins s σ H _ I h) fun v s1 ⟨y, H1, I1, r1, q⟩ => ?_⟩
  rcases q with ⟨x, ex, q⟩ | ⟨p, xs, ex, hq, q⟩ | ⟨p, xs, ex, hq, q⟩ | ⟨p, o, us, ex, hq, q⟩ <;> subst ex
  · obtain ⟨t, rfl⟩ := r1
    cases ha : x.cps.all (· < 128)
    · exact wpAny_pyIter_wide ha (pi_one I1 _ (turn_str _ x t "str_iterator" (.inr rfl)) ⟨_, Heap.get?_push_size _ rfl, rfl, rfl⟩ q)
    · exact wpAny_pyIter_ascii ha (pi_one I1 _ (turn_str _ x t "str_ascii_iterator" (.inl rfl)) ⟨_, Heap.get?_push_size _ rfl, rfl, rfl⟩ q)
  · cases r1
    obtain ⟨its, rv, pl, _⟩ := I1.list hq
    exact wpAny_pyIter_list pl.isList (pi_one I1 _ (turn_list p _) ⟨_, Heap.get?_push_size _ rfl, rfl, rfl⟩ q)
  · cases r1
    obtain ⟨its, rv, pl, _⟩ := I1.tuple hq
    exact wpAny_pyIter_tuple (show s1.heap.IsTuple p its.toArray from pl) (pi_one I1 _ (turn_tuple p _) ⟨_, Heap.get?_push_size _ rfl, rfl, rfl⟩ q)
  · obtain rfl : v = Value.ref p := r1
    exact pi_keysN_run I1 hq q
def iEnumA (K : PySem.W.Frag) (ta : TA) : TI := fun σ H R => ta σ H fun vs H1 => ∃ a xs, vs = [.ref a] ∧ ((SqL K H1 a xs ∧ R (Ite K a) H1) ∨ (SqT K H1 a xs ∧ R (IteT K a) H1))
theorem pi_enumA {ta : TA} {p pos tpos : Pos} {elts : List Expr} {kk : Nat} (hg : Gl X "enumerate") (hm : X.mg "enumerate" = none) (ha : PA X [a] ta) (hs : starEach [a] X.env = [(false, eval a X.env)]) :
    PI X (.Tuple elts kk tpos) (.Call (.Name "enumerate" p) [a] [] pos) (iEnumA X.K ta) := by
  refine ⟨fun pins s σ H R I h => Call_ (ld_blt I hg hm boot_enumerate (PyProof.Rows.callWith_type1 (thn (ha.run pos pins s σ H _ I h) fun us s1 ⟨vs, H1, I1, r1, q1⟩ => ?_) hs rfl))⟩
  obtain ⟨l, xs, ex, q1⟩ := q1
  subst ex
  obtain ⟨u, rfl, ru⟩ := vals1 r1
  cases (show u = Value.ref l from ru)
  have fresh : ∀ c, c ∈ [s1.heap.objs.size + 1, s1.heap.objs.size] → FpOk X pins H1 c := fun c hc => by
    have hle : s1.heap.objs.size ≤ c := by
      rcases (show c = s1.heap.objs.size + 1 ∨ c = s1.heap.objs.size by simpa using hc) with z | z
      · rw [z]; exact Nat.le_add_right _ _
      · rw [z]; exact Nat.le_refl _
    exact I1.fpOk hle (I1.hok.fresh hle)
  rcases q1 with ⟨hq, q⟩ | ⟨hq, q⟩
  · obtain ⟨its, rv, pl, _⟩ := I1.list hq
    refine call_enumerate_list pl.isList fun h' he hit _ hk => wpAny_pyIter_enum he ?_
    exact ⟨s1.heap.objs.size + 1, [s1.heap.objs.size + 1, s1.heap.objs.size], _, _, H1, rfl, I1.kept (t' := s1.toks) hk, turn_enum l (s1.heap.objs.size + 1) s1.heap.objs.size, ⟨⟨.none, he⟩, hit, Nat.succ_ne_self _⟩, fresh, q⟩
  · obtain ⟨its, rv, pl, _⟩ := I1.tuple hq
    have hl : l < s1.heap.objs.size := pl.lt
    refine call_enum1 (begins_tuple l its.toArray) pl fun h' he hit hk => wpAny_pyIter_enum he ?_
    exact ⟨s1.heap.objs.size + 1, [s1.heap.objs.size + 1, s1.heap.objs.size], _, _, H1, rfl, I1.kept (t' := s1.toks) hk, turn_enumT l (s1.heap.objs.size + 1) s1.heap.objs.size,
      ⟨⟨.none, he⟩, ⟨_, hit, rfl, rfl⟩, Nat.succ_ne_self _, Nat.ne_of_lt hl, Nat.ne_of_lt (Nat.lt_succ_of_lt hl)⟩, fresh, q⟩

/-! ### .. yield the items -/
theorem lst_no_tup {M : Mem} {x : D} {ds : List D} (h : lstOf M x = some ds) : tupOf x = none := by
  cases x <;> first | rfl | cases h
theorem lst_of_seq {M : Mem} {x : D} {ds : List D} (h : tupOf x = none) (st : seqOf M x = some ds) : lstOf M x = some ds := by
  unfold seqOf at st
  rw [h] at st
  simpa using st
theorem seq_cases {M : Mem} {x : D} {ds : List D} (st : seqOf M x = some ds) : lstOf M x = some ds ∨ (lstOf M x = none ∧ tupOf x = some ds) := by
  unfold seqOf at st
  cases q : lstOf M x with
  | some es => rw [q] at st; exact .inl st
  | none => rw [q] at st; exact .inr ⟨rfl, by simpa using st⟩
theorem lst_at {M1 : Mem} {H1 : Hp} {x : D} {ds : List D} {p : Addr} (r : Rep G M1 H1 x (.ref p)) (ht : tupOf x = none) {M : Mem} {H : Hp} (e : Ext M1 H1 M H) (ok : OkM G M H) (st : seqOf M x = some ds) : ∃ vs, SqL G.K H p vs ∧ RepL G M H ds vs := by
  obtain ⟨p', vs, ep, sq, rl⟩ := rep_lst ok (r.ext e) (lst_of_seq ht st)
  cases ep
  exact ⟨vs, sq, rl⟩
theorem tup_at {M1 : Mem} {H1 : Hp} {x : D} {ds : List D} {p : Addr} (r : Rep G M1 H1 x (.ref p)) (ht : tupOf x = some ds) {M : Mem} {H : Hp} (e : Ext M1 H1 M H) : ∃ vs, SqT G.K H p vs ∧ RepL G M H ds vs := by
  obtain ⟨p', vs, ep, sq, rl⟩ := rep_tup (r.ext e) ht
  cases ep
  exact ⟨vs, sq, rl⟩
theorem itl_ok {M1 : Mem} {H1 : Hp} {x : D} {ds : List D} {p : Addr} (r : Rep G M1 H1 x (.ref p)) (ht : tupOf x = none) : ItOk G M1 H1 (Itl G.K p) ds (fun M => seqOf M x = some ds) := by
  intro i M H e ok st
  obtain ⟨vs, sq, rl⟩ := lst_at r ht e ok st
  refine ⟨fun d hd => ?_, fun h => ⟨vs, sq, by rw [← rl.length]; exact Nat.le_of_eq h.symm⟩⟩
  obtain ⟨v, hv, rv⟩ := rl.get hd
  refine ⟨⟨vs, v, sq, hv⟩, fun y H' ⟨eq, hy⟩ => ?_⟩
  subst eq
  have z := hy vs sq
  rw [hv] at z; cases z
  exact ⟨Ext.refl, ok, rv⟩
theorem itt_ok {M1 : Mem} {H1 : Hp} {x : D} {ds : List D} {p : Addr} (r : Rep G M1 H1 x (.ref p)) (ht : tupOf x = some ds) {st : Mem → Prop} : ItOk G M1 H1 (Itt G.K p) ds st := by
  intro i M H e ok _
  obtain ⟨vs, sq, rl⟩ := tup_at r ht e
  refine ⟨fun d hd => ?_, fun h => ⟨vs, sq, by rw [← rl.length]; exact Nat.le_of_eq h.symm⟩⟩
  obtain ⟨v, hv, rv⟩ := rl.get hd
  refine ⟨⟨vs, v, sq, hv⟩, fun y H' ⟨eq, hy⟩ => ?_⟩
  subst eq
  have z := hy vs sq
  rw [hv] at z; cases z
  exact ⟨Ext.refl, ok, rv⟩
theorem its_ok {M1 : Mem} {H1 : Hp} {z : Str} {st : Mem → Prop} : ItOk G M1 H1 (Its z) (z.cps.toList.map fun c => D.str ⟨#[c]⟩) st := by
  intro i M H e ok _
  refine ⟨fun d hd => ?_, fun h => ?_⟩
  · rw [List.getElem?_map] at hd
    cases q : z.cps.toList[i]? with
    | none => rw [q] at hd; cases hd
    | some c =>
      rw [q] at hd; cases hd
      have hi := (List.getElem?_eq_some_iff.mp q).1
      refine ⟨by show i < z.cps.size; simpa using hi, fun y H' ⟨eq, c', hc, hy⟩ => ?_⟩
      subst eq
      have e2 : z.cps[i]? = some c := by simpa using q
      rw [e2] at hc; cases hc
      exact ⟨Ext.refl, ok, hy⟩
  · show z.cps.size ≤ i
    have h := h.symm
    simp at h
    omega
theorem rgD_get {a b : Int} {i : Nat} {d : D} (h : (rgD a b)[i]? = some d) : i < (b - a).toNat ∧ d = .int (a + (i : Nat)) := by
  unfold rgD at h
  rw [List.getElem?_map] at h
  cases q : (List.range (b - a).toNat)[i]? with
  | none => rw [q] at h; cases h
  | some c =>
    rw [q] at h; cases h
    have hi := (List.getElem?_eq_some_iff.mp q)
    obtain ⟨h1, h2⟩ := hi
    simp at h1 h2
    subst h2
    exact ⟨by omega, rfl⟩
theorem rgD_length (a b : Int) : (rgD a b).length = (b - a).toNat := by unfold rgD; simp
theorem rg_rep {M : Mem} {H : Hp} (a b : Int) : RepL G M H (rgD a b) (rgV a b) := by
  unfold rgD rgV
  have key : ∀ l : List Nat, RepL G M H (l.map fun i => D.int (a + (i : Nat))) (l.map fun i => V.int (a + (i : Nat))) := fun l => by
    induction l with
    | nil => exact RepL.nil
    | cons x r ih => exact RepL.cons rfl ih
  exact key _
theorem itr_ok {M1 : Mem} {H1 : Hp} {a b : Int} {st : Mem → Prop} : ItOk G M1 H1 (Itr a (b - a).toNat) (rgD a b) st := by
  intro i M H e ok _
  refine ⟨fun d hd => ?_, fun h => by rw [rgD_length] at h; exact Nat.le_of_eq h.symm⟩
  obtain ⟨hi, e⟩ := rgD_get hd
  subst e
  refine ⟨hi, fun y H' ⟨eq, hy⟩ => ?_⟩
  subst eq
  exact ⟨Ext.refl, ok, hy⟩
theorem pair_ok {M : Mem} {H : Hp} {x y : D} {xv yv : V} {T : Addr} (ok : OkM G M H) (rx : Rep G M H x xv) (ry : Rep G M H y yv) (hT : H T = none) :
    Ext M H M (upd H T (.tup [xv, yv])) ∧ OkM G M (upd H T (.tup [xv, yv])) ∧ Rep G M (upd H T (.tup [xv, yv])) (.tup [x, y]) (.ref T) :=
  ⟨Ext.new hT, ok.new hT, T, [xv, yv], rfl, ok.dom hT, upd_same, RepL.cons (rx.ext (Ext.new hT)) (RepL.cons (ry.ext (Ext.new hT)) RepL.nil)⟩
theorem zipIdx_get {ds : List D} {i : Nat} {d : D} (h : (ds.zipIdx.map fun p => D.tup [.int p.2, p.1])[i]? = some d) : ∃ x, ds[i]? = some x ∧ d = .tup [.int (i : Nat), x] := by
  rw [List.getElem?_map, List.getElem?_zipIdx] at h
  cases q : ds[i]? with
  | none => rw [q] at h; cases h
  | some x =>
    rw [q] at h
    simp at h
    exact ⟨x, rfl, h.symm⟩
theorem ite_ok {M1 : Mem} {H1 : Hp} {x : D} {ds : List D} {p : Addr} (r : Rep G M1 H1 x (.ref p)) (ht : tupOf x = none) : ItOk G M1 H1 (Ite G.K p) (ds.zipIdx.map fun p => .tup [.int p.2, p.1]) (fun M => seqOf M x = some ds) := by
  intro i M H e ok st
  obtain ⟨vs, sq, rl⟩ := lst_at r ht e ok st
  refine ⟨fun d hd => ?_, fun h => ⟨vs, sq, by rw [← rl.length]; simp at h; omega⟩⟩
  obtain ⟨y, hy, e⟩ := zipIdx_get hd
  subst e
  obtain ⟨v, hv, rv⟩ := rl.get hy
  refine ⟨⟨vs, v, sq, hv⟩, fun z H' ⟨T, u, eT, hT, eH, hu⟩ => ?_⟩
  subst eT eH
  have q := hu vs sq
  rw [hv] at q; cases q
  exact pair_ok ok (show Rep G M H (.int (i : Nat)) (.int (i : Nat)) from rfl) rv hT
theorem iteT_ok {M1 : Mem} {H1 : Hp} {x : D} {ds : List D} {p : Addr} (r : Rep G M1 H1 x (.ref p)) (ht : tupOf x = some ds) {st : Mem → Prop} : ItOk G M1 H1 (IteT G.K p) (ds.zipIdx.map fun p => .tup [.int p.2, p.1]) st := by
  intro i M H e ok _
  obtain ⟨vs, sq, rl⟩ := tup_at r ht e
  refine ⟨fun d hd => ?_, fun h => ⟨vs, sq, ?_⟩⟩
  · obtain ⟨y, hy, e⟩ := zipIdx_get hd
    subst e
    obtain ⟨v, hv, rv⟩ := rl.get hy
    refine ⟨⟨vs, v, sq, hv⟩, fun z H' ⟨T, u, eT, hT, eH, hu⟩ => ?_⟩
    subst eT eH
    have q := hu vs sq
    rw [hv] at q; cases q
    exact pair_ok ok (show Rep G M H (.int (i : Nat)) (.int (i : Nat)) from rfl) rv hT
  · rw [← rl.length]
    simpa using h
theorem zip_get {ds es : List D} {i : Nat} {d : D} (h : ((ds.zip es).map fun p => D.tup [p.1, p.2])[i]? = some d) : ∃ x y, ds[i]? = some x ∧ es[i]? = some y ∧ d = .tup [x, y] := by
  rw [List.getElem?_map] at h
  cases q : (ds.zip es)[i]? with
  | none => rw [q] at h; cases h
  | some z =>
    rw [q] at h; cases h
    obtain ⟨x, y⟩ := z
    rw [List.getElem?_zip_eq_some] at q
    exact ⟨x, y, q.1, q.2, rfl⟩
theorem itz_ok {M1 : Mem} {H1 : Hp} {x y : D} {ds es : List D} {p q : Addr} (rx : Rep G M1 H1 x (.ref p)) (ry : Rep G M1 H1 y (.ref q)) (hx : tupOf x = none) (hy : tupOf y = none) :
    ItOk G M1 H1 (Itz G.K p q) ((ds.zip es).map fun p => .tup [p.1, p.2]) (fun M => seqOf M x = some ds ∧ seqOf M y = some es) := by
  intro i M H e ok ⟨st1, st2⟩
  obtain ⟨vs, sq1, rl1⟩ := lst_at rx hx e ok st1
  obtain ⟨us, sq2, rl2⟩ := lst_at ry hy e ok st2
  refine ⟨fun d hd => ?_, fun h => ⟨vs, us, sq1, sq2, ?_⟩⟩
  · obtain ⟨d1, d2, h1, h2, e⟩ := zip_get hd
    subst e
    obtain ⟨v1, g1, r1⟩ := rl1.get h1
    obtain ⟨v2, g2, r2⟩ := rl2.get h2
    refine ⟨⟨vs, us, v1, v2, sq1, sq2, g1, g2⟩, fun z H' ⟨T, u, w, eT, hT, eH, hu, hw⟩ => ?_⟩
    subst eT eH
    have q1 := hu vs sq1
    have q2 := hw us sq2
    rw [g1] at q1; cases q1
    rw [g2] at q2; cases q2
    exact pair_ok ok r1 r2 hT
  · rw [← rl1.length, ← rl2.length]
    simp at h
    omega
theorem itzT_ok {M1 : Mem} {H1 : Hp} {x y : D} {ds es : List D} {p q : Addr} (rx : Rep G M1 H1 x (.ref p)) (ry : Rep G M1 H1 y (.ref q)) (hx : tupOf x = some ds) (hy : tupOf y = some es) {st : Mem → Prop} :
    ItOk G M1 H1 (RZ.ItzT G.K p q) ((ds.zip es).map fun p => .tup [p.1, p.2]) st := by
  intro i M H e ok _
  obtain ⟨vs, sq1, rl1⟩ := tup_at rx hx e
  obtain ⟨us, sq2, rl2⟩ := tup_at ry hy e
  refine ⟨fun d hd => ?_, fun h => ⟨vs, us, sq1, sq2, ?_⟩⟩
  · obtain ⟨d1, d2, h1, h2, e⟩ := zip_get hd
    subst e
    obtain ⟨v1, g1, r1⟩ := rl1.get h1
    obtain ⟨v2, g2, r2⟩ := rl2.get h2
    refine ⟨⟨vs, us, v1, v2, sq1, sq2, g1, g2⟩, fun z H' ⟨T, u, w, eT, hT, eH, hu, hw⟩ => ?_⟩
    subst eT eH
    have q1 := hu vs sq1
    have q2 := hw us sq2
    rw [g1] at q1; cases q1
    rw [g2] at q2; cases q2
    exact pair_ok ok r1 r2 hT
  · rw [← rl1.length, ← rl2.length]
    simp at h
    omega
/-! ### a nested dict that is not written -/
theorem dF_at {M : Mem} {H : Hp} {p : Addr} {o : Obj} {kvs : List (NK × D)} (ok : OkM G M H) (h : M p = some (.dF o kvs)) : ∃ us, H p = some (.frz o (dNO G.P G.w p us)) ∧ RepN G M H kvs us := by
  obtain ⟨u, q, us, eu, rn⟩ := ok p _ h
  subst eu
  exact ⟨us, q, rn⟩
theorem repN_get {M : Mem} {H : Hp} : ∀ {kvs : List (NK × D)} {us : List NE} {i : Nat} {kv : NK × D}, RepN G M H kvs us → kvs[i]? = some kv → ∃ u : NE, us[i]? = some u ∧ Rep G M H (dOfK kv.1) (.ref u.2.1) ∧ Rep G M H kv.2 u.2.2
  | [], _, i, kv, _, e => by simp at e
  | (k, d) :: kvs, us, i, kv, r, e => by
    obtain ⟨b, v, r', eu, h1, h2, h3, h4⟩ := r
    subst eu
    cases i with
    | zero =>
      simp only [List.getElem?_cons_zero, Option.some.injEq] at e
      subst e
      exact ⟨(k, b, v), rfl, h1, h3⟩
    | succ j =>
      simp only [List.getElem?_cons_succ] at e ⊢
      exact repN_get h4 e
theorem itkN_ok {M1 : Mem} {H1 : Hp} {p : Addr} {o : Obj} {kvs : List (NK × D)} : ItOk G M1 H1 (ItkN G.P G.w p o kvs.length) (kvs.map fun kv => dOfK kv.1) (fun M => M p = some (.dF o kvs)) := by
  intro i M H e ok st
  obtain ⟨us, hq, rn⟩ := dF_at ok st
  have hl := repN_length rn
  refine ⟨fun d hd => ?_, fun h => ⟨⟨us, hq, hl.symm⟩, by rw [List.length_map] at h; omega⟩⟩
  rw [List.getElem?_map] at hd
  cases q : kvs[i]? with
  | none => rw [q] at hd; cases hd
  | some kv =>
    rw [q] at hd; cases hd
    obtain ⟨u, hu, h1, h2⟩ := repN_get rn q
    refine ⟨⟨⟨us, hq, hl.symm⟩, (List.getElem?_eq_some_iff.mp q).1⟩, fun x H' ⟨eH, hx⟩ => ?_⟩
    subst eH
    obtain ⟨u', hu', ex⟩ := hx us hq
    rw [hu] at hu'; cases hu'
    subst ex
    exact ⟨Ext.refl, ok, h1⟩
theorem itiN_ok {M1 : Mem} {H1 : Hp} {p : Addr} {o : Obj} {kvs : List (NK × D)} : ItOk G M1 H1 (ItiN G.P G.w p o kvs.length) (kvs.map fun kv => .tup [dOfK kv.1, kv.2]) (fun M => M p = some (.dF o kvs)) := by
  intro i M H e ok st
  obtain ⟨us, hq, rn⟩ := dF_at ok st
  have hl := repN_length rn
  refine ⟨fun d hd => ?_, fun h => ⟨⟨us, hq, hl.symm⟩, by rw [List.length_map] at h; omega⟩⟩
  rw [List.getElem?_map] at hd
  cases q : kvs[i]? with
  | none => rw [q] at hd; cases hd
  | some kv =>
    rw [q] at hd; cases hd
    obtain ⟨u, hu, h1, h2⟩ := repN_get rn q
    refine ⟨⟨⟨us, hq, hl.symm⟩, (List.getElem?_eq_some_iff.mp q).1⟩, fun x H' ⟨T, y, v, ex, hT, eH, hx⟩ => ?_⟩
    obtain ⟨u', hu', ey, ev⟩ := hx us hq
    rw [hu] at hu'; cases hu'
    subst ex eH ey ev
    exact pair_ok ok h1 h2 hT
end
end Ev

/-! Ev, part K: methods, ranges, targets, comprehensions, freezing; what is walked. -/
namespace Ev
open PySem PySem.Spec PyProof.Rows L2
section
variable {X : Cx} {S : Sc} {G : Gx} {F : Fx} {W : WQ} {M0 : Mem} {H0 : Hp} {m m2 m3 : E} {a b c tg : Expr}
theorem base_of {o : Expr} {f : Str} {env : PySem.Env} (h : noCall o = true) : attributeBase o f env (eval o env) = eval o env := by
  cases o <;> first | rfl | exact Bool.noConfusion (show false = true from h)
theorem args_of {x : Expr} {xs : List Expr} (hk : chkA m S (x :: xs) = true) : ∃ m1 m2, m = .cons m1 m2 ∧ chkE m1 S x = true ∧ chkA m2 S xs = true := by
  cases m <;> first | exact Bool.noConfusion (show false = true from hk) | skip
  rename_i m1 m2
  have hk : (chkE m1 S x && chkA m2 S xs) = true := hk
  rw [Bool.and_eq_true] at hk
  exact ⟨m1, m2, rfl, hk.1, hk.2⟩
theorem star_plain : ∀ (es : E) {r : List Expr} {S : Sc} {env : PySem.Env} {pos : Pos}, chkA es S r = true → (backTo pos (starEach r env)).all (fun x => !x.1) = true := fun es r S env pos h => by
  have q := star_false es (env := env) (pos := pos) h
  rw [List.any_eq_false] at q
  rw [List.all_eq_true]
  intro x hx
  simpa using q x hx
theorem s_meth (Z : Sta X S G F W M0 H0) {n : MI} {mu : Bool} {o : Expr} {args : List Expr} {apos pos : Pos} (hn : noCall o = true) (hl : (apos.endLine == pos.line) = true) (hf : args.length < 30) (hk : chkA m2 S args = true)
    (ho : PE X o (lift G M0 H0 (wpE F W m))) (ha : PA X args (liftA G M0 H0 (wpA F W m2))) : PE X (.Call (.Attribute o n.name apos) args [] pos) (lift G M0 H0 (wpE F W (.meth n mu m m2))) := by
  have fin : ∀ σ H Q, lift G M0 H0 (wpE F W (.meth n mu m m2)) σ H Q → tBW X.K X.prog X.w n.ty (rMi X.K X.prog X.w n) (lift G M0 H0 (wpE F W m)) (liftA G M0 H0 (wpA F W m2)) σ H Q := by
    intro σ H Q ⟨σD, M, Q0, s, q, z⟩
    refine ⟨σD, M, _, s, q, fun x M1 xv H1 ⟨rc, q1⟩ ok1 rx e1 => ⟨by rw [Z.K, Z.P, Z.w]; exact recv_ok ok1 rx rc, ?_⟩⟩
    refine ⟨σD, M1, _, s.ext e1 ok1, q1, fun ds M2 vs H2 q2 ok2 rl e2 => ?_⟩
    rw [Z.K]; (try rw [Z.P, Z.w])
    exact mi_ok ok2 (rx.ext e2) rl q2 (z.on (e1.trans e2))
  cases args with
  | nil =>
    refine PE.imp (pe_bw0 n.attrs n.slot n.desc (mt_mi Z.hu n) ho (base_of hn) hl) fun σ H Q h => ?_
    obtain ⟨σD, M, Q0, s, q, z⟩ := fin σ H Q h
    refine ⟨σD, M, Q0, s, q, fun x M1 xv H1 q1 ok1 rx e1 => ?_⟩
    obtain ⟨t, h⟩ := z x M1 xv H1 q1 ok1 rx e1
    refine ⟨t, ?_⟩
    obtain ⟨σ2, M2, Q2, s2, q2, z2⟩ := h
    cases m2 <;> first | exact Bool.noConfusion (show false = true from hk) | skip
    exact z2 _ _ _ _ q2 s2.2.2 RepL.nil Ext.refl
  | cons x xs =>
    obtain ⟨m1, m2', e, k1, k2⟩ := args_of hk
    refine PE.imp (pe_bw n.attrs n.slot n.desc (mt_mi Z.hu n) ho ha (base_of hn) ?_ hl (star_cons k1) (star_false m2' k2)) fin
    rw [star_plain m2 hk, show backToKw pos (keywordEach [] X.env) = [] from rfl]
    simpa using hf
theorem s_rg (Z : Sta X S G F W M0 H0) {t mu : Bool} {p p2 pos pos2 : Pos} (hg : glB S (if t then "tuple" else "list") = true) (hg2 : glB S "range" = true) (hk : chkE m S a = true) (ha : PE X a (lift G M0 H0 (wpE F W m))) (hn : isNop m2 = true) :
    PE X (.Call (.Name (if t then "tuple" else "list") p) [.Call (.Name "range" p2) [a] [] pos2] [] pos) (lift G M0 H0 (wpE F W (.rg t mu false m m2))) := by
  obtain ⟨g, nd⟩ := Z.gl_of hg
  obtain ⟨g2, nd2⟩ := Z.gl_of hg2
  have P := prg_1 (p := p2) (pos := pos2) g2 (Z.bn _ (by decide +kernel)) ha (star_cons hk)
  have e : m2 = .nop := by cases m2 <;> first | rfl | exact Bool.noConfusion (show false = true from hn)
  subst e
  cases t with
  | true =>
    refine PE.imp (pe_tupRg Z.calm g (Z.bn _ (by decide +kernel)) P) fun σ H Q ⟨σD, M, Q0, s, q, z⟩ => ?_
    refine ⟨σD, M, _, s, q, fun x M1 xv H1 ⟨i, j, hij, ok, q1⟩ ok1 rx e1 => ?_⟩
    simp only [Bool.false_eq_true, if_false] at hij
    obtain ⟨ex, ei⟩ := hij
    subst ex ei
    simp only [if_true] at q1
    exact ⟨j, rx, ok, fun l hl => newT_ok ok1 (rg_rep 0 j) q1 (z.on e1) hl⟩
  | false =>
    refine PE.imp (pe_listRg Z.calm g (Z.bn _ (by decide +kernel)) P) fun σ H Q ⟨σD, M, Q0, s, q, z⟩ => ?_
    refine ⟨σD, M, _, s, q, fun x M1 xv H1 ⟨i, j, hij, ok, q1⟩ ok1 rx e1 => ?_⟩
    simp only [Bool.false_eq_true, if_false] at hij
    obtain ⟨ex, ei⟩ := hij
    subst ex ei
    simp only [Bool.false_eq_true, if_false] at q1
    exact ⟨j, rx, ok, fun l hl => newL_ok ok1 (rg_rep 0 j) q1 (z.on e1) hl⟩
theorem s_rg2 (Z : Sta X S G F W M0 H0) {t mu : Bool} {p p2 pos pos2 : Pos} (hg : glB S (if t then "tuple" else "list") = true) (hg2 : glB S "range" = true) (hk : chkE m S a = true) (hk2 : chkE m2 S b = true) (ha : PE X a (lift G M0 H0 (wpE F W m))) (hb : PE X b (lift G M0 H0 (wpE F W m2))) :
    PE X (.Call (.Name (if t then "tuple" else "list") p) [.Call (.Name "range" p2) [a, b] [] pos2] [] pos) (lift G M0 H0 (wpE F W (.rg t mu true m m2))) := by
  obtain ⟨g, nd⟩ := Z.gl_of hg
  obtain ⟨g2, nd2⟩ := Z.gl_of hg2
  have P := prg_2 (p := p2) (pos := pos2) g2 (Z.bn _ (by decide +kernel)) ha hb (star_cons hk) (star_cons hk2) (by rw [star_cons hk2]; rfl)
  cases t with
  | true =>
    refine PE.imp (pe_tupRg Z.calm g (Z.bn _ (by decide +kernel)) P) fun σ H Q ⟨σD, M, Q0, s, q, z⟩ => ?_
    refine ⟨σD, M, _, s, q, fun x M1 xv H1 q1 ok1 rx e1 => ⟨σD, M1, _, s.ext e1 ok1, q1, fun y M2 yv H2 ⟨i, j, hij, ok, q2⟩ ok2 ry e2 => ?_⟩⟩
    simp only [if_true] at hij q2
    obtain ⟨ex, ey⟩ := hij
    subst ex ey
    exact ⟨i, j, rx, ry, ok, fun l hl => newT_ok ok2 (rg_rep i j) q2 (z.on (e1.trans e2)) hl⟩
  | false =>
    refine PE.imp (pe_listRg Z.calm g (Z.bn _ (by decide +kernel)) P) fun σ H Q ⟨σD, M, Q0, s, q, z⟩ => ?_
    refine ⟨σD, M, _, s, q, fun x M1 xv H1 q1 ok1 rx e1 => ⟨σD, M1, _, s.ext e1 ok1, q1, fun y M2 yv H2 ⟨i, j, hij, ok, q2⟩ ok2 ry e2 => ?_⟩⟩
    simp only [if_true, Bool.false_eq_true, if_false] at hij q2
    obtain ⟨ex, ey⟩ := hij
    subst ex ey
    exact ⟨i, j, rx, ry, ok, fun l hl => newL_ok ok2 (rg_rep i j) q2 (z.on (e1.trans e2)) hl⟩

theorem s_frz (ha : PE X a (lift G M0 H0 (wpE F W m))) : PE X a (lift G M0 H0 (wpE F W (.frz m))) :=
  PE.imp ha fun σ H Q ⟨σD, M, Q0, s, q, z⟩ => ⟨σD, M, _, s, q, fun d M1 v H1 ⟨d', f, q1⟩ ok1 r e1 => z d' _ v H1 q1 (restr_ok ok1) (frz_rep ok1 f r) (restr_from e1)⟩
theorem t_frz (ha : PT X a (liftB G M0 H0 (wpB F W m))) : PT X a (liftB G M0 H0 (wpB F W (.frz m))) :=
  PT.imp ha fun σ H Q ⟨σD, M, Q0, s, q, z⟩ => ⟨σD, M, _, s, q, fun k M1 H1 q1 ok1 e1 => z k _ H1 q1 (restr_ok ok1) (restr_from e1)⟩

/-! ### what is walked -/
theorem i_over (Z : Sta X S G F W M0 H0) (ha : PE X a (lift G M0 H0 (wpE F W m))) : PI X tg a (liftI G M0 H0 (wpI F W (.over m))) := by
  refine PI.imp (pi_all ha) fun σ H R ⟨σD, M, Q0, s, q, z⟩ => ?_
  refine ⟨σD, M, _, s, q, fun x M1 xv H1 q1 ok1 rx e1 => ?_⟩
  rw [Z.K]; (try rw [Z.P, Z.w])
  rcases q1 with ⟨t, e, q1⟩ | ⟨ds, hs, q1⟩
  · subst e
    exact .inl ⟨t, rx, z _ _ _ _ _ q1 ok1 e1 its_ok⟩
  · rcases seq_cases hs with hl | ⟨_, ht⟩
    · obtain ⟨p, vs, e, sq, rl⟩ := rep_lst ok1 rx hl
      subst e
      exact .inr (.inl ⟨p, vs, rfl, sq, z _ _ _ _ _ q1 ok1 e1 (itl_ok rx (lst_no_tup hl))⟩)
    · obtain ⟨p, vs, e, sq, rl⟩ := rep_tup rx ht
      subst e
      exact .inr (.inr (.inl ⟨p, vs, rfl, sq, z _ _ _ _ _ q1 ok1 e1 (itt_ok rx ht)⟩))
theorem i_keys (Z : Sta X S G F W M0 H0) (ha : PE X a (lift G M0 H0 (wpE F W m))) : PI X tg a (liftI G M0 H0 (wpI F W (.keys m))) := by
  refine PI.imp (pi_all ha) fun σ H R ⟨σD, M, Q0, s, q, z⟩ => ?_
  refine ⟨σD, M, _, s, q, fun x M1 xv H1 ⟨p, o, kvs, e, hm, q1⟩ ok1 rx e1 => ?_⟩
  rw [Z.K]; (try rw [Z.P, Z.w])
  subst e
  have e : xv = .ref p := rx
  subst e
  obtain ⟨us, hq, rn⟩ := dF_at ok1 hm
  exact .inr (.inr (.inr ⟨p, o, us, rfl, hq, by rw [← repN_length rn]; exact z _ _ _ _ _ q1 ok1 e1 itkN_ok⟩))
theorem i_items (Z : Sta X S G F W M0 H0) {apos cpos : Pos} (ht : isTupE tg = true) (hn : noCall a = true) (hl : (apos.endLine == cpos.line) = true) (ha : PE X a (lift G M0 H0 (wpE F W m))) :
    PI X tg (.Call (.Attribute a "items" apos) [] [] cpos) (liftI G M0 H0 (wpI F W (.items m))) := by
  cases tg <;> first | exact Bool.noConfusion (show false = true from ht) | skip
  refine PI.imp (pi_itemsN ha (base_of hn) hl) fun σ H R ⟨σD, M, Q0, s, q, z⟩ => ?_
  refine ⟨σD, M, _, s, q, fun x M1 xv H1 ⟨p, o, kvs, e, hm, q1⟩ ok1 rx e1 => ?_⟩
  subst e
  have e : xv = .ref p := rx
  subst e
  obtain ⟨us, hq, rn⟩ := dF_at ok1 hm
  rw [Z.P, Z.w]
  exact ⟨p, o, us, rfl, hq, by rw [← repN_length rn]; exact z _ _ _ _ _ q1 ok1 e1 itiN_ok⟩
theorem i_rng1 (Z : Sta X S G F W M0 H0) {p pos : Pos} (hg : glB S "range" = true) (hk : chkE m S a = true) (ha : PE X a (lift G M0 H0 (wpE F W m))) : PI X tg (.Call (.Name "range" p) [a] [] pos) (liftI G M0 H0 (wpI F W (.rng1 m))) := by
  obtain ⟨g, nd⟩ := Z.gl_of hg
  refine PI.imp (pi_range1 g (Z.bn _ (by decide +kernel)) (pa_cons ha pa_nil (star_cons hk)) (star_cons hk)) fun σ H R ⟨σD, M, Q0, s, q, z⟩ => ?_
  refine ⟨σD, M, _, s, q, fun x M1 xv H1 ⟨j, e, b1, b2, q1⟩ ok1 rx e1 => ?_⟩
  subst e
  have h := z _ _ _ _ _ q1 ok1 e1 (itr_ok (a := 0) (b := j))
  rw [Int.sub_zero] at h
  exact ⟨j, by rw [show xv = .int j from rx], b1, b2, h⟩
theorem i_rng2 (Z : Sta X S G F W M0 H0) {p pos : Pos} (hg : glB S "range" = true) (hk : chkE m S a = true) (hk2 : chkE m2 S b = true) (ha : PE X a (lift G M0 H0 (wpE F W m))) (hb : PE X b (lift G M0 H0 (wpE F W m2))) :
    PI X tg (.Call (.Name "range" p) [a, b] [] pos) (liftI G M0 H0 (wpI F W (.rng2 m m2))) := by
  obtain ⟨g, nd⟩ := Z.gl_of hg
  refine PI.imp (pi_range2 g (Z.bn _ (by decide +kernel)) (pa_cons ha (pa_cons hb pa_nil (star_cons hk2)) (star_cons hk)) (by rw [star_cons hk, star_cons hk2]; rfl) (star_cons hk2)) fun σ H R ⟨σD, M, Q0, s, q, z⟩ => ?_
  refine ⟨σD, M, _, s, q, fun x M1 xv H1 q1 ok1 rx e1 => ⟨σD, M1, _, s.ext e1 ok1, q1, fun y M2 yv H2 ⟨i, j, ex, ey, hb, q2⟩ ok2 ry e2 => ?_⟩⟩
  subst ex ey
  exact ⟨i, j, by rw [show xv = .int i from rx, show yv = .int j from ry], hb, z _ _ _ _ _ q2 ok2 (e1.trans e2) itr_ok⟩
theorem i_enum (Z : Sta X S G F W M0 H0) {p pos : Pos} (ht : isTupE tg = true) (hg : glB S "enumerate" = true) (hk : chkE m S a = true) (ha : PE X a (lift G M0 H0 (wpE F W m))) :
    PI X tg (.Call (.Name "enumerate" p) [a] [] pos) (liftI G M0 H0 (wpI F W (.enum m))) := by
  obtain ⟨g, nd⟩ := Z.gl_of hg
  cases tg <;> first | exact Bool.noConfusion (show false = true from ht) | skip
  refine PI.imp (pi_enumA g (Z.bn _ (by decide +kernel)) (pa_cons ha pa_nil (star_cons hk)) (star_cons hk)) fun σ H R ⟨σD, M, Q0, s, q, z⟩ => ?_
  refine ⟨σD, M, _, s, q, fun x M1 xv H1 ⟨ds, hs, q1⟩ ok1 rx e1 => ?_⟩
  rw [Z.K]; (try rw [Z.P, Z.w])
  rcases seq_cases hs with hl | ⟨_, ht⟩
  · obtain ⟨p, vs, e, sq, rl⟩ := rep_lst ok1 rx hl
    subst e
    exact ⟨p, vs, rfl, .inl ⟨sq, z _ _ _ _ _ q1 ok1 e1 (ite_ok rx (lst_no_tup hl))⟩⟩
  · obtain ⟨p, vs, e, sq, rl⟩ := rep_tup rx ht
    subst e
    exact ⟨p, vs, rfl, .inr ⟨sq, z _ _ _ _ _ q1 ok1 e1 (iteT_ok rx ht)⟩⟩
theorem seq_of_lst {M : Mem} {x : D} {ds : List D} (h : lstOf M x = some ds) : seqOf M x = some ds := by unfold seqOf; rw [h]; rfl
theorem i_zip (Z : Sta X S G F W M0 H0) {p pos : Pos} (ht : isTupE tg = true) (hg : glB S "zip" = true) (hk : chkE m S a = true) (hk2 : chkE m2 S b = true) (ha : PE X a (lift G M0 H0 (wpE F W m))) (hb : PE X b (lift G M0 H0 (wpE F W m2))) :
    PI X tg (.Call (.Name "zip" p) [a, b] [] pos) (liftI G M0 H0 (wpI F W (.zip m m2))) := by
  obtain ⟨g, nd⟩ := Z.gl_of hg
  cases tg <;> first | exact Bool.noConfusion (show false = true from ht) | skip
  refine PI.imp (RZ.pi_zipA g (Z.bn _ (by decide +kernel)) (pa_cons ha (pa_cons hb pa_nil (star_cons hk2)) (star_cons hk)) (star_cons hk) (by rw [star_cons hk2]; rfl)) fun σ H R ⟨σD, M, Q0, s, q, z⟩ => ?_
  refine ⟨σD, M, _, s, q, fun x M1 xv H1 q1 ok1 rx e1 => ⟨σD, M1, _, s.ext e1 ok1, q1, fun y M2 yv H2 ⟨ds, es, hd, q2⟩ ok2 ry e2 => ?_⟩⟩
  rw [Z.K]; (try rw [Z.P, Z.w])
  have rx2 := rx.ext e2
  rcases hd with ⟨h1, h2⟩ | ⟨h1, h2⟩
  · obtain ⟨p, vs, e, sq, rl⟩ := rep_lst ok2 rx2 h1
    obtain ⟨p', vs', e', sq', rl'⟩ := rep_lst ok2 ry h2
    subst e e'
    exact ⟨p, p', vs, vs', rfl, .inl ⟨sq, sq', z _ _ _ _ _ q2 ok2 (e1.trans e2) (itz_ok rx2 ry (lst_no_tup h1) (lst_no_tup h2))⟩⟩
  · obtain ⟨p, vs, e, sq, rl⟩ := rep_tup rx2 h1
    obtain ⟨p', vs', e', sq', rl'⟩ := rep_tup ry h2
    subst e e'
    exact ⟨p, p', vs, vs', rfl, .inr ⟨sq, sq', z _ _ _ _ _ q2 ok2 (e1.trans e2) (itzT_ok rx2 ry h1 h2)⟩⟩

/-! ### targets -/
theorem wipe_none : ∀ (l : List Nat) (i : Nat) (σ : L2.St), i ∈ l → ∀ x, L2.wipe (σ.set i x) l = L2.wipe σ l
  | [], _, _, h, _ => by cases h
  | j :: l, i, σ, h, x => by
    show (L2.wipe (σ.set i x) l).set j none = (L2.wipe σ l).set j none
    by_cases hi : i ∈ l
    · rw [wipe_none l i σ hi x]
    · have e : i = j := by
        rcases List.mem_cons.mp h with e | e
        · exact e
        · exact absurd e hi
      subst e
      have key : ∀ (l : List Nat) (σ : L2.St), (L2.wipe (σ.set i x) l).set i none = (L2.wipe σ l).set i none := by
        intro l
        induction l with
        | nil => intro σ; show (σ.set i x).set i none = σ.set i none; rw [List.set_set]
        | cons k l ih =>
          intro σ
          show ((L2.wipe (σ.set i x) l).set k none).set i none = ((L2.wipe σ l).set k none).set i none
          by_cases hk : k = i
          · subst hk; rw [List.set_set, List.set_set]; exact ih σ
          · rw [List.set_comm _ _ hk, ih, List.set_comm _ _ (Ne.symm hk)]
      exact key l σ
theorem wipe_idem (σ : L2.St) : ∀ l : List Nat, L2.wipe (L2.wipe σ l) l = L2.wipe σ l
  | [] => rfl
  | j :: l => by
    have h1 : L2.wipe ((L2.wipe σ l).set j none) (j :: l) = L2.wipe (L2.wipe σ l) (j :: l) := wipe_none (j :: l) j _ List.mem_cons_self none
    show L2.wipe ((L2.wipe σ l).set j none) (j :: l) = _
    rw [h1]
    show (L2.wipe (L2.wipe σ l) l).set j none = (L2.wipe σ l).set j none
    rw [wipe_idem σ l]
theorem g_v (Z : Sta X S G F W M0 H0) {i : Nat} {x : Str} {pos : Pos} (hi : S.N[i]? = some x) (hw : S.wr x = true) : PG X (.Name x pos) (liftT G M0 H0 [i] (wpT F W (.v i))) := by
  obtain ⟨h1, h2⟩ := Z.wr x hw
  refine PG.imp (pg_name (by rw [Z.N]; exact Z.nd) (by rw [Z.N]; exact hi) h1 h2) fun v σ H Q ⟨d, σD, M, Q0, r, s, q, z⟩ => ?_
  exact z _ _ _ _ q (s.2.1.set r) s.2.2 Ext.refl fun own h => wipe_none own i σ (h i List.mem_cons_self) _
theorem each_len : ∀ (es : E) {xs : List Expr} {S : Sc} {env : PySem.Env}, chkTs es S xs = true → (assignEach xs env).length = xs.length ∧ (assignEach xs env).findIdx? (·.1) = none := by
  intro es
  induction es with
  | nil =>
    intro xs S env h
    cases xs with
    | nil => exact ⟨rfl, rfl⟩
    | cons x r => exact Bool.noConfusion (show false = true from h)
  | cons a es _ ih =>
    intro xs S env h
    cases xs with
    | nil => exact Bool.noConfusion (show false = true from h)
    | cons x r =>
      have h : (chkT a S x && chkTs es S r) = true := h
      rw [Bool.and_eq_true] at h
      obtain ⟨q1, q2⟩ := ih (env := env) h.2
      have e : assignEach (x :: r) env = (false, assign x env) :: assignEach r env := by
        cases x <;> first | rfl | skip
        exfalso
        have h1 := h.1
        cases a <;> exact Bool.noConfusion (show false = true from h1)
      rw [e]
      exact ⟨by rw [List.length_cons, List.length_cons, q1], by rw [List.findIdx?_cons, q2]; rfl⟩
  | _ => intro xs S env h; exact Bool.noConfusion (show false = true from h)
theorem each_cons {x : Expr} {r : List Expr} {env : PySem.Env} (h : chkT m S x = true) : (assignEach (x :: r) env).map (·.2) = assign x env :: (assignEach r env).map (·.2) := by
  cases x <;> first | rfl | skip
  exfalso
  cases m <;> exact Bool.noConfusion (show false = true from h)
theorem chkTs_len : ∀ (es : E) {xs : List Expr} {S : Sc}, chkTs es S xs = true → xs.length = lenE es := by
  intro es
  induction es with
  | nil =>
    intro xs S h
    cases xs with
    | nil => rfl
    | cons x r => exact Bool.noConfusion (show false = true from h)
  | cons a es _ ih =>
    intro xs S h
    cases xs with
    | nil => exact Bool.noConfusion (show false = true from h)
    | cons x r =>
      have h : (chkT a S x && chkTs es S r) = true := h
      rw [Bool.and_eq_true] at h
      show r.length + 1 = lenE es + 1
      rw [ih h.2]
  | _ => intro xs S h; exact Bool.noConfusion (show false = true from h)
theorem g_nil {sl : List Nat} : PGs X [] (liftTs G M0 H0 sl (wpTs F W .nil)) :=
  PGs.imp pgs_nil fun vs σ H Q ⟨ds, σD, M, Q0, r, s, ⟨e, q⟩, z⟩ => by
    subst e
    have e : vs = [] := r
    exact ⟨e, z _ _ _ _ q s.2.1 s.2.2 Ext.refl fun _ _ => rfl⟩
theorem g_cons {x : Expr} {r : List Expr} (hk : chkT m S x = true) (h1 : PG X x (liftT G M0 H0 (slotsT m) (wpT F W m))) (h2 : PGs X r (liftTs G M0 H0 (slotsT m2) (wpTs F W m2))) :
    PGs X (x :: r) (liftTs G M0 H0 (slotsT (.cons m m2)) (wpTs F W (.cons m m2))) := by
  refine PGs.imp (pgs_cons h1 h2 (each_cons hk)) fun vs σ H Q ⟨ds, σD, M, Q0, rl, s, ⟨d, dr, e, q⟩, z⟩ => ?_
  subst e
  obtain ⟨v, vr, ev, rd, rr⟩ := rl
  refine ⟨v, vr, ev, d, σD, M, _, rd, s, q, fun σ' M' σV' H' q1 rs ok1 e1 w1 => ?_⟩
  refine ⟨dr, σ', M', Q0, RepL.ext e1 _ _ rr, ⟨s.1.trans e1, rs, ok1⟩, q1, fun σ2 M2 σV2 H2 q2 rs2 ok2 e2 w2 => ?_⟩
  refine z _ _ _ _ q2 rs2 ok2 (e1.trans e2) fun own h => ?_
  have hs : slotsT (.cons m m2) = slotsT m ++ slotsT m2 := rfl
  rw [hs] at h
  rw [w2 own fun i hi => h i (List.mem_append_right _ hi), w1 own fun i hi => h i (List.mem_append_left _ hi)]
theorem PG.either {e : Expr} {t1 t2 : TG} (h1 : PG X e t1) (h2 : PG X e t2) : PG X e (fun v σ H Q => t1 v σ H Q ∨ t2 v σ H Q) :=
  ⟨fun pins s σ H v u Q I r h => h.elim (h1.run pins s σ H v u Q I r) (h2.run pins s σ H v u Q I r)⟩
theorem g_tup (Z : Sta X S G F W M0 H0) {es : List Expr} {k : Nat} {pos : Pos} (hk : chkTs m S es = true) (h : PGs X es (liftTs G M0 H0 (slotsT m) (wpTs F W m))) : PG X (.Tuple es k pos) (liftT G M0 H0 (slotsT (.tup m)) (wpT F W (.tup m))) := by
  obtain ⟨n1, n2⟩ := each_len m (env := X.env) hk
  refine PG.imp (PG.either (pg_tup Z.calm h n1 n2) (pg_unl Z.calm h n1 n2)) fun v σ H Q ⟨d, σD, M, Q0, r, s, ⟨ds, ht, hl, q⟩, z⟩ => ?_
  have tup : tupOf d = some ds → gTup X.K es.length (liftTs G M0 H0 (slotsT m) (wpTs F W m)) v σ H Q := fun ht => by
    obtain ⟨p, vs, e, sq, rl⟩ := rep_tup r ht
    exact ⟨p, vs, e, by rw [Z.K]; (try rw [Z.P, Z.w]); exact sq, by rw [← rl.length, hl, chkTs_len m hk], ds, σD, M, Q0, rl, s, q, z⟩
  have lst : lstOf M d = some ds → gUnl X.K es.length (liftTs G M0 H0 (slotsT m) (wpTs F W m)) v σ H Q := fun ht => by
    obtain ⟨p, vs, e, sq, rl⟩ := rep_lst s.2.2 r ht
    exact ⟨p, vs, e, by rw [Z.K]; (try rw [Z.P, Z.w]); exact sq, by rw [← rl.length, hl, chkTs_len m hk], ds, σD, M, Q0, rl, s, q, z⟩
  cases d with
  | tup es => exact .inl (tup ht)
  | kt es => exact .inl (tup ht)
  | ft es => exact .inl (tup ht)
  | _ => exact .inr (lst ht)
theorem g_ix (Z : Sta X S G F W M0 H0) {o i : Expr} {pos : Pos} (hk : chkE m2 S i = true) (ho : PE X o (lift G M0 H0 (wpE F W m))) (hi : PE X i (lift G M0 H0 (wpE F W m2))) :
    PG X (.Subscript o i pos) (liftT G M0 H0 (slotsT (.ix m m2)) (wpT F W (.ix m m2))) := by
  have h : ∀ v, assign (.Subscript o i pos) X.env v = (do
      let ov ← holding [v] (eval o X.env)
      let iv ← holding [v, ov] (eval i X.env)
      standAt pos
      holding [v, ov, iv] (setItem ov iv v)
      release [v, ov, iv] []) := fun v => by
    cases i with
    | Slice x y z p => rw [chk_slice] at hk; cases hk
    | _ => rfl
  refine PG.imp (pg_sub ho hi (pset_all (by have := Z.hu; omega)) h) fun v σ H Q ⟨d, σD, M, Q0, r, s, q, z⟩ => ?_
  refine ⟨σD, M, _, s, q, fun x M1 xv H1 q1 ok1 rx e1 => ⟨σD, M1, _, s.ext e1 ok1, q1, fun y M2 yv H2 q2 ok2 ry e2 => ?_⟩⟩
  rw [Z.P, Z.w]
  refine set_ok ok2 (rx.ext e2) ry (r.ext (e1.trans e2)) q2 fun M' H' q3 ok3 e3 => ?_
  have e := (e1.trans e2).trans e3
  exact z _ _ _ _ q3 (s.2.1.ext e) ok3 e fun _ _ => rfl

/-! ### comprehensions -/
theorem mdel_ext {M : Mem} {H : Hp} {L : Addr} : Ext M H (mdel M L) H := fun a h u e => ⟨e, by unfold mdel; split <;> first | rfl | exact h⟩
theorem mdel_ok {M : Mem} {H : Hp} {L : Addr} (ok : OkM G M H) : OkM G (mdel M L) H := fun a o e => by
  have h : M a = some o := by
    unfold mdel at e
    split at e
    · cases e
    · exact e
  obtain ⟨u, q, r⟩ := ok a o h
  exact ⟨u, q, r.ext mdel_ext⟩
theorem of_iteT {A B : Prop} (h : if true = true then A else B) : A := by simpa using h
theorem of_iteF {A B : Prop} (h : if false = true then A else B) : B := by simpa using h
abbrev W0 : WQ := fun _ _ => False
theorem lc_read {mu : Bool} {own : List Nat} {elt tgm it cond : E} {tt : TT} (hs : ∀ j ∈ slotsT tgm, j ∈ own)
    (htt : ∀ σ H Q, liftB G M0 H0 (wpB F W0 cond) σ H Q → tt σ H Q) {σV : L2.St} {H : Hp} {Q : VK} (h : lift G M0 H0 (wpE F W (.lc mu elt tgm it cond own)) σV H Q) :
    tLc (liftI G M0 H0 (wpI F W it)) (liftT G M0 H0 (slotsT tgm) (wpT F W0 tgm)) tt (lift G M0 H0 (wpE F W0 elt)) own σV H Q := by
  obtain ⟨σD, M, Q0, s, q, z⟩ := h
  refine ⟨σD, M, _, s, q, fun ds still M1 J H1 q1 ok1 e1 jok => ?_⟩
  intro L hL
  have hM := ok1.dom hL
  have q2 := q1 L hM
  refine ⟨fun i k H2 => ∃ M2, k = ds.length - i ∧ i ≤ ds.length ∧ OkM G M2 H2 ∧ Ext M1 H1 M2 H2 ∧ compQ L _ still (ds.drop i) M2 _,
    ⟨_, mput M1 L (.lst []), rfl, Nat.zero_le _, ok1.newM hL ⟨[], rfl, RepL.nil⟩, Ext.newM hL, q2⟩, ?_⟩
  rintro i k H2 ⟨M2, rfl, hi, ok2, e2, q3⟩
  by_cases hlt : i < ds.length
  · have hd : ds[i]? = some ds[i] := List.getElem?_eq_getElem hlt
    rw [List.drop_eq_getElem_cons hlt] at q3
    obtain ⟨st, q3⟩ := q3
    obtain ⟨go, yld⟩ := (jok i M2 H2 e2 ok2 st).1 _ hd
    refine .inr ⟨go, _, fun H' nx => nx, fun x H' hy => ?_⟩
    obtain ⟨e3, ok3, rx⟩ := yld x H' hy
    have e13 := e2.trans e3
    refine ⟨_, wipeD σD own, M2, _, rx, ⟨s.1.trans (e1.trans e13), (s.2.1.wipe own).ext (e1.trans e13), ok3⟩, q3, fun σ4 M4 σV4 H4 q4 rs4 ok4 e4 w4 => ⟨?_, ?_⟩⟩
    · rw [w4 own hs, wipe_idem]
    · have s4 : Stt G M0 H0 σ4 M4 σV4 H4 := ⟨(s.1.trans (e1.trans e13)).trans e4, rs4, ok4⟩
      refine htt _ _ _ ⟨σ4, M4, _, s4, q4, fun b M5 H5 q5 ok5 e5 => ?_⟩
      have s5 := s4.ext e5 ok5
      cases b with
      | true =>
        replace q5 := of_iteT q5
        refine iteT ?_
        refine ⟨σ4, M5, _, s5, q5, fun y M6 yv H6 q6 ok6 ry e6 => ?_⟩
        obtain ⟨acc, hacc, hz, q7⟩ := q6
        obtain ⟨u, qu, vs, eu, rl⟩ := ok6 L _ hacc
        subst eu
        have rr : RepO G M6 H6 L (.lst (acc ++ [y])) (.lst (vs ++ [yv])) := ⟨_, rfl, rl.append (RepL.cons ry RepL.nil)⟩
        refine ⟨vs, qu, by rw [← rl.length]; exact hz, ds.length - (i + 1), by omega, _, rfl, hlt, ok6.write hacc rr, ?_, q7⟩
        exact (e13.trans (e4.trans (e5.trans e6))).trans (Ext.write hacc)
      | false =>
        replace q5 := of_iteF q5
        refine iteF ?_
        exact ⟨ds.length - (i + 1), by omega, M5, rfl, hlt, ok5, e13.trans (e4.trans e5), q5⟩
  · have e : i = ds.length := by omega
    subst e
    rw [List.drop_length] at q3
    obtain ⟨st, acc, hacc, q3⟩ := q3
    refine .inl ⟨(jok _ M2 H2 e2 ok2 st).2 rfl, ?_⟩
    obtain ⟨u, qu, vs, eu, rl⟩ := ok2 L _ hacc
    subst eu
    cases mu with
    | true =>
      replace q3 := of_iteT q3
      exact z _ _ _ _ q3 ok2 rfl (e1.trans e2)
    | false =>
      replace q3 := of_iteF q3
      exact z _ _ _ _ q3 (mdel_ok ok2) ⟨L, vs, rfl, by unfold mdel; rw [if_pos rfl], qu, RepL.ext mdel_ext _ _ rl⟩ ((e1.trans e2).trans mdel_ext)
end
section
variable {X : Cx} {S : Sc} {G : Gx} {F : Fx} {W : WQ} {M0 : Mem} {H0 : Hp} {m m2 : E} {a b : Expr}
/-- max(d.values(), default=None), max(x, default=y) -/
theorem fold_max : ∀ (r : List Int) (a b : Int), r.foldl max (max a b) = max a (r.foldl max b)
  | [], _, _ => rfl
  | c :: r, a, b => by
    rw [List.foldl_cons, List.foldl_cons, ← fold_max r a (max b c), Int.max_assoc]
theorem maxL_fold : ∀ (r : List Int) (n : Int), maxL (n :: r) = r.foldl max n
  | [], _ => rfl
  | c :: r, n => by
    show max n (maxL (c :: r)) = _
    rw [maxL_fold r c, List.foldl_cons, fold_max]
theorem rep_mx {M : Mem} {H : Hp} {y : D} {yv : V} (ry : Rep G M H y yv) : ∀ ns : List Int, Rep G M H (if ns = [] then y else .int (maxL ns)) (mxV yv ns)
  | [] => by rw [if_pos rfl]; exact ry
  | n :: r => by
    rw [if_neg (by simp), maxL_fold]
    unfold Rep mxV; rfl
theorem repN_ints {M : Mem} {H : Hp} : ∀ {kvs : List (NK × D)} {us : List NE} {ns : List Int}, RepN G M H kvs us → kvs.map (·.2) = ns.map D.int → us.map (·.2.2) = ns.map V.int
  | [], us, ns, r, e => by
    have h : us = [] := r
    subst h
    cases ns with
    | nil => rfl
    | cons n ns => cases e
  | (k, d) :: kvs, us, ns, r, e => by
    obtain ⟨b, v, r', eu, h1, h2, h3, h4⟩ := r
    subst eu
    cases ns with
    | nil => cases e
    | cons n ns =>
      rw [List.map_cons, List.map_cons] at e
      injection e with e1 e2
      have e1 : d = .int n := e1
      subst e1
      have e3 : v = .int n := h3
      subst e3
      rw [List.map_cons, List.map_cons, repN_ints h4 e2]
theorem s_maxV (Z : Sta X S G F W M0 H0) {mu : Bool} {kc : Nat} {p cp kpos pos apos cpos : Pos} (hg : glB S "max" = true) (hn : noCall a = true) (hl : (apos.endLine == cpos.line) = true) (ha : PE X a (lift G M0 H0 (wpE F W m))) :
    PE X (.Call (.Name "max" p) [.Call (.Attribute a "values" apos) [] [] cpos] [⟨some "default", .Constant .none kc cp, kpos⟩] pos) (lift G M0 H0 (wpE F W (.sp .maxV mu m m2))) := by
  obtain ⟨g, nd⟩ := Z.gl_of hg
  refine PE.imp (pe_maxV Z.calm Z.hu g (Z.bn _ (by decide +kernel)) ha (base_of hn) hl) fun σ H Q ⟨σD, M, Q0, s, q, z⟩ => ?_
  refine ⟨σD, M, _, s, q, fun x M1 xv H1 ⟨p, kvs, e, hm, ns, en, q1⟩ ok1 rx e1 => ?_⟩
  subst e
  have e : xv = .ref p := rx
  subst e
  rw [Z.P, Z.w]
  rcases hm with hm | ⟨o, hm⟩
  · obtain ⟨u, qu, us, eu, rn⟩ := ok1 p _ hm
    subst eu
    exact ⟨p, us, ns, rfl, Rd.of qu, repN_ints rn en, z _ _ _ _ q1 ok1 (rep_mx (by unfold Rep; rfl) ns) e1⟩
  · obtain ⟨u, qu, us, eu, rn⟩ := ok1 p _ hm
    subst eu
    exact ⟨p, us, ns, rfl, .inr ⟨o, qu⟩, repN_ints rn en, z _ _ _ _ q1 ok1 (rep_mx (by unfold Rep; rfl) ns) e1⟩
theorem s_maxD (Z : Sta X S G F W M0 H0) {mu : Bool} {p kpos pos : Pos} (hg : glB S "max" = true) (hk : chkE m S a = true) (ha : PE X a (lift G M0 H0 (wpE F W m))) (hb : PE X b (lift G M0 H0 (wpE F W m2))) :
    PE X (.Call (.Name "max" p) [a] [⟨some "default", b, kpos⟩] pos) (lift G M0 H0 (wpE F W (.sp .maxD mu m m2))) := by
  obtain ⟨g, nd⟩ := Z.gl_of hg
  refine PE.imp (pe_maxD Z.calm Z.hu g (Z.bn _ (by decide +kernel)) ha hb (star_cons hk) (by rw [star_cons hk]; rfl)) fun σ H Q ⟨σD, M, Q0, s, q, z⟩ => ?_
  refine ⟨σD, M, _, s, q, fun x M1 xv H1 q1 ok1 rx e1 => ⟨σD, M1, _, s.ext e1 ok1, q1, fun y M2 yv H2 ⟨ns, hl, q2⟩ ok2 ry e2 => ?_⟩⟩
  obtain ⟨p, vs, e, sq, rl⟩ := rep_lst ok2 (rx.ext e2) hl
  have ev := RepL.inv_int rl
  subst ev
  rw [Z.K]
  exact ⟨p, ns, e, sq, z _ _ _ _ q2 ok2 (rep_mx ry ns) (e1.trans e2)⟩
/-- list(zip(a, b)) -/
theorem put_rep {M : Mem} : ∀ {as : List Addr} {ds es : List D} {xs ys : List V} {H : Hp}, RepL G M H ds xs → RepL G M H es ys → OkM G M H → as.length = (xs.zip ys).length → (∀ c ∈ as, H c = none) → as.Nodup →
    OkM G M (putTs H as (xs.zip ys)) ∧ Ext M H M (putTs H as (xs.zip ys)) ∧ RepL G M (putTs H as (xs.zip ys)) ((ds.zip es).map fun p => .tup [p.1, p.2]) (as.map V.ref)
  | as, [], es, xs, ys, H, r1, r2, ok, hl, hn, nd => by
    unfold RepL at r1; subst r1
    have : as = [] := List.length_eq_zero_iff.mp (by simpa using hl)
    subst this
    unfold putTs
    exact ⟨ok, Ext.refl, RepL.nil⟩
  | as, d :: ds, [], xs, ys, H, r1, r2, ok, hl, hn, nd => by
    unfold RepL at r2; subst r2
    have : as = [] := List.length_eq_zero_iff.mp (by simpa using hl)
    subst this
    unfold putTs
    exact ⟨ok, Ext.refl, RepL.nil⟩
  | [], d :: ds, e :: es, xs, ys, H, r1, r2, ok, hl, hn, nd => by
    unfold RepL at r1 r2
    obtain ⟨v, r, rfl, _⟩ := r1
    obtain ⟨v', r', rfl, _⟩ := r2
    simp at hl
  | a :: as, d :: ds, e :: es, xs, ys, H, r1, r2, ok, hl, hn, nd => by
    unfold RepL at r1 r2
    obtain ⟨v, r, rfl, a1, b1⟩ := r1
    obtain ⟨v', r', rfl, a2, b2⟩ := r2
    have h0 := hn a List.mem_cons_self
    have e1 : Ext M H M (upd H a (.tup [v, v'])) := Ext.new h0
    have ok1 : OkM G M (upd H a (.tup [v, v'])) := ok.new h0
    rw [List.nodup_cons] at nd
    obtain ⟨g1, g2, g3⟩ := put_rep (as := as) (b1.ext e1) (b2.ext e1) ok1 (by simpa using hl) (fun c hc => by rw [upd_ne (fun q => nd.1 (by rw [← q]; exact hc))]; exact hn c (List.mem_cons_of_mem _ hc)) nd.2
    rw [List.zip_cons_cons]
    unfold putTs
    refine ⟨g1, e1.trans g2, ?_⟩
    rw [List.zip_cons_cons, List.map_cons, List.map_cons]
    refine RepL.cons (Rep.ext g2 _ _ ?_) g3
    unfold Rep
    exact ⟨a, [v, v'], rfl, ok.dom h0, upd_same, RepL.cons (a1.ext e1) (RepL.cons (a2.ext e1) RepL.nil)⟩
theorem s_zipL (Z : Sta X S G F W M0 H0) {mu : Bool} {p p2 pos pos2 : Pos} (hg : glB S "list" = true) (hg2 : glB S "zip" = true) (hk : chkE m S a = true) (hk2 : chkE m2 S b = true) (ha : PE X a (lift G M0 H0 (wpE F W m))) (hb : PE X b (lift G M0 H0 (wpE F W m2))) :
    PE X (.Call (.Name "list" p) [.Call (.Name "zip" p2) [a, b] [] pos2] [] pos) (lift G M0 H0 (wpE F W (.sp .zipL mu m m2))) := by
  obtain ⟨g, nd⟩ := Z.gl_of hg
  obtain ⟨g2, nd2⟩ := Z.gl_of hg2
  refine PE.imp (pe_zipL Z.calm g (Z.bn _ (by decide +kernel)) g2 (Z.bn _ (by decide +kernel)) ha hb (star_cons hk) (star_cons hk2) (by rw [star_cons hk2]; rfl)) fun σ H Q ⟨σD, M, Q0, s, q, z⟩ => ?_
  refine ⟨σD, M, _, s, q, fun x M1 xv H1 q1 ok1 rx e1 => ⟨σD, M1, _, s.ext e1 ok1, q1, fun y M2 yv H2 ⟨ds, es, hd, he, q2⟩ ok2 ry e2 => ?_⟩⟩
  obtain ⟨l1, xs, ex, hx, rx'⟩ := rep_tup (rx.ext e2) hd
  obtain ⟨l2, ys, ey, hy, ry'⟩ := rep_tup ry he
  rw [Z.K]
  refine ⟨l1, l2, xs, ys, ex, ey, hx, hy, fun p as hp hl hn hd' => ?_⟩
  obtain ⟨g1, g2, g3⟩ := put_rep rx' ry' ok2 hl (fun c hc => (hn c hc).1) hd'
  exact newL_ok g1 g3 q2 (z.on ((e1.trans e2).trans g2)) (by rw [putTs_none (fun q => (hn p q).2 rfl)]; exact hp)
end
end Ev

/-! Ev, part S: fields, methods, made instances, dicts of the module, text functions. -/
namespace Ev
open PySem PySem.Spec PyProof.Rows L2
section
variable {X : Cx} {CX : CXT} {k : Nat} {C f : Addr} {fd : FuncData} {ps : List Str} {sp : Sp} {E : XK} {o e : Expr} {es : List Expr} {m : Str} {ta : TE} {t : TA} {apos pos : Pos}
/-- o.m(e, ..) by what is known of the text alone -/
theorem pe_methA (he : PE X o ta) (c : Cls X.K C) (hm : Meth X.K C m f) (F : FnOk X.prog X.w X.K X.mg X.base CX k f fd ps sp) (hr : Room k X.A) (hb : Binds X.K fd ps []) (hx : Passes CX X E) (ha : PA X (e :: es) t)
    (hbase : attributeBase o m X.env (eval o X.env) = eval o X.env) (hline : (apos.endLine == pos.line) = true)
    (hform : methodCallForm ((e :: es).length + ([] : List Keyword).length) (backTo pos (starEach (e :: es) X.env)) (backToKw pos (keywordEach [] X.env)) = true)
    (hst : starEach (e :: es) X.env = (false, eval e X.env) :: starEach es X.env) (hpl : (backTo pos (starEach es X.env)).any (·.1) = false) :
    PE X (.Call (.Attribute o m apos) (e :: es) [] pos) (tMeth C m sp [] E ta t) := by
  refine ⟨fun pins s σ H Q I h => ?_⟩
  rw [arm_eval_Call, hbase]
  refine wpAny_bind (thn (he.run pins s σ H _ I h) fun u s1 ⟨x, H1, I1, rx, a, dx, fs, ex, ea, l, q⟩ => ?_)
  subst ex
  obtain rfl : u = Value.ref a := rx
  refine wpAny_bind (wpAny_standAt ?_)
  have hpos : methodCallPos true o X.env apos pos = pure pos := by unfold methodCallPos; simp [hline]
  unfold methodCall
  rw [hform]
  refine wpAny_bind (wpAny_holding (getmeth_ok I1 ea c hm l ?_))
  refine wpAny_bind (wpAny_of_eq hpos ?_)
  refine PySem.W.callWith_K (first := [.ref a]) (h₀ := X.base) I1.ok.mod.kin hm.kp (thn (ha.run pos pins s1 σ H1 _ I1 q) fun us s2 ⟨vs, H2, I2, r, q2⟩ => ⟨I2.kIn, ?_⟩) hst hpl
  exact run_fn (us := .ref a :: us) (vs := .ref a :: vs) F hr hb .nil hx I2 (.cons rfl r) q2
theorem pe_methA0 (he : PE X o ta) (c : Cls X.K C) (hm : Meth X.K C m f) (F : FnOk X.prog X.w X.K X.mg X.base CX k f fd ps sp) (hr : Room k X.A) (hb : Binds X.K fd ps []) (hx : Passes CX X E)
    (hbase : attributeBase o m X.env (eval o X.env) = eval o X.env) (hline : (apos.endLine == pos.line) = true) :
    PE X (.Call (.Attribute o m apos) [] [] pos) (tMeth C m sp [] E ta tNil) := by
  refine ⟨fun pins s σ H Q I h => ?_⟩
  rw [arm_eval_Call, hbase]
  refine wpAny_bind (thn (he.run pins s σ H _ I h) fun u s1 ⟨x, H1, I1, rx, a, dx, fs, ex, ea, l, q⟩ => ?_)
  subst ex
  obtain rfl : u = Value.ref a := rx
  refine wpAny_bind (wpAny_standAt ?_)
  have hform : methodCallForm (([] : List Expr).length + ([] : List Keyword).length) (backTo pos (starEach [] X.env)) (backToKw pos (keywordEach [] X.env)) = true := rfl
  have hpos : methodCallPos true o X.env apos pos = pure pos := by unfold methodCallPos; simp [hline]
  unfold methodCall
  rw [hform]
  refine wpAny_bind (wpAny_holding (getmeth_ok I1 ea c hm l ?_))
  refine wpAny_bind (wpAny_of_eq hpos ?_)
  exact PySem.W.callWith_K0 (first := [.ref a]) I1.kIn hm.kp (run_fn (us := [.ref a]) (vs := [.ref a]) F hr hb .nil hx I1 (.cons rfl .nil) q)
end
section
variable {X : Cx} {S : Sc} {G : Gx} {F : Fx} {W : WQ} {M0 : Mem} {H0 : Hp} {m m2 m3 : E} {a b : Expr}
theorem repK_lookup {M : Mem} {H : Hp} : ∀ {fs : List (Str × D)} {vs : List (Str × V)} {f : Str} {d : D}, RepK G M H fs vs → fs.lookup f = some d → ∃ v, vs.lookup f = some v ∧ Rep G M H d v
  | [], _, _, _, _, e => by cases e
  | (k, x) :: fs, _, f, d, ⟨v, r, e, a, b⟩, h => by
    subst e
    rw [List.lookup_cons] at h ⊢
    cases q : (f == k) with
    | true =>
      rw [q] at h
      cases h
      exact ⟨v, rfl, a⟩
    | false =>
      rw [q] at h
      exact repK_lookup b h
theorem repK_lookup_none {M : Mem} {H : Hp} : ∀ {fs : List (Str × D)} {vs : List (Str × V)} {f : Str}, RepK G M H fs vs → fs.lookup f = none → vs.lookup f = none
  | [], _, _, r, _ => by have e := r; subst e; rfl
  | (k, x) :: fs, _, f, ⟨v, r, e, a, b⟩, h => by
    subst e
    rw [List.lookup_cons] at h ⊢
    cases q : (f == k) with
    | true => rw [q] at h; cases h
    | false =>
      rw [q] at h
      exact repK_lookup_none b h
theorem repK_put {M : Mem} {H : Hp} {f : Str} {d : D} {v : V} (rd : Rep G M H d v) : ∀ {fs : List (Str × D)} {vs : List (Str × V)}, RepK G M H fs vs → RepK G M H (putD f d fs) (putF f v vs)
  | [], _, r => by have e := r; subst e; exact ⟨v, [], rfl, rd, rfl⟩
  | (k, x) :: fs, _, ⟨w, r, e, a, b⟩ => by
    subst e
    unfold putD putF
    by_cases q : k = f
    · rw [if_pos q, if_pos q]
      exact ⟨v, r, rfl, rd, b⟩
    · rw [if_neg q, if_neg q]
      exact ⟨w, _, rfl, a, repK_put rd b⟩
theorem s_fld (Z : Sta X S G F W M0 H0) {c f : Str} {pos : Pos} (hf : (c, f) ∈ S.cx.fl) (hn : noCall a = true) (ha : PE X a (lift G M0 H0 (wpE F W m))) : PE X (.Attribute a f pos) (lift G M0 H0 (wpE F W (.fld c m f))) := by
  obtain ⟨C, hC, hc, hno⟩ := Z.fl _ hf
  refine PE.imp (pe_fld ha (base_of hn)) fun σ H Q ⟨σD, M, Q0, s, q, z⟩ => ?_
  refine ⟨σD, M, _, s, q, fun x M1 xv H1 ⟨p, fs, d, e, hm, hl, q1⟩ ok1 rx e1 => ?_⟩
  subst e
  have e : xv = .ref p := rx
  subst e
  obtain ⟨u, qu, C', dx, vs, eu, hC', rk⟩ := ok1 p _ hm
  subst eu
  rw [hC] at hC'
  cases hC'
  obtain ⟨v, lv, rv⟩ := repK_lookup rk hl
  rw [Z.K]
  exact ⟨p, C, dx, vs, v, rfl, qu, hc, hno, lv, z _ _ _ _ q1 ok1 rv e1⟩
theorem s_mcall (Z : Sta X S G F W M0 H0) {c n k : Str} {args : List Expr} {apos pos : Pos} (hk : (c, n, k) ∈ S.cx.ms) (hn : noCall a = true) (hl : (apos.endLine == pos.line) = true) (hf : args.length < 30) (hka : chkA m2 S args = true)
    (ho : PE X a (lift G M0 H0 (wpE F W m))) (ha : PA X args (liftA G M0 H0 (wpA F W m2))) : PE X (.Call (.Attribute a n apos) args [] pos) (lift G M0 H0 (wpE F W (.mcall c n k m m2))) := by
  obtain ⟨C, fa, hC, hc, hm, kk, fd, ps, sp, FO, hr, hb, hsp⟩ := Z.ms _ hk
  rw [Nat.add_zero] at hr
  have fin : ∀ σ H Q, lift G M0 H0 (wpE F W (.mcall c n k m m2)) σ H Q → tMeth C n sp [] (wishE G W M0 H0) (lift G M0 H0 (wpE F W m)) (liftA G M0 H0 (wpA F W m2)) σ H Q := by
    intro σ H Q ⟨σD, M, Q0, s, q, z⟩
    refine ⟨σD, M, _, s, q, fun x M1 xv H1 ⟨p, fs, e, hmm, hl, q1⟩ ok1 rx e1 => ?_⟩
    subst e
    have e : xv = .ref p := rx
    subst e
    obtain ⟨u, qu, C', dx, vs, eu, hC', rk⟩ := ok1 p _ hmm
    subst eu
    rw [hC] at hC'
    cases hC'
    refine ⟨p, dx, vs, rfl, qu, repK_lookup_none rk hl, σD, M1, _, s.ext e1 ok1, q1, fun ds M2 vs2 H2 q2 ok2 rl e2 => ?_⟩
    show sp (.ref p :: (vs2 ++ [])) H2 Q _
    rw [List.append_nil]
    exact hsp (.mr p :: ds) M2 W (.ref p :: vs2) H2 Q0 Q _ q2 ok2 (RepL.cons rfl rl) (z.on (e1.trans e2)) fun c M' H' hw ok' e' C hC => ⟨c, C, M', hw, hC, rfl, rfl, ok', (s.1.trans (e1.trans e2)).trans e'⟩
  cases args with
  | nil =>
    refine PE.imp (pe_methA0 ho hc hm FO hr hb Z.pass (base_of hn) hl) fun σ H Q h => ?_
    obtain ⟨σD, M, Q0, s, q, z⟩ := fin σ H Q h
    refine ⟨σD, M, Q0, s, q, fun x M1 xv H1 q1 ok1 rx e1 => ?_⟩
    obtain ⟨p, dx, fs, e, hp, l, h⟩ := z x M1 xv H1 q1 ok1 rx e1
    refine ⟨p, dx, fs, e, hp, l, ?_⟩
    obtain ⟨σ2, M2, Q2, s2, q2, z2⟩ := h
    cases m2 <;> first | exact Bool.noConfusion (show false = true from hka) | skip
    exact z2 _ _ _ _ q2 s2.2.2 RepL.nil Ext.refl
  | cons x xs =>
    obtain ⟨m1, m2', e, k1, k2⟩ := args_of hka
    refine PE.imp (pe_methA ho hc hm FO hr hb Z.pass ha (base_of hn) hl ?_ (star_cons k1) (star_false m2' k2)) fin
    show ((backTo pos (starEach (x :: xs) X.env)).all (fun x => !x.1) && (backToKw pos (keywordEach [] X.env)).all (fun x => x.1.isSome) && _) = true
    rw [star_plain m2 hka, show backToKw pos (keywordEach [] X.env) = [] from rfl]
    simpa using hf
theorem s_make (Z : Sta X S G F W M0 H0) {c k : Str} {args : List Expr} {p pos : Pos} (hg : glB S c = true) (hk : (c, k) ∈ S.cx.nw) (hka : chkA m S args = true) (ha : PA X args (liftA G M0 H0 (wpA F W m))) :
    PE X (.Call (.Name c p) args [] pos) (lift G M0 H0 (wpE F W (.make c k m))) := by
  obtain ⟨C, fa, hC, hmg, hM, kk, fd, ps, sp, FO, hr, hb, hsp⟩ := Z.nw _ hk
  obtain ⟨g, nd⟩ := Z.gl_of hg
  have fin : ∀ σ H Q, lift G M0 H0 (wpE F W (.make c k m)) σ H Q → tMake C sp [] (wishE G W M0 H0) (liftA G M0 H0 (wpA F W m)) σ H Q := by
    intro σ H Q ⟨σD, M, Q0, s, q, z⟩
    refine ⟨σD, M, _, s, q, fun ds M1 vs H1 q1 ok1 rl e1 x dx hx hdx hne => ?_⟩
    show sp (.ref x :: (vs ++ [])) _ _ _
    rw [List.append_nil]
    have ex : Ext M1 H1 M1 (upd H1 dx (.own x)) := Ext.new hdx
    have ok2 : OkM G M1 (upd H1 dx (.own x)) := ok1.new hdx
    have hx2 : (upd H1 dx (.own x)) x = none := by rw [upd_ne hne.symm]; exact hx
    have ok3 : OkM G (mput M1 x (.ins c [])) (upd (upd H1 dx (.own x)) x (.ins C dx [])) := ok2.newM hx2 ⟨C, dx, [], rfl, hC, rfl⟩
    have e3 : Ext M1 H1 (mput M1 x (.ins c [])) (upd (upd H1 dx (.own x)) x (.ins C dx [])) := ex.trans (Ext.newM hx2)
    refine hsp (.mr x :: ds) _ W (.ref x :: vs) _ _ _ _ (q1 x (ok1.dom hx)) ok3 (RepL.cons rfl (RepL.ext e3 _ _ rl)) (fun d M' v H' ⟨ed, q2⟩ ok' r' e' => ?_) fun c M' H' hw ok' e' C hC => ⟨c, C, M', hw, hC, rfl, rfl, ok', (s.1.trans (e1.trans e3)).trans e'⟩
    subst ed
    exact ⟨r', z _ _ _ _ q2 ok' rfl ((e1.trans e3).trans e')⟩
  cases args with
  | nil =>
    refine PE.imp (pe_make0 hM FO hr g hmg hb .nil Z.pass nd) fun σ H Q h => ?_
    obtain ⟨σD, M, Q0, s, q, z⟩ := fin σ H Q h
    cases m <;> first | exact Bool.noConfusion (show false = true from hka) | skip
    exact z _ _ _ _ q s.2.2 RepL.nil Ext.refl
  | cons x xs =>
    obtain ⟨m1, m2', e, k1, k2⟩ := args_of hka
    exact PE.imp (pe_make hM FO hr g hmg hb .nil Z.pass ha nd (star_cons k1) (star_false m2' k2)) fin
theorem s_kix (Z : Sta X S G F W M0 H0) {x : Str} {tab : List (Str × Int)} {p pos : Pos} (hg : glB S x = true) (hk : (x, tab) ∈ S.cx.kd) (hb : PE X b (lift G M0 H0 (wpE F W m))) (hkb : chkE m S b = true) :
    PE X (.Subscript (.Name x p) b pos) (lift G M0 H0 (wpE F W (.kix x tab m))) := by
  obtain ⟨a, hm, hd⟩ := Z.kd _ hk
  obtain ⟨g, nd⟩ := Z.gl_of hg
  have hp : PlainIx b := fun o i => by
    cases b with
    | Slice x y z p => rw [chk_slice] at hkb; cases hkb
    | _ => rfl
  refine PE.imp (pe_ix ix_kdict (pe_glob (v := .ref a) g hm rfl nd) hb hp) fun σ H Q ⟨σD, M, Q0, s, q, z⟩ => ?_
  refine ⟨σD, M, _, s, q, fun y M1 yv H1 ⟨t, n, e, hl, q1⟩ ok1 ry e1 => ?_⟩
  subst e
  rw [Z.K, Z.w]
  exact ⟨a, t, .int n, rfl, ry, hd t n hl, z _ _ _ _ q1 ok1 rfl e1⟩
theorem rep_ints {M : Mem} {H : Hp} : ∀ {ns : List Int} {vs : List V}, RepL G M H (ns.map D.int) vs → vs = ns.map V.int
  | [], _, r => r
  | n :: ns, _, r => by
    obtain ⟨v, w, e, a, b⟩ := r
    subst e
    have a : v = .int n := a
    rw [a, rep_ints b]
    rfl
theorem rep_strs {M : Mem} {H : Hp} : ∀ {ns : List Str} {vs : List V}, RepL G M H (ns.map D.str) vs → vs = ns.map V.str
  | [], _, r => r
  | n :: ns, _, r => by
    obtain ⟨v, w, e, a, b⟩ := r
    subst e
    have a : v = .str n := a
    rw [a, rep_strs b]
    rfl
theorem strs_rep {M : Mem} {H : Hp} : ∀ ns : List Str, RepL G M H (ns.map D.str) (ns.map V.str)
  | [] => RepL.nil
  | n :: ns => RepL.cons rfl (strs_rep ns)
theorem s_join (Z : Sta X S G F W M0 H0) {mu : Bool} {apos pos : Pos} (hn : noCall a = true) (hl : (apos.endLine == pos.line) = true) (hk : chkE m2 S b = true) (ha : PE X a (lift G M0 H0 (wpE F W m))) (hb : PE X b (lift G M0 H0 (wpE F W m2))) :
    PE X (.Call (.Attribute a "join" apos) [b] [] pos) (lift G M0 H0 (wpE F W (.sp .join mu m m2))) := by
  refine PE.imp (pe_join ha hb (star_cons hk) (base_of hn) hl) fun σ H Q ⟨σD, M, Q0, s, q, z⟩ => ?_
  refine ⟨σD, M, _, s, q, fun x M1 xv H1 ⟨t, e, q1⟩ ok1 rx e1 => ?_⟩
  subst e
  have e : xv = .str t := rx
  subst e
  refine ⟨⟨t, rfl⟩, σD, M1, _, s.ext e1 ok1, q1, fun y M2 yv H2 ⟨ys, hl, hz, q2⟩ ok2 ry e2 => ?_⟩
  obtain ⟨p, vs, e, sq, rl⟩ := rep_lst ok2 ry hl
  subst e
  rw [rep_strs rl] at sq
  rw [Z.K]
  exact ⟨t, p, ys, rfl, rfl, .inl sq, hz, z _ _ _ _ q2 ok2 rfl (e1.trans e2)⟩
theorem s_split (Z : Sta X S G F W M0 H0) {mu : Bool} {apos pos : Pos} (hn : noCall a = true) (hl : (apos.endLine == pos.line) = true) (hk : chkE m2 S b = true) (ha : PE X a (lift G M0 H0 (wpE F W m))) (hb : PE X b (lift G M0 H0 (wpE F W m2))) :
    PE X (.Call (.Attribute a "split" apos) [b] [] pos) (lift G M0 H0 (wpE F W (.sp .split mu m m2))) := by
  refine PE.imp (pe_split ha hb (star_cons hk) (base_of hn) hl) fun σ H Q ⟨σD, M, Q0, s, q, z⟩ => ?_
  refine ⟨σD, M, _, s, q, fun x M1 xv H1 ⟨t, e, q1⟩ ok1 rx e1 => ?_⟩
  subst e
  have e : xv = .str t := rx
  subst e
  refine ⟨⟨t, rfl⟩, σD, M1, _, s.ext e1 ok1, q1, fun y M2 yv H2 ⟨u, e, hu, hz, q2⟩ ok2 ry e2 => ?_⟩
  subst e
  have e : yv = .str u := ry
  subst e
  exact ⟨t, u, rfl, rfl, hu, hz, fun p hp => newL_ok ok2 (strs_rep _) q2 (z.on (e1.trans e2)) hp⟩
theorem s_cntS (Z : Sta X S G F W M0 H0) {mu : Bool} {apos pos : Pos} (hn : noCall a = true) (hl : (apos.endLine == pos.line) = true) (hk : chkE m2 S b = true) (ha : PE X a (lift G M0 H0 (wpE F W m))) (hb : PE X b (lift G M0 H0 (wpE F W m2))) :
    PE X (.Call (.Attribute a "count" apos) [b] [] pos) (lift G M0 H0 (wpE F W (.sp .cntS mu m m2))) := by
  refine PE.imp (pe_bm PySem.F.plainAttrs_list PySem.F.slot_list_count PySem.F.type_list_count mt_lcountS ha (pa_cons hb pa_nil (star_cons hk)) (base_of hn) (by rw [star_cons hk]; rfl) hl (star_cons hk) rfl) fun σ H Q ⟨σD, M, Q0, s, q, z⟩ => ?_
  refine ⟨σD, M, _, s, q, fun x M1 xv H1 ⟨⟨us, hu⟩, q1⟩ ok1 rx e1 => ?_⟩
  obtain ⟨p, vs, e, sq, rl⟩ := rep_lst ok1 rx hu
  subst e
  refine ⟨.inl ⟨rfl, vs, by rw [Z.K]; exact sq⟩, σD, M1, _, s.ext e1 ok1, q1, fun y M2 yv H2 ⟨ns, t, hl, e, q2⟩ ok2 ry e2 => ?_⟩
  subst e
  obtain ⟨p2, vs2, ep, sq2, rl2⟩ := rep_lst ok2 (rx.ext e2) hl
  rw [rep_strs rl2] at sq2
  rw [Z.K]
  exact ⟨p2, ns, t, ep, by rw [show yv = .str t from ry], sq2, z _ _ _ _ q2 ok2 rfl (e1.trans e2)⟩
theorem s_mulS (Z : Sta X S G F W M0 H0) {mu : Bool} {pos : Pos} (ha : PE X a (lift G M0 H0 (wpE F W m))) (hb : PE X b (lift G M0 H0 (wpE F W m2))) : PE X (.BinOp a .Mult b pos) (lift G M0 H0 (wpE F W (.sp .mulS mu m m2))) := by
  refine PE.imp (pe_op op_muls ha hb) fun σ H Q ⟨σD, M, Q0, s, q, z⟩ => ?_
  refine ⟨σD, M, _, s, q, fun x M1 xv H1 q1 ok1 rx e1 => ?_⟩
  refine ⟨σD, M1, _, s.ext e1 ok1, q1, fun y M2 yv H2 ⟨t, n, ex, ey, hm, q2⟩ ok2 ry e2 => ?_⟩
  subst ex ey
  exact ⟨t, n, rx, ry, hm, z _ _ _ _ q2 ok2 rfl (e1.trans e2)⟩
/-! ### tuples whose object is known -/
theorem s_tIx (Z : Sta X S G F W M0 H0) {mu : Bool} {apos pos : Pos} (hn : noCall a = true) (hl : (apos.endLine == pos.line) = true) (hk : chkE m2 S b = true) (ha : PE X a (lift G M0 H0 (wpE F W m))) (hb : PE X b (lift G M0 H0 (wpE F W m2))) :
    PE X (.Call (.Attribute a "index" apos) [b] [] pos) (lift G M0 H0 (wpE F W (.sp .tIx mu m m2))) := by
  refine PE.imp (pe_bw PySem.F.plainAttrs_tuple PySem.F.slot_tuple_index PySem.F.type_tuple_index mt_tup_indexI ha (pa_cons hb pa_nil (star_cons hk)) (base_of hn) (by rw [star_cons hk]; rfl) hl (star_cons hk) rfl) fun σ H Q ⟨σD, M, Q0, s, q, z⟩ => ?_
  refine ⟨σD, M, _, s, q, fun x M1 xv H1 ⟨ns, ex, q1⟩ ok1 rx e1 => ?_⟩
  subst ex
  obtain ⟨p, vs, e, hm, ⟨o, ho, hc, hd⟩, rl⟩ := id rx
  subst e
  refine ⟨.inr (.inr ⟨rfl, p, o, vs, rfl, ho, hc, hd⟩), σD, M1, _, s.ext e1 ok1, q1, fun y M2 yv H2 ⟨i, j, e, hj, hno, q2⟩ ok2 ry e2 => ?_⟩
  subst e
  obtain ⟨p2, vs2, ep, hm2, ⟨o2, ho2, _⟩, rl2⟩ := rx.ext e2
  cases ep
  rw [rep_ints rl2] at ho2
  rw [Z.K]
  exact ⟨p, ns, i, j, rfl, by rw [show yv = .int i from ry], .inl (.inr ⟨o2, ho2⟩), hj, hno, z _ _ _ _ q2 ok2 rfl (e1.trans e2)⟩
theorem s_kOne (Z : Sta X S G F W M0 H0) {mu : Bool} {k : Nat} {pos : Pos} (hk : chkE m S a = true) (ha : PE X a (lift G M0 H0 (wpE F W m))) : PE X (.Tuple [a] k pos) (lift G M0 H0 (wpE F W (.sp .kOne mu m m2))) := by
  refine PE.imp (pe_tupF (pa_cons ha pa_nil (star_cons hk))) fun σ H Q ⟨σD, M, Q0, s, q, z⟩ => ?_
  exact ⟨σD, M, _, s, q, fun x M1 xv H1 q1 ok1 rx e1 => ⟨(by show 1 ≤ sizeLine; decide), fun p o hp ho => newF_ok ok1 (RepL.cons rx RepL.nil) q1 (z.on e1) hp ho.1 ho.2⟩⟩
theorem s_kAdd (Z : Sta X S G F W M0 H0) {mu : Bool} {pos : Pos} (ha : PE X a (lift G M0 H0 (wpE F W m))) (hb : PE X b (lift G M0 H0 (wpE F W m2))) : PE X (.BinOp a .Add b pos) (lift G M0 H0 (wpE F W (.sp .kAdd mu m m2))) := by
  refine PE.imp (pe_op op_catF ha hb) fun σ H Q ⟨σD, M, Q0, s, q, z⟩ => ?_
  refine ⟨σD, M, _, s, q, fun x M1 xv H1 q1 ok1 rx e1 => ?_⟩
  refine ⟨σD, M1, _, s.ext e1 ok1, q1, fun y M2 yv H2 ⟨ds, es, hx, hy, hne, hl, hf, q2⟩ ok2 ry e2 => ?_⟩
  have rx2 := rx.ext e2
  obtain ⟨p1, v1, ep1, s1, r1⟩ := rep_tup rx2 hx
  obtain ⟨p2, v2, ep2, s2, r2⟩ := rep_tup ry hy
  rw [Z.K]
  refine ⟨p1, p2, v1, v2, ep1, ep2, s1, s2, fun e => hne ?_, by rw [← r1.length, ← r2.length]; exact hl, fun e => ?_, fun e p o hp ho => newF_ok ok2 (r1.append r2) q2 (z.on (e1.trans e2)) hp ho.1 ho.2⟩
  · subst e
    exact List.eq_nil_of_length_eq_zero (by rw [r1.length]; rfl)
  · subst e
    have he : es = [] := List.eq_nil_of_length_eq_zero (by rw [r2.length]; rfl)
    have hxf := hf he
    subst hxf he
    rw [List.append_nil] at q2
    rw [ep1] at rx2
    exact z _ _ _ _ q2 ok2 rx2 (e1.trans e2)
theorem s_kTupL (Z : Sta X S G F W M0 H0) {mu : Bool} {p pos : Pos} (hg : glB S "tuple" = true) (hk : chkE m S a = true) (ha : PE X a (lift G M0 H0 (wpE F W m))) : PE X (.Call (.Name "tuple" p) [a] [] pos) (lift G M0 H0 (wpE F W (.sp .kTupL mu m m2))) := by
  obtain ⟨g, nd⟩ := Z.gl_of hg
  refine PE.imp (pe_tupleF g (Z.bn _ (by decide +kernel)) ha (star_cons hk)) fun σ H Q ⟨σD, M, Q0, s, q, z⟩ => ?_
  refine ⟨σD, M, _, s, q, fun x M1 xv H1 ⟨ds, hx, q1⟩ ok1 rx e1 => ?_⟩
  obtain ⟨l, vs, e, sq, rl⟩ := rep_lst ok1 rx hx
  subst e
  rw [Z.K]
  exact ⟨l, vs, rfl, sq, fun p o hp ho => newF_ok ok1 rl q1 (z.on e1) hp ho.1 ho.2⟩
/-! ### {'a': x, ..} -/
def trsOf (G : Gx) (M0 : Mem) (H0 : Hp) (F : Fx) (W : WQ) : List Str → Ev.E → List (TE × TE)
  | k :: ks, .cons a es => (tC (.str k), lift G M0 H0 (wpE F W a)) :: trsOf G M0 H0 F W ks es
  | _, _ => []
theorem pairs_ok : ∀ (es : Ev.E) {ks : List Str} {vs : List Expr} {σV : L2.St} {H : Hp} {M : Mem} {σ : Env} {Qd : List D → Mem → Prop} {R : List (V × V) → Hp → Prop}, chkA es S vs = true → ks.length = vs.length → Stt G M0 H0 σ M σV H → wpA F W es σ M Qd →
    (∀ ds M' us H', Qd ds M' → OkM G M' H' → RepL G M' H' ds us → Ext M H M' H' → R ((ks.map V.str).zip us) H') → tPairs (trsOf G M0 H0 F W ks es) σV H R := by
  intro es
  induction es with
  | nil =>
    intro ks vs σV H M σ Qd R hk hl s w h
    have e : vs = [] := by cases vs with | nil => rfl | cons x xs => exact Bool.noConfusion (show false = true from hk)
    subst e
    have e : ks = [] := List.eq_nil_of_length_eq_zero hl
    subst e
    exact h [] M [] H w s.2.2 RepL.nil Ext.refl
  | cons a es _ ih =>
    intro ks vs σV H M σ Qd R hk hl s w h
    cases vs with
    | nil => exact Bool.noConfusion (show false = true from hk)
    | cons x xs =>
      cases ks with
      | nil => cases hl
      | cons k ks =>
        have hk : (chkE a S x && chkA es S xs) = true := hk
        rw [Bool.and_eq_true] at hk
        refine ⟨σ, M, _, s, w, fun d M1 dv H1 w1 ok1 rd e1 => ?_⟩
        exact ih hk.2 (by simpa using hl) (s.ext e1 ok1) w1 fun ds M' us H' hq ok r e => h (d :: ds) M' (dv :: us) H' hq ok (RepL.cons (rd.ext e) r) (e1.trans e)
  | _ => intro ks vs σV H M σ Qd R hk hl s w h; exact Bool.noConfusion (show false = true from hk)
theorem putK_new {acc : List (Key × V)} {k : Key} {v : V} (h : k ∉ acc.map (·.1)) : putK acc k v = acc ++ [(k, v)] := by
  unfold putK
  rw [if_neg]
  intro e
  obtain ⟨p, hp, e⟩ := List.any_eq_true.mp e
  exact h (List.mem_map.mpr ⟨p, hp, of_decide_eq_true e⟩)
theorem mergeK_nodup : ∀ {more acc : List (Key × V)}, ((acc ++ more).map (·.1)).Nodup → mergeK acc more = acc ++ more
  | [], acc, _ => by rw [List.append_nil]; rfl
  | p :: more, acc, h => by
    show mergeK (putK acc p.1 p.2) more = _
    have hn : p.1 ∉ acc.map (·.1) := by
      intro hm
      rw [List.map_append, List.map_cons] at h
      exact (List.nodup_append.mp h).2.2 _ hm _ List.mem_cons_self rfl
    rw [putK_new hn, mergeK_nodup (by rw [List.append_assoc]; exact h), List.append_assoc]
    rfl
theorem repK_zip {M : Mem} {H : Hp} : ∀ {ks : List Str} {ds : List D} {vs : List V}, RepL G M H ds vs → RepK G M H ((ks.map (Sum.inr (α := Int))).zip ds) ((ks.map (Sum.inr (α := Int))).zip vs)
  | [], _, _, _ => rfl
  | k :: ks, [], _, r => by have e := r; subst e; rfl
  | k :: ks, d :: ds, _, ⟨v, r, e, a, b⟩ => by
    subst e
    exact ⟨v, _, rfl, a, repK_zip b⟩
theorem s_disp (Z : Sta X S G F W M0 H0) {es : Ev.E} {ks : List Str} {k0 : Option Expr} {kr : List (Option Expr)} {vs : List Expr} {pos : Pos} (hkt : keysT ks (k0 :: kr) = true) (hk : chkA es S vs = true) (hnd : ks.Nodup) (hl : ks.length = vs.length) (h15 : ks.length ≤ 15)
    (hp : PPs X pos (k0 :: kr) vs (trsOf G M0 H0 F W ks es)) : PE X (.Dict (k0 :: kr) vs pos) (lift G M0 H0 (wpE F W (.disp ks es))) := by
  have hall : ∀ {ks : List Str} {keys : List (Option Expr)}, keysT ks keys = true → keys.all (·.isSome) = true ∧ keys.length = ks.length := by
    intro ks
    induction ks with
    | nil =>
      intro keys h
      cases keys with
      | nil => exact ⟨rfl, rfl⟩
      | cons x xs => exact Bool.noConfusion (show false = true from h)
    | cons k ks ih =>
      intro keys h
      unfold keysT at h
      split at h
      · rename_i e; cases e
      · rename_i e1; cases e1
        rw [Bool.and_eq_true] at h
        obtain ⟨a, b⟩ := ih h.2
        exact ⟨by rw [List.all_cons, a]; rfl, by simp [b]⟩
      · cases h
  obtain ⟨a1, a2⟩ := hall hkt
  refine PE.imp (pe_disp hp a1 (by rw [a2, hl]) (by simp) (by rw [a2]; exact h15)) fun σ H Q ⟨σD, M, Q0, s, q, z⟩ p hp => ?_
  have ok0 : OkM G (mput M p (.dK [])) (upd H p (.dK [])) := s.2.2.newM hp ⟨[], rfl, rfl⟩
  have e0 : Ext M H (mput M p (.dK [])) (upd H p (.dK [])) := Ext.newM hp
  refine pairs_ok es hk hl (s.ext e0 ok0) (q p (s.2.2.dom hp)) fun ds M' us H' ⟨hm, hlen, q1⟩ ok' rl e' => ?_
  obtain ⟨u, qu, ws, eu, rk⟩ := ok' p _ hm
  subst eu
  have e : ws = [] := rk
  subst e
  refine ⟨qu, (ks.map (Sum.inr (α := Int))).zip us, ?_, ?_, ?_⟩
  · rw [List.map_zip_eq_zipWith, List.zipWith_map_left, List.zip_map_left, List.map_zip_eq_zipWith]
    rfl
  · rw [List.length_zip, List.length_map]; omega
  · have hmk : mergeK [] ((ks.map (Sum.inr (α := Int))).zip us) = (ks.map (Sum.inr (α := Int))).zip us := by
      refine mergeK_nodup ?_
      rw [List.nil_append, List.map_fst_zip (by rw [List.length_map, ← rl.length, hlen]; exact Nat.le_refl _)]
      exact List.Pairwise.map (R := (· ≠ ·)) (S := (· ≠ ·)) _ (fun _ _ h e => h (Sum.inr.inj e)) hnd
    rw [hmk]
    exact z _ _ _ _ q1 (ok'.write hm ⟨_, rfl, repK_zip rl⟩) rfl ((e0.trans e').trans (Ext.write hm))
end
end Ev

/-! Ev, part L: every expression. -/
namespace Ev
open PySem PySem.Spec PyProof.Rows L2
section
variable {G : Gx} {F : Fx} {M0 : Mem} {H0 : Hp}
theorem Sta.blk {X : Cx} {S : Sc} {W : WQ} (Z : Sta X S G F W M0 H0) {s : Shared} {H : Hp} {scope : Scope} {cl : List (Str × Addr)} {C : Addr} {fp : List Addr} : Sta (X.blk s H scope (compEnvC scope cl C X.env) fp) (S.blk scope) G F W0 M0 H0 where
  N := Z.N
  nd := Z.nd
  sc := by
    show relS scope X.env.scope = relS scope S.sc
    rw [Z.sc]
  calm := Z.calm
  K := Z.K
  P := Z.P
  w := Z.w
  wr := fun x h => by
    have h : (match scope.names.lookup x with | some .local => true | some .cell => true | _ => false) = true := h
    have hs : ∀ k, k ≠ NameKind.free → scope.names.lookup x = some k → (relS scope X.env.scope).names.lookup x = some k := fun k hk e => lookup_relS_keep hk e
    split at h
    · rename_i e
      exact ⟨.inl (hs _ (by decide) e), .inr (hs _ (by decide) e)⟩
    · rename_i e
      refine ⟨.inr (hs _ (by decide) e), .inl ?_⟩
      show (scope.names.lookup x == some .cell) = true
      rw [e]; rfl
    · cases h
  bn := Z.bn
  gl := Z.gl
  fns := fun f hf => let ⟨h⟩ := Z.fns f hf; ⟨h⟩
  ms := Z.ms
  nw := Z.nw
  fl := Z.fl
  xs := Z.xs
  kd := Z.kd
  ca := Z.ca
  is := Z.is
  tk := fun h => nomatch h
  stk := fun h => nomatch h
  pass := passes_call takes0 fun cls d σ H ⟨_, _, _, h, _⟩ => h
  own := PassesOwn.never
  hu := Z.hu
theorem s_lc {X : Cx} {S : Sc} {W : WQ} (Z : Sta X S G F W M0 H0) {mu : Bool} {own : List Nat} {elt tgm it cond : E} {el t i : Expr} {ifs : List Expr} {scope : Scope} {pos : Pos} {tt : TT}
    (hi : PI X t i (liftI G M0 H0 (wpI F W it))) (hb : blkC S.N S.sc scope (ownP S own) = true) (ho : (ownP S own).map (·.2) = own) (hs : ∀ j ∈ slotsT tgm, j ∈ own)
    (hg : ∀ Y : Cx, Sta Y (S.blk scope) G F W0 M0 H0 → PG Y t (liftT G M0 H0 (slotsT tgm) (wpT F W0 tgm))) (ht : ∀ Y : Cx, Sta Y (S.blk scope) G F W0 M0 H0 → PTs Y ifs tt)
    (htt : ∀ σ H Q, liftB G M0 H0 (wpB F W0 cond) σ H Q → tt σ H Q) (he : ∀ Y : Cx, Sta Y (S.blk scope) G F W0 M0 H0 → PE Y el (lift G M0 H0 (wpE F W0 elt))) (hf : ∀ x, foldedSetIterable i X.env x = pure x) :
    PE X (.ListComp el [⟨t, i, ifs, 0⟩] scope pos) (lift G M0 H0 (wpE F W (.lc mu elt tgm it cond own))) := by
  refine PE.imp (pe_lc Z.calm (by rw [Z.N]; exact Z.nd) hi (blkOk_by (own := ownP S own) (by rw [Z.N, Z.sc]; exact hb)) (fun _ _ _ _ _ => hg _ Z.blk) (fun _ _ _ _ _ => ht _ Z.blk) (fun _ _ _ _ _ => he _ Z.blk) hf) fun σ H Q h => ?_
  rw [ho]
  exact lc_read hs htt h
theorem s_setLc {X : Cx} {S : Sc} {W : WQ} (Z : Sta X S G F W M0 H0) {mu : Bool} {own : List Nat} {elt tgm it cond : E} {el t i : Expr} {ifs : List Expr} {scope : Scope} {pos spos py : Pos} {tt : TT} {k : Nat} {y : Str}
    (hy : S.N[k]? = some y) (hyl : S.sc.names.lookup y = some .local) (hsw : swapsWith (.ListComp el [⟨t, i, ifs, 0⟩] scope pos) (some (.Name y py)) spos.line X.env = pure true)
    (hi : PI X t i (liftI G M0 H0 (wpI F W it))) (hb : blkC S.N S.sc scope (ownP S own) = true) (ho : (ownP S own).map (·.2) = own) (hs : ∀ j ∈ slotsT tgm, j ∈ own)
    (hg : ∀ Y : Cx, Sta Y (S.blk scope) G F W0 M0 H0 → PG Y t (liftT G M0 H0 (slotsT tgm) (wpT F W0 tgm))) (ht : ∀ Y : Cx, Sta Y (S.blk scope) G F W0 M0 H0 → PTs Y ifs tt)
    (htt : ∀ σ H Q, liftB G M0 H0 (wpB F W0 cond) σ H Q → tt σ H Q) (he : ∀ Y : Cx, Sta Y (S.blk scope) G F W0 M0 H0 → PE Y el (lift G M0 H0 (wpE F W0 elt))) (hf : ∀ x, foldedSetIterable i X.env x = pure x) :
    PS X (.Assign [.Name y py] (.ListComp el [⟨t, i, ifs, 0⟩] scope pos) spos) (tAsg (lift G M0 H0 (wpE F W (.lc mu elt tgm it cond own))) (gName k)) := by
  refine PS.imp (ps_setLc (i := k) Z.calm (by rw [Z.N]; exact Z.nd) (by rw [Z.N]; exact hy) (by rw [Z.sc]; exact hyl) hsw hi (blkOk_by (own := ownP S own) (by rw [Z.N, Z.sc]; exact hb)) (fun _ _ _ _ _ => hg _ Z.blk) (fun _ _ _ _ _ => ht _ Z.blk) (fun _ _ _ _ _ => he _ Z.blk) hf) fun D σ H h => ?_
  rw [ho]
  exact lc_read hs htt h
theorem chk_fold {m : E} {S : Sc} {t i : Expr} {env : PySem.Env} {x : Value} (h : chkI m S t i = true) : foldedSetIterable i env x = pure x := by
  cases i <;> first | rfl | skip
  cases m <;> first | exact Bool.noConfusion (show false = true from h) | skip
  all_goals
    rename_i a
    have h : chkE a S (.Set _ _ _) = true := h
    rw [chk_set] at h
    cases h
theorem tt_yes {cond : E} (h : isNop cond = true) : ∀ σ H Q, liftB G M0 H0 (wpB F W0 cond) σ H Q → tYes σ H Q := by
  intro σ H Q ⟨σD, M, Q0, s, q, z⟩
  have e : cond = .nop := by cases cond <;> first | rfl | exact Bool.noConfusion (show false = true from h)
  subst e
  exact z _ _ _ q s.2.2 Ext.refl
/-- no test is a value's test but these -/
theorem plain_test {m : E} {S : Sc} {e : Expr} {env : PySem.Env} (hm : (match m with | .v _ => true | .call _ _ => true | .isi _ _ => true | .bi _ _ _ => true | .ix _ _ => true | _ => false) = true) (h : chkE m S e = true) :
    (∀ whole, isTrue e env whole = (do let v ← whole; standAt e.pos; holding [v] (truthy v))) ∧ ∀ op es pos, e ≠ .BoolOp op es pos := by
  cases m <;> first | exact Bool.noConfusion (show false = true from hm) | skip
  all_goals
    cases e <;> first | exact Bool.noConfusion (show false = true from h) | exact ⟨fun _ => rfl, fun _ _ _ q => by cases q⟩

mutual
theorem sndE : ∀ (m : E) {S : Sc} {e : Expr} {X : Cx} {W : WQ}, chkE m S e = true → Sta X S G F W M0 H0 → PE X e (lift G M0 H0 (wpE F W m))
  | .v i, S, e, X, W, h, Z => by
    simp only [chkE] at h
    split at h
    · exact s_v Z h
    · cases h
  | .g y, S, e, X, W, h, Z => by
    simp only [chkE] at h
    split at h
    · simp only [Bool.and_eq_true, decide_eq_true_eq] at h
      obtain ⟨h1, h2⟩ := h
      subst h1
      exact s_g Z h2
    · cases h
  | .int i, S, e, X, W, h, Z => by
    simp only [chkE] at h
    split at h
    · have e := of_decide_eq_true h
      subst e
      exact s_c pe_int fun _ _ => rfl
    · cases h
  | .str x, S, e, X, W, h, Z => by
    simp only [chkE] at h
    split at h
    · have e := of_decide_eq_true h
      subst e
      exact s_c pe_str fun _ _ => rfl
    · cases h
  | .bl b, S, e, X, W, h, Z => by
    simp only [chkE] at h
    split at h
    · have e := beq_iff_eq.mp h
      subst e
      exact s_c pe_bl fun _ _ => rfl
    · cases h
  | .non, S, e, X, W, h, Z => by
    simp only [chkE] at h
    split at h
    · exact s_c pe_non fun _ _ => rfl
    · cases h
  | .bin op mu a b, S, e, X, W, h, Z => by
    simp only [chkE] at h
    split at h
    · simp only [Bool.and_eq_true, decide_eq_true_eq] at h
      obtain ⟨⟨h1, h2⟩, h3⟩ := h
      subst h1
      exact s_bin Z (sndE a h2 Z) (sndE b h3 Z)
    · cases h
  | .neg a, S, e, X, W, h, Z => by
    simp only [chkE] at h
    split at h
    · exact s_neg (sndE a h Z)
    · cases h
  | .cmp op a b, S, e, X, W, h, Z => by
    simp only [chkE] at h
    split at h
    · simp only [Bool.and_eq_true, decide_eq_true_eq] at h
      obtain ⟨⟨h1, h2⟩, h3⟩ := h
      subst h1
      exact s_cmp Z (sndE a h2 Z) (sndE b h3 Z) h3
    · cases h
  | .chain o o' a b c, S, e, X, W, h, Z => by
    simp only [chkE] at h
    split at h
    · rw [Bool.and_eq_true, Bool.and_eq_true, Bool.and_eq_true, Bool.and_eq_true, Bool.and_eq_true, Bool.and_eq_true] at h
      obtain ⟨⟨⟨⟨⟨⟨h1, h2⟩, h3⟩, h4⟩, h5⟩, h6⟩, h7⟩ := h
      have e1 := of_decide_eq_true h1
      have e2 := of_decide_eq_true h2
      subst e1 e2
      exact s_chain Z (sndE a h3 Z) (sndE b h4 Z) (sndE c h5 Z) h6 h7
    · cases h
  | .and a b, S, e, X, W, h, Z => by
    simp only [chkE] at h
    split at h
    · simp only [Bool.and_eq_true, decide_eq_true_eq] at h
      exact s_and (sndE a h.1 Z) (sndE b h.2 Z)
    · cases h
  | .or a b, S, e, X, W, h, Z => by
    simp only [chkE] at h
    split at h
    · simp only [Bool.and_eq_true, decide_eq_true_eq] at h
      exact s_or (sndE a h.1 Z) (sndE b h.2 Z)
    · cases h
  | .one a, S, e, X, W, h, Z => by
    simp only [chkE] at h
    split at h
    · exact PE.imp (pe_one (sndE a h Z)) fun _ _ _ q => q
    · cases h
  | .not a, S, e, X, W, h, Z => by
    simp only [chkE] at h
    split at h
    · exact s_not (sndE a h Z)
    · cases h
  | .tup es, S, e, X, W, h, Z => by
    simp only [chkE] at h
    split at h
    · exact s_tup (sndA es h Z)
    · cases h
  | .lst mu es, S, e, X, W, h, Z => by
    simp only [chkE] at h
    split at h
    · exact s_lst (sndA es h Z)
    · cases h
  | .dict t, S, e, X, W, h, Z => by
    simp only [chkE] at h
    split at h
    · exact s_dict Z
    · cases h
  | .ix a i, S, e, X, W, h, Z => by
    simp only [chkE] at h
    split at h
    · simp only [Bool.and_eq_true, decide_eq_true_eq] at h
      exact s_ix Z (sndE a h.1 Z) (sndE i h.2 Z) h.2
    · cases h
  | .sl mu a lo hi, S, e, X, W, h, Z => by
    simp only [chkE] at h
    split at h
    · rw [Bool.and_eq_true, Bool.and_eq_true] at h
      obtain ⟨⟨h1, h2⟩, h3⟩ := h
      exact s_sl Z (sndE a h1 Z) h2 (fun y e => by subst e; exact sndE lo h2 Z) h3 (fun y e => by subst e; exact sndE hi h3 Z)
    · cases h
  | .call f es, S, e, X, W, h, Z => by
    simp only [chkE] at h
    split at h
    · simp only [Bool.and_eq_true, decide_eq_true_eq] at h
      obtain ⟨⟨⟨h1, h2⟩, h3⟩, h4⟩ := h
      subst h1
      exact s_call Z h2 h3 h4 (sndA es h4 Z)
    · cases h
  | .bi b mu es, S, e, X, W, h, Z => by
    simp only [chkE] at h
    split at h
    · simp only [Bool.and_eq_true, decide_eq_true_eq] at h
      obtain ⟨⟨⟨h1, h2⟩, h3⟩, h4⟩ := h
      subst h1
      exact s_bi Z h2 h3 h4 (sndA es h4 Z)
    · cases h
  | .isi a ts, S, e, X, W, h, Z => by
    simp only [chkE] at h
    split at h
    · rw [Bool.and_eq_true, Bool.and_eq_true, Bool.and_eq_true, Bool.and_eq_true] at h
      obtain ⟨⟨⟨⟨h1, h2⟩, h3⟩, h4⟩, h5⟩ := h
      have e1 := of_decide_eq_true h1
      subst e1
      split at h5
      · exact s_isiT Z h2 h3 (of_decide_eq_true h4) h5 (sndE a h3 Z)
      · split at h5
        · exact s_isi1 Z h2 h3 h5 (sndE a h3 Z)
        · cases h5
    · cases h
  | .meth n mu o es, S, e, X, W, h, Z => by
    simp only [chkE] at h
    split at h
    · simp only [Bool.and_eq_true, decide_eq_true_eq] at h
      obtain ⟨⟨⟨⟨⟨h1, h2⟩, h3⟩, h4⟩, h5⟩, h6⟩ := h
      subst h1
      exact s_meth Z h3 h5 h6 h4 (sndE o h2 Z) (sndA es h4 Z)
    · cases h
  | .rg t mu two a b, S, e, X, W, h, Z => by
    simp only [chkE] at h
    split at h
    · rw [Bool.and_eq_true, Bool.and_eq_true, Bool.and_eq_true, Bool.and_eq_true] at h
      obtain ⟨⟨⟨⟨h1, h2⟩, h3⟩, h4⟩, h5⟩ := h
      have e1 := of_decide_eq_true h1
      have e2 := of_decide_eq_true h3
      subst e1 e2
      split at h5
      · rw [Bool.and_eq_true, Bool.and_eq_true] at h5
        obtain ⟨⟨g1, g2⟩, g3⟩ := h5
        cases two with
        | true => cases g1
        | false => exact s_rg Z h2 h4 g2 (sndE a g2 Z) g3
      · rw [Bool.and_eq_true, Bool.and_eq_true] at h5
        obtain ⟨⟨g1, g2⟩, g3⟩ := h5
        cases two with
        | false => cases g1
        | true => exact s_rg2 Z h2 h4 g2 g3 (sndE a g2 Z) (sndE b g3 Z)
      · cases h5
    · cases h
  | .lc mu elt tg it cond own, S, e, X, W, h, Z => by
    simp only [chkE] at h
    split at h
    · rw [Bool.and_eq_true, Bool.and_eq_true, Bool.and_eq_true, Bool.and_eq_true, Bool.and_eq_true, Bool.and_eq_true] at h
      obtain ⟨⟨⟨⟨⟨⟨h1, h2⟩, h3⟩, h4⟩, h5⟩, h6⟩, h7⟩ := h
      have h3 := of_decide_eq_true h3
      have h6 := of_decide_eq_true h6
      split at h7
      · exact s_lc Z (sndI it h1 Z) h2 h3 h6 (fun Y ZY => sndT tg h4 ZY) (fun _ _ => pts_nil) (tt_yes h7) (fun Y ZY => sndE elt h5 ZY) fun _ => chk_fold h1
      · exact s_lc Z (sndI it h1 Z) h2 h3 h6 (fun Y ZY => sndT tg h4 ZY) (fun Y ZY => pts_one (sndB cond h7 ZY).1) (fun _ _ _ q => q) (fun Y ZY => sndE elt h5 ZY) fun _ => chk_fold h1
      · cases h7
    · cases h
  | .rev mu a, S, e, X, W, h, Z => by
    simp only [chkE] at h
    split at h
    · simp only [Bool.and_eq_true, decide_eq_true_eq] at h
      obtain ⟨h1, h2⟩ := h
      subst h1
      exact s_rev Z (sndE a h2 Z)
    · cases h
  | .frz a, S, e, X, W, h, Z => by
    exact s_frz (sndE a (show chkE a S e = true from h) Z)
  | .lock a, S, e, X, W, h, Z => by
    exact s_lock Z (sndE a (show chkE a S e = true from h) Z)
  | .dict1 k v, S, e, X, W, h, Z => by
    simp only [chkE] at h
    split at h
    · rw [Bool.and_eq_true] at h
      exact s_dict1 Z (sndE k h.1 Z) (sndE v h.2 Z)
    · cases h
  | .sortLen mu a, S, e, X, W, h, Z => by
    simp only [chkE] at h
    split at h
    · rw [Bool.and_eq_true, Bool.and_eq_true, Bool.and_eq_true, Bool.and_eq_true, Bool.and_eq_true] at h
      obtain ⟨⟨⟨⟨⟨h1, h2⟩, h3⟩, h4⟩, h5⟩, h6⟩ := h
      have e1 := of_decide_eq_true h1
      have e2 := of_decide_eq_true h3
      have e3 := of_decide_eq_true h4
      subst e1 e2 e3
      exact s_sortLen Z h2 h5 h6 (sndE a h6 Z)
    · cases h
  | .sp .maxV _ a _, S, e, X, W, h, Z => by
    simp only [chkE] at h
    split at h
    · rw [Bool.and_eq_true, Bool.and_eq_true, Bool.and_eq_true, Bool.and_eq_true, Bool.and_eq_true, Bool.and_eq_true] at h
      obtain ⟨⟨⟨⟨⟨⟨h1, h2⟩, h3⟩, h4⟩, h5⟩, h6⟩, h7⟩ := h
      have e1 := of_decide_eq_true h1
      have e2 := of_decide_eq_true h3
      have e3 := of_decide_eq_true h4
      subst e1 e2 e3
      exact s_maxV Z h2 h6 h7 (sndE a h5 Z)
    · cases h
  | .sp .maxD _ a b, S, e, X, W, h, Z => by
    simp only [chkE] at h
    split at h
    · rw [Bool.and_eq_true, Bool.and_eq_true, Bool.and_eq_true, Bool.and_eq_true] at h
      obtain ⟨⟨⟨⟨h1, h2⟩, h3⟩, h4⟩, h5⟩ := h
      have e1 := of_decide_eq_true h1
      have e2 := of_decide_eq_true h3
      subst e1 e2
      exact s_maxD Z h2 h4 (sndE a h4 Z) (sndE b h5 Z)
    · cases h
  | .sp .zipL _ a b, S, e, X, W, h, Z => by
    simp only [chkE] at h
    split at h
    · rw [Bool.and_eq_true, Bool.and_eq_true, Bool.and_eq_true, Bool.and_eq_true, Bool.and_eq_true] at h
      obtain ⟨⟨⟨⟨⟨h1, h2⟩, h3⟩, h4⟩, h5⟩, h6⟩ := h
      have e1 := of_decide_eq_true h1
      have e2 := of_decide_eq_true h3
      subst e1 e2
      exact s_zipL Z h2 h4 h5 h6 (sndE a h5 Z) (sndE b h6 Z)
    · cases h
  | .items a, S, e, X, W, h, Z => by
    exact Bool.noConfusion (show false = true from h)
  | .keys a, S, e, X, W, h, Z => by
    exact Bool.noConfusion (show false = true from h)
  | .nop, S, e, X, W, h, Z => by
    exact Bool.noConfusion (show false = true from h)
  | .fld c a f, S, e, X, W, h, Z => by
    simp only [chkE] at h
    split at h
    · simp only [Bool.and_eq_true, decide_eq_true_eq] at h
      obtain ⟨⟨⟨h1, h2⟩, h3⟩, h4⟩ := h
      subst h1
      exact s_fld Z h2 h4 (sndE a h3 Z)
    · cases h
  | .mcall c n k o es, S, e, X, W, h, Z => by
    simp only [chkE] at h
    split at h
    · simp only [Bool.and_eq_true, decide_eq_true_eq] at h
      obtain ⟨⟨⟨⟨⟨⟨h1, h2⟩, h3⟩, h4⟩, h5⟩, h6⟩, h7⟩ := h
      subst h1
      exact s_mcall Z h2 h4 h6 h7 h5 (sndE o h3 Z) (sndA es h5 Z)
    · cases h
  | .make c k es, S, e, X, W, h, Z => by
    simp only [chkE] at h
    split at h
    · simp only [Bool.and_eq_true, decide_eq_true_eq] at h
      obtain ⟨⟨⟨h1, h2⟩, h3⟩, h4⟩ := h
      subst h1
      exact s_make Z h2 h3 h4 (sndA es h4 Z)
    · cases h
  | .sst mu a lo hi st, S, e, X, W, h, Z => by
    simp only [chkE] at h
    split at h
    · simp only [Bool.and_eq_true, decide_eq_true_eq] at h
      obtain ⟨⟨⟨⟨h1, h2⟩, h3⟩, h4⟩, h5⟩ := h
      exact s_sst Z (by subst h4; omega) (sndE a h1 Z) (sndE lo h2 Z)
    · cases h
  | .disp ks es, S, e, X, W, h, Z => by
    simp only [chkE] at h
    split at h
    · simp only [Bool.and_eq_true, decide_eq_true_eq] at h
      obtain ⟨⟨⟨⟨h1, h2⟩, h3⟩, h4⟩, h5⟩ := h
      exact s_disp Z h1 h2 h3 h4 h5 (sndV es h2 h1 h4 Z)
    · cases h
  | .kix x tab i, S, e, X, W, h, Z => by
    simp only [chkE] at h
    split at h
    · simp only [Bool.and_eq_true, decide_eq_true_eq] at h
      obtain ⟨⟨⟨h1, h2⟩, h3⟩, h4⟩ := h
      subst h1
      exact s_kix Z h2 h3 (sndE i h4 Z) h4
    · cases h
  | .sp .join mu a b, S, e, X, W, h, Z => by
    simp only [chkE] at h
    split at h
    · simp only [Bool.and_eq_true, decide_eq_true_eq] at h
      obtain ⟨⟨⟨⟨h1, h2⟩, h3⟩, h4⟩, h5⟩ := h
      subst h1
      exact s_join Z h3 h5 h4 (sndE a h2 Z) (sndE b h4 Z)
    · cases h
  | .sp .split mu a b, S, e, X, W, h, Z => by
    simp only [chkE] at h
    split at h
    · simp only [Bool.and_eq_true, decide_eq_true_eq] at h
      obtain ⟨⟨⟨⟨h1, h2⟩, h3⟩, h4⟩, h5⟩ := h
      subst h1
      exact s_split Z h3 h5 h4 (sndE a h2 Z) (sndE b h4 Z)
    · cases h
  | .sp .cntS mu a b, S, e, X, W, h, Z => by
    simp only [chkE] at h
    split at h
    · simp only [Bool.and_eq_true, decide_eq_true_eq] at h
      obtain ⟨⟨⟨⟨h1, h2⟩, h3⟩, h4⟩, h5⟩ := h
      subst h1
      exact s_cntS Z h3 h5 h4 (sndE a h2 Z) (sndE b h4 Z)
    · cases h
  | .sp .tIx mu a b, S, e, X, W, h, Z => by
    simp only [chkE] at h
    split at h
    · simp only [Bool.and_eq_true, decide_eq_true_eq] at h
      obtain ⟨⟨⟨⟨h1, h2⟩, h3⟩, h4⟩, h5⟩ := h
      subst h1
      exact s_tIx Z h3 h5 h4 (sndE a h2 Z) (sndE b h4 Z)
    · cases h
  | .sp .kOne mu a b, S, e, X, W, h, Z => by
    simp only [chkE] at h
    split at h
    · exact s_kOne Z h (sndE a h Z)
    · cases h
  | .sp .kAdd mu a b, S, e, X, W, h, Z => by
    simp only [chkE] at h
    split at h
    · rw [Bool.and_eq_true] at h
      exact s_kAdd Z (sndE a h.1 Z) (sndE b h.2 Z)
    · cases h
  | .sp .kTupL mu a b, S, e, X, W, h, Z => by
    simp only [chkE] at h
    split at h
    · simp only [Bool.and_eq_true, decide_eq_true_eq] at h
      obtain ⟨⟨h1, h2⟩, h3⟩ := h
      subst h1
      exact s_kTupL Z h2 h3 (sndE a h3 Z)
    · cases h
  | .sp .mulS mu a b, S, e, X, W, h, Z => by
    simp only [chkE] at h
    split at h
    · rw [Bool.and_eq_true] at h
      exact s_mulS Z (sndE a h.1 Z) (sndE b h.2 Z)
    · cases h
  | .nil, S, e, X, W, h, Z => by
    exact Bool.noConfusion (show false = true from h)
  | .cons _ _, S, e, X, W, h, Z => by
    exact Bool.noConfusion (show false = true from h)
  | .over _, S, e, X, W, h, Z => by
    exact Bool.noConfusion (show false = true from h)
  | .rng1 _, S, e, X, W, h, Z => by
    exact Bool.noConfusion (show false = true from h)
  | .rng2 _ _, S, e, X, W, h, Z => by
    exact Bool.noConfusion (show false = true from h)
  | .enum _, S, e, X, W, h, Z => by
    exact Bool.noConfusion (show false = true from h)
  | .zip _ _, S, e, X, W, h, Z => by
    exact Bool.noConfusion (show false = true from h)
theorem sndA : ∀ (m : E) {S : Sc} {es : List Expr} {X : Cx} {W : WQ}, chkA m S es = true → Sta X S G F W M0 H0 → PA X es (liftA G M0 H0 (wpA F W m))
  | .nil, S, e, X, W, h, Z => by
    cases e with
    | nil => exact s_nil
    | cons x xs => exact Bool.noConfusion (show false = true from h)
  | .cons a es, S, e, X, W, h, Z => by
    cases e with
    | nil => exact Bool.noConfusion (show false = true from h)
    | cons x xs =>
      have h : (chkE a S x && chkA es S xs) = true := h
      rw [Bool.and_eq_true] at h
      exact s_cons h.1 (sndE a h.1 Z) (sndA es h.2 Z)
  | .v _, S, e, X, W, h, Z => Bool.noConfusion (show false = true from h)
  | .g _, S, e, X, W, h, Z => Bool.noConfusion (show false = true from h)
  | .int _, S, e, X, W, h, Z => Bool.noConfusion (show false = true from h)
  | .str _, S, e, X, W, h, Z => Bool.noConfusion (show false = true from h)
  | .bl _, S, e, X, W, h, Z => Bool.noConfusion (show false = true from h)
  | .non, S, e, X, W, h, Z => Bool.noConfusion (show false = true from h)
  | .bin _ _ _ _, S, e, X, W, h, Z => Bool.noConfusion (show false = true from h)
  | .neg _, S, e, X, W, h, Z => Bool.noConfusion (show false = true from h)
  | .cmp _ _ _, S, e, X, W, h, Z => Bool.noConfusion (show false = true from h)
  | .chain _ _ _ _ _, S, e, X, W, h, Z => Bool.noConfusion (show false = true from h)
  | .and _ _, S, e, X, W, h, Z => Bool.noConfusion (show false = true from h)
  | .or _ _, S, e, X, W, h, Z => Bool.noConfusion (show false = true from h)
  | .one _, S, e, X, W, h, Z => Bool.noConfusion (show false = true from h)
  | .not _, S, e, X, W, h, Z => Bool.noConfusion (show false = true from h)
  | .tup _, S, e, X, W, h, Z => Bool.noConfusion (show false = true from h)
  | .lst _ _, S, e, X, W, h, Z => Bool.noConfusion (show false = true from h)
  | .dict _, S, e, X, W, h, Z => Bool.noConfusion (show false = true from h)
  | .ix _ _, S, e, X, W, h, Z => Bool.noConfusion (show false = true from h)
  | .sl _ _ _ _, S, e, X, W, h, Z => Bool.noConfusion (show false = true from h)
  | .nop, S, e, X, W, h, Z => Bool.noConfusion (show false = true from h)
  | .fld _ _ _, S, e, X, W, h, Z => Bool.noConfusion (show false = true from h)
  | .mcall _ _ _ _ _, S, e, X, W, h, Z => Bool.noConfusion (show false = true from h)
  | .make _ _ _, S, e, X, W, h, Z => Bool.noConfusion (show false = true from h)
  | .kix _ _ _, S, e, X, W, h, Z => Bool.noConfusion (show false = true from h)
  | .disp _ _, S, e, X, W, h, Z => Bool.noConfusion (show false = true from h)
  | .sst _ _ _ _ _, S, e, X, W, h, Z => Bool.noConfusion (show false = true from h)
  | .call _ _, S, e, X, W, h, Z => Bool.noConfusion (show false = true from h)
  | .bi _ _ _, S, e, X, W, h, Z => Bool.noConfusion (show false = true from h)
  | .isi _ _, S, e, X, W, h, Z => Bool.noConfusion (show false = true from h)
  | .meth _ _ _ _, S, e, X, W, h, Z => Bool.noConfusion (show false = true from h)
  | .rg _ _ _ _ _, S, e, X, W, h, Z => Bool.noConfusion (show false = true from h)
  | .lc _ _ _ _ _ _, S, e, X, W, h, Z => Bool.noConfusion (show false = true from h)
  | .over _, S, e, X, W, h, Z => Bool.noConfusion (show false = true from h)
  | .rng1 _, S, e, X, W, h, Z => Bool.noConfusion (show false = true from h)
  | .rng2 _ _, S, e, X, W, h, Z => Bool.noConfusion (show false = true from h)
  | .enum _, S, e, X, W, h, Z => Bool.noConfusion (show false = true from h)
  | .zip _ _, S, e, X, W, h, Z => Bool.noConfusion (show false = true from h)
  | .frz _, S, e, X, W, h, Z => Bool.noConfusion (show false = true from h)
  | .dict1 _ _, S, e, X, W, h, Z => Bool.noConfusion (show false = true from h)
  | .lock _, S, e, X, W, h, Z => Bool.noConfusion (show false = true from h)
  | .keys _, S, e, X, W, h, Z => Bool.noConfusion (show false = true from h)
  | .sortLen _ _, S, e, X, W, h, Z => Bool.noConfusion (show false = true from h)
  | .items _, S, e, X, W, h, Z => Bool.noConfusion (show false = true from h)
  | .rev _ _, S, e, X, W, h, Z => Bool.noConfusion (show false = true from h)
  | .sp _ _ _ _, S, e, X, W, h, Z => Bool.noConfusion (show false = true from h)
theorem sndV : ∀ (m : E) {S : Sc} {es : List Expr} {ks : List Str} {keys : List (Option Expr)} {pos : Pos} {X : Cx} {W : WQ}, chkA m S es = true → keysT ks keys = true → ks.length = es.length → Sta X S G F W M0 H0 → PPs X pos keys es (trsOf G M0 H0 F W ks m)
  | .nil, S, e, ks, keys, pos, X, W, h, hk, hl, Z => by
    cases e with
    | nil =>
      cases ks with
      | nil =>
        cases keys with
        | nil => exact pps_nil
        | cons x xs => exact Bool.noConfusion (show false = true from hk)
      | cons k ks => cases hl
    | cons x xs => exact Bool.noConfusion (show false = true from h)
  | .cons a es, S, e, ks, keys, pos, X, W, h, hk, hl, Z => by
    cases e with
    | nil => exact Bool.noConfusion (show false = true from h)
    | cons x xs =>
      have h : (chkE a S x && chkA es S xs) = true := h
      rw [Bool.and_eq_true] at h
      cases ks with
      | nil => cases hl
      | cons k ks =>
        unfold keysT at hk
        split at hk
        · rename_i e; cases e
        · rename_i e1; cases e1
          rw [Bool.and_eq_true] at hk
          have e := of_decide_eq_true hk.1
          subst e
          exact pps_cons pe_str (sndE a h.1 Z) (sndV es h.2 hk.2 (by simpa using hl) Z)
        · cases hk
  | .v _, S, e, ks, keys, pos, X, W, h, hk, hl, Z => Bool.noConfusion (show false = true from h)
  | .g _, S, e, ks, keys, pos, X, W, h, hk, hl, Z => Bool.noConfusion (show false = true from h)
  | .int _, S, e, ks, keys, pos, X, W, h, hk, hl, Z => Bool.noConfusion (show false = true from h)
  | .str _, S, e, ks, keys, pos, X, W, h, hk, hl, Z => Bool.noConfusion (show false = true from h)
  | .bl _, S, e, ks, keys, pos, X, W, h, hk, hl, Z => Bool.noConfusion (show false = true from h)
  | .non, S, e, ks, keys, pos, X, W, h, hk, hl, Z => Bool.noConfusion (show false = true from h)
  | .bin _ _ _ _, S, e, ks, keys, pos, X, W, h, hk, hl, Z => Bool.noConfusion (show false = true from h)
  | .neg _, S, e, ks, keys, pos, X, W, h, hk, hl, Z => Bool.noConfusion (show false = true from h)
  | .cmp _ _ _, S, e, ks, keys, pos, X, W, h, hk, hl, Z => Bool.noConfusion (show false = true from h)
  | .chain _ _ _ _ _, S, e, ks, keys, pos, X, W, h, hk, hl, Z => Bool.noConfusion (show false = true from h)
  | .and _ _, S, e, ks, keys, pos, X, W, h, hk, hl, Z => Bool.noConfusion (show false = true from h)
  | .or _ _, S, e, ks, keys, pos, X, W, h, hk, hl, Z => Bool.noConfusion (show false = true from h)
  | .one _, S, e, ks, keys, pos, X, W, h, hk, hl, Z => Bool.noConfusion (show false = true from h)
  | .not _, S, e, ks, keys, pos, X, W, h, hk, hl, Z => Bool.noConfusion (show false = true from h)
  | .tup _, S, e, ks, keys, pos, X, W, h, hk, hl, Z => Bool.noConfusion (show false = true from h)
  | .lst _ _, S, e, ks, keys, pos, X, W, h, hk, hl, Z => Bool.noConfusion (show false = true from h)
  | .dict _, S, e, ks, keys, pos, X, W, h, hk, hl, Z => Bool.noConfusion (show false = true from h)
  | .ix _ _, S, e, ks, keys, pos, X, W, h, hk, hl, Z => Bool.noConfusion (show false = true from h)
  | .sl _ _ _ _, S, e, ks, keys, pos, X, W, h, hk, hl, Z => Bool.noConfusion (show false = true from h)
  | .nop, S, e, ks, keys, pos, X, W, h, hk, hl, Z => Bool.noConfusion (show false = true from h)
  | .fld _ _ _, S, e, ks, keys, pos, X, W, h, hk, hl, Z => Bool.noConfusion (show false = true from h)
  | .mcall _ _ _ _ _, S, e, ks, keys, pos, X, W, h, hk, hl, Z => Bool.noConfusion (show false = true from h)
  | .make _ _ _, S, e, ks, keys, pos, X, W, h, hk, hl, Z => Bool.noConfusion (show false = true from h)
  | .kix _ _ _, S, e, ks, keys, pos, X, W, h, hk, hl, Z => Bool.noConfusion (show false = true from h)
  | .disp _ _, S, e, ks, keys, pos, X, W, h, hk, hl, Z => Bool.noConfusion (show false = true from h)
  | .sst _ _ _ _ _, S, e, ks, keys, pos, X, W, h, hk, hl, Z => Bool.noConfusion (show false = true from h)
  | .call _ _, S, e, ks, keys, pos, X, W, h, hk, hl, Z => Bool.noConfusion (show false = true from h)
  | .bi _ _ _, S, e, ks, keys, pos, X, W, h, hk, hl, Z => Bool.noConfusion (show false = true from h)
  | .isi _ _, S, e, ks, keys, pos, X, W, h, hk, hl, Z => Bool.noConfusion (show false = true from h)
  | .meth _ _ _ _, S, e, ks, keys, pos, X, W, h, hk, hl, Z => Bool.noConfusion (show false = true from h)
  | .rg _ _ _ _ _, S, e, ks, keys, pos, X, W, h, hk, hl, Z => Bool.noConfusion (show false = true from h)
  | .lc _ _ _ _ _ _, S, e, ks, keys, pos, X, W, h, hk, hl, Z => Bool.noConfusion (show false = true from h)
  | .over _, S, e, ks, keys, pos, X, W, h, hk, hl, Z => Bool.noConfusion (show false = true from h)
  | .rng1 _, S, e, ks, keys, pos, X, W, h, hk, hl, Z => Bool.noConfusion (show false = true from h)
  | .rng2 _ _, S, e, ks, keys, pos, X, W, h, hk, hl, Z => Bool.noConfusion (show false = true from h)
  | .enum _, S, e, ks, keys, pos, X, W, h, hk, hl, Z => Bool.noConfusion (show false = true from h)
  | .zip _ _, S, e, ks, keys, pos, X, W, h, hk, hl, Z => Bool.noConfusion (show false = true from h)
  | .frz _, S, e, ks, keys, pos, X, W, h, hk, hl, Z => Bool.noConfusion (show false = true from h)
  | .dict1 _ _, S, e, ks, keys, pos, X, W, h, hk, hl, Z => Bool.noConfusion (show false = true from h)
  | .lock _, S, e, ks, keys, pos, X, W, h, hk, hl, Z => Bool.noConfusion (show false = true from h)
  | .keys _, S, e, ks, keys, pos, X, W, h, hk, hl, Z => Bool.noConfusion (show false = true from h)
  | .sortLen _ _, S, e, ks, keys, pos, X, W, h, hk, hl, Z => Bool.noConfusion (show false = true from h)
  | .items _, S, e, ks, keys, pos, X, W, h, hk, hl, Z => Bool.noConfusion (show false = true from h)
  | .rev _ _, S, e, ks, keys, pos, X, W, h, hk, hl, Z => Bool.noConfusion (show false = true from h)
  | .sp _ _ _ _, S, e, ks, keys, pos, X, W, h, hk, hl, Z => Bool.noConfusion (show false = true from h)
theorem sndB : ∀ (m : E) {S : Sc} {e : Expr} {X : Cx} {W : WQ}, chkE m S e = true → Sta X S G F W M0 H0 → PT X e (liftB G M0 H0 (wpB F W m)) ∧ ∀ op es pos, e = .BoolOp op es pos → PW X e (liftB G M0 H0 (wpB F W m))
  | .and a b, S, e, X, W, h, Z => by
    simp only [chkE] at h
    split at h
    · simp only [Bool.and_eq_true, decide_eq_true_eq] at h
      have w := t_and (sndB a h.1 Z).1 ((sndB b h.2 Z).2 _ _ _ rfl)
      exact ⟨w.pt, fun _ _ _ _ => w⟩
    · cases h
  | .or a b, S, e, X, W, h, Z => by
    simp only [chkE] at h
    split at h
    · simp only [Bool.and_eq_true, decide_eq_true_eq] at h
      have w := t_or (sndB a h.1 Z).1 ((sndB b h.2 Z).2 _ _ _ rfl)
      exact ⟨w.pt, fun _ _ _ _ => w⟩
    · cases h
  | .one a, S, e, X, W, h, Z => by
    simp only [chkE] at h
    split at h
    · rename_i op x p
      have w : PW X (.BoolOp op [x] p) (liftB G M0 H0 (wpB F W a)) := by
        cases op with
        | And => exact pw_and1 (sndB a h Z).1
        | Or => exact pw_or1 (sndB a h Z).1
      exact ⟨w.pt, fun _ _ _ _ => w⟩
    · cases h
  | .not a, S, e, X, W, h, Z => by
    simp only [chkE] at h
    split at h
    · exact ⟨t_not (sndB a h Z).1, fun _ _ _ q => by cases q⟩
    · cases h
  | .cmp op a b, S, e, X, W, h, Z => by
    simp only [chkE] at h
    split at h
    · simp only [Bool.and_eq_true, decide_eq_true_eq] at h
      obtain ⟨⟨h1, h2⟩, h3⟩ := h
      subst h1
      exact ⟨t_cmp Z (sndE a h2 Z) (sndE b h3 Z) h3, fun _ _ _ q => by cases q⟩
    · cases h
  | .chain o o' a b c, S, e, X, W, h, Z => by
    simp only [chkE] at h
    split at h
    · rw [Bool.and_eq_true, Bool.and_eq_true, Bool.and_eq_true, Bool.and_eq_true, Bool.and_eq_true, Bool.and_eq_true] at h
      obtain ⟨⟨⟨⟨⟨⟨h1, h2⟩, h3⟩, h4⟩, h5⟩, h6⟩, h7⟩ := h
      have e1 := of_decide_eq_true h1
      have e2 := of_decide_eq_true h2
      subst e1 e2
      exact ⟨t_chain Z (sndE a h3 Z) (sndE b h4 Z) (sndE c h5 Z) h6 h7, fun _ _ _ q => by cases q⟩
    · cases h
  | .v i, S, e, X, W, h, Z => by
    have t := plain_test (env := X.env) (m := .v i) rfl h
    have q : PE X e (lift G M0 H0 (wpE F W (.v i))) := by
      simp only [chkE] at h
      split at h
      · exact s_v Z h
      · cases h
    exact ⟨t_val q (fun σ M Q ⟨b, e1, e2⟩ => ⟨.bl b, e1, b, rfl, e2⟩) t.1, fun _ _ _ q => absurd q (t.2 _ _ _)⟩
  | .call f es, S, e, X, W, h, Z => by
    have t := plain_test (env := X.env) (m := .call f es) rfl h
    have q : PE X e (lift G M0 H0 (wpE F W (.call f es))) := by
      simp only [chkE] at h
      split at h
      · simp only [Bool.and_eq_true, decide_eq_true_eq] at h
        obtain ⟨⟨⟨h1, h2⟩, h3⟩, h4⟩ := h
        subst h1
        exact s_call Z h2 h3 h4 (sndA es h4 Z)
      · cases h
    exact ⟨t_val q (fun σ M Q z => z) t.1, fun _ _ _ q => absurd q (t.2 _ _ _)⟩
  | .bi b mu es, S, e, X, W, h, Z => by
    have t := plain_test (env := X.env) (m := .bi b mu es) rfl h
    have q : PE X e (lift G M0 H0 (wpE F W (.bi b mu es))) := by
      simp only [chkE] at h
      split at h
      · simp only [Bool.and_eq_true, decide_eq_true_eq] at h
        obtain ⟨⟨⟨h1, h2⟩, h3⟩, h4⟩ := h
        subst h1
        exact s_bi Z h2 h3 h4 (sndA es h4 Z)
      · cases h
    exact ⟨t_val q (fun σ M Q z => z) t.1, fun _ _ _ q => absurd q (t.2 _ _ _)⟩
  | .ix a i, S, e, X, W, h, Z => by
    have t := plain_test (env := X.env) (m := .ix a i) rfl h
    have q : PE X e (lift G M0 H0 (wpE F W (.ix a i))) := by
      simp only [chkE] at h
      split at h
      · simp only [Bool.and_eq_true, decide_eq_true_eq] at h
        exact s_ix Z (sndE a h.1 Z) (sndE i h.2 Z) h.2
      · cases h
    exact ⟨t_val q (fun σ M Q z => z) t.1, fun _ _ _ q => absurd q (t.2 _ _ _)⟩
  | .isi a ts, S, e, X, W, h, Z => by
    have t := plain_test (env := X.env) (m := .isi a ts) rfl h
    have q : PE X e (lift G M0 H0 (wpE F W (.isi a ts))) := by
      simp only [chkE] at h
      split at h
      · rw [Bool.and_eq_true, Bool.and_eq_true, Bool.and_eq_true, Bool.and_eq_true] at h
        obtain ⟨⟨⟨⟨h1, h2⟩, h3⟩, h4⟩, h5⟩ := h
        have e1 := of_decide_eq_true h1
        subst e1
        split at h5
        · exact s_isiT Z h2 h3 (of_decide_eq_true h4) h5 (sndE a h3 Z)
        · split at h5
          · exact s_isi1 Z h2 h3 h5 (sndE a h3 Z)
          · cases h5
      · cases h
    exact ⟨t_val q (fun σ M Q z => z) t.1, fun _ _ _ q => absurd q (t.2 _ _ _)⟩
  | .frz a, S, e, X, W, h, Z => by
    have ih := sndB a (show chkE a S e = true from h) Z
    exact ⟨t_frz ih.1, fun op es pos q => PW.imp (ih.2 op es pos q) fun σ H Q ⟨σD, M, Q0, s, q, z⟩ => ⟨σD, M, _, s, q, fun k M1 H1 q1 ok1 e1 => z k _ H1 q1 (restr_ok ok1) (restr_from e1)⟩⟩
  | .g _, S, e, X, W, h, Z => ⟨PT.none fun _ _ _ ⟨_, _, _, _, q, _⟩ => q, fun _ _ _ _ => ⟨fun _ _ _ _ _ _ _ ⟨_, _, _, _, q, _⟩ => (show False from q).elim⟩⟩
  | .int _, S, e, X, W, h, Z => ⟨PT.none fun _ _ _ ⟨_, _, _, _, q, _⟩ => q, fun _ _ _ _ => ⟨fun _ _ _ _ _ _ _ ⟨_, _, _, _, q, _⟩ => (show False from q).elim⟩⟩
  | .str _, S, e, X, W, h, Z => ⟨PT.none fun _ _ _ ⟨_, _, _, _, q, _⟩ => q, fun _ _ _ _ => ⟨fun _ _ _ _ _ _ _ ⟨_, _, _, _, q, _⟩ => (show False from q).elim⟩⟩
  | .bl _, S, e, X, W, h, Z => ⟨PT.none fun _ _ _ ⟨_, _, _, _, q, _⟩ => q, fun _ _ _ _ => ⟨fun _ _ _ _ _ _ _ ⟨_, _, _, _, q, _⟩ => (show False from q).elim⟩⟩
  | .non, S, e, X, W, h, Z => ⟨PT.none fun _ _ _ ⟨_, _, _, _, q, _⟩ => q, fun _ _ _ _ => ⟨fun _ _ _ _ _ _ _ ⟨_, _, _, _, q, _⟩ => (show False from q).elim⟩⟩
  | .bin _ _ _ _, S, e, X, W, h, Z => ⟨PT.none fun _ _ _ ⟨_, _, _, _, q, _⟩ => q, fun _ _ _ _ => ⟨fun _ _ _ _ _ _ _ ⟨_, _, _, _, q, _⟩ => (show False from q).elim⟩⟩
  | .neg _, S, e, X, W, h, Z => ⟨PT.none fun _ _ _ ⟨_, _, _, _, q, _⟩ => q, fun _ _ _ _ => ⟨fun _ _ _ _ _ _ _ ⟨_, _, _, _, q, _⟩ => (show False from q).elim⟩⟩
  | .tup _, S, e, X, W, h, Z => ⟨PT.none fun _ _ _ ⟨_, _, _, _, q, _⟩ => q, fun _ _ _ _ => ⟨fun _ _ _ _ _ _ _ ⟨_, _, _, _, q, _⟩ => (show False from q).elim⟩⟩
  | .lst _ _, S, e, X, W, h, Z => ⟨PT.none fun _ _ _ ⟨_, _, _, _, q, _⟩ => q, fun _ _ _ _ => ⟨fun _ _ _ _ _ _ _ ⟨_, _, _, _, q, _⟩ => (show False from q).elim⟩⟩
  | .dict _, S, e, X, W, h, Z => ⟨PT.none fun _ _ _ ⟨_, _, _, _, q, _⟩ => q, fun _ _ _ _ => ⟨fun _ _ _ _ _ _ _ ⟨_, _, _, _, q, _⟩ => (show False from q).elim⟩⟩
  | .sl _ _ _ _, S, e, X, W, h, Z => ⟨PT.none fun _ _ _ ⟨_, _, _, _, q, _⟩ => q, fun _ _ _ _ => ⟨fun _ _ _ _ _ _ _ ⟨_, _, _, _, q, _⟩ => (show False from q).elim⟩⟩
  | .nop, S, e, X, W, h, Z => Bool.noConfusion (show false = true from h)
  | .fld _ _ _, S, e, X, W, h, Z => ⟨PT.none fun _ _ _ ⟨_, _, _, _, q, _⟩ => q, fun _ _ _ _ => ⟨fun _ _ _ _ _ _ _ ⟨_, _, _, _, q, _⟩ => (show False from q).elim⟩⟩
  | .mcall _ _ _ _ _, S, e, X, W, h, Z => ⟨PT.none fun _ _ _ ⟨_, _, _, _, q, _⟩ => q, fun _ _ _ _ => ⟨fun _ _ _ _ _ _ _ ⟨_, _, _, _, q, _⟩ => (show False from q).elim⟩⟩
  | .make _ _ _, S, e, X, W, h, Z => ⟨PT.none fun _ _ _ ⟨_, _, _, _, q, _⟩ => q, fun _ _ _ _ => ⟨fun _ _ _ _ _ _ _ ⟨_, _, _, _, q, _⟩ => (show False from q).elim⟩⟩
  | .kix _ _ _, S, e, X, W, h, Z => ⟨PT.none fun _ _ _ ⟨_, _, _, _, q, _⟩ => q, fun _ _ _ _ => ⟨fun _ _ _ _ _ _ _ ⟨_, _, _, _, q, _⟩ => (show False from q).elim⟩⟩
  | .disp _ _, S, e, X, W, h, Z => ⟨PT.none fun _ _ _ ⟨_, _, _, _, q, _⟩ => q, fun _ _ _ _ => ⟨fun _ _ _ _ _ _ _ ⟨_, _, _, _, q, _⟩ => (show False from q).elim⟩⟩
  | .sst _ _ _ _ _, S, e, X, W, h, Z => ⟨PT.none fun _ _ _ ⟨_, _, _, _, q, _⟩ => q, fun _ _ _ _ => ⟨fun _ _ _ _ _ _ _ ⟨_, _, _, _, q, _⟩ => (show False from q).elim⟩⟩
  | .meth _ _ _ _, S, e, X, W, h, Z => ⟨PT.none fun _ _ _ ⟨_, _, _, _, q, _⟩ => q, fun _ _ _ _ => ⟨fun _ _ _ _ _ _ _ ⟨_, _, _, _, q, _⟩ => (show False from q).elim⟩⟩
  | .rg _ _ _ _ _, S, e, X, W, h, Z => ⟨PT.none fun _ _ _ ⟨_, _, _, _, q, _⟩ => q, fun _ _ _ _ => ⟨fun _ _ _ _ _ _ _ ⟨_, _, _, _, q, _⟩ => (show False from q).elim⟩⟩
  | .lc _ _ _ _ _ _, S, e, X, W, h, Z => ⟨PT.none fun _ _ _ ⟨_, _, _, _, q, _⟩ => q, fun _ _ _ _ => ⟨fun _ _ _ _ _ _ _ ⟨_, _, _, _, q, _⟩ => (show False from q).elim⟩⟩
  | .over _, S, e, X, W, h, Z => ⟨PT.none fun _ _ _ ⟨_, _, _, _, q, _⟩ => q, fun _ _ _ _ => ⟨fun _ _ _ _ _ _ _ ⟨_, _, _, _, q, _⟩ => (show False from q).elim⟩⟩
  | .rng1 _, S, e, X, W, h, Z => ⟨PT.none fun _ _ _ ⟨_, _, _, _, q, _⟩ => q, fun _ _ _ _ => ⟨fun _ _ _ _ _ _ _ ⟨_, _, _, _, q, _⟩ => (show False from q).elim⟩⟩
  | .rng2 _ _, S, e, X, W, h, Z => ⟨PT.none fun _ _ _ ⟨_, _, _, _, q, _⟩ => q, fun _ _ _ _ => ⟨fun _ _ _ _ _ _ _ ⟨_, _, _, _, q, _⟩ => (show False from q).elim⟩⟩
  | .enum _, S, e, X, W, h, Z => ⟨PT.none fun _ _ _ ⟨_, _, _, _, q, _⟩ => q, fun _ _ _ _ => ⟨fun _ _ _ _ _ _ _ ⟨_, _, _, _, q, _⟩ => (show False from q).elim⟩⟩
  | .zip _ _, S, e, X, W, h, Z => ⟨PT.none fun _ _ _ ⟨_, _, _, _, q, _⟩ => q, fun _ _ _ _ => ⟨fun _ _ _ _ _ _ _ ⟨_, _, _, _, q, _⟩ => (show False from q).elim⟩⟩
  | .dict1 _ _, S, e, X, W, h, Z => ⟨PT.none fun _ _ _ ⟨_, _, _, _, q, _⟩ => q, fun _ _ _ _ => ⟨fun _ _ _ _ _ _ _ ⟨_, _, _, _, q, _⟩ => (show False from q).elim⟩⟩
  | .lock _, S, e, X, W, h, Z => ⟨PT.none fun _ _ _ ⟨_, _, _, _, q, _⟩ => q, fun _ _ _ _ => ⟨fun _ _ _ _ _ _ _ ⟨_, _, _, _, q, _⟩ => (show False from q).elim⟩⟩
  | .keys _, S, e, X, W, h, Z => ⟨PT.none fun _ _ _ ⟨_, _, _, _, q, _⟩ => q, fun _ _ _ _ => ⟨fun _ _ _ _ _ _ _ ⟨_, _, _, _, q, _⟩ => (show False from q).elim⟩⟩
  | .sortLen _ _, S, e, X, W, h, Z => ⟨PT.none fun _ _ _ ⟨_, _, _, _, q, _⟩ => q, fun _ _ _ _ => ⟨fun _ _ _ _ _ _ _ ⟨_, _, _, _, q, _⟩ => (show False from q).elim⟩⟩
  | .items _, S, e, X, W, h, Z => ⟨PT.none fun _ _ _ ⟨_, _, _, _, q, _⟩ => q, fun _ _ _ _ => ⟨fun _ _ _ _ _ _ _ ⟨_, _, _, _, q, _⟩ => (show False from q).elim⟩⟩
  | .rev _ _, S, e, X, W, h, Z => ⟨PT.none fun _ _ _ ⟨_, _, _, _, q, _⟩ => q, fun _ _ _ _ => ⟨fun _ _ _ _ _ _ _ ⟨_, _, _, _, q, _⟩ => (show False from q).elim⟩⟩
  | .sp _ _ _ _, S, e, X, W, h, Z => ⟨PT.none fun _ _ _ ⟨_, _, _, _, q, _⟩ => q, fun _ _ _ _ => ⟨fun _ _ _ _ _ _ _ ⟨_, _, _, _, q, _⟩ => (show False from q).elim⟩⟩
  | .nil, S, e, X, W, h, Z => ⟨PT.none fun _ _ _ ⟨_, _, _, _, q, _⟩ => q, fun _ _ _ _ => ⟨fun _ _ _ _ _ _ _ ⟨_, _, _, _, q, _⟩ => (show False from q).elim⟩⟩
  | .cons _ _, S, e, X, W, h, Z => ⟨PT.none fun _ _ _ ⟨_, _, _, _, q, _⟩ => q, fun _ _ _ _ => ⟨fun _ _ _ _ _ _ _ ⟨_, _, _, _, q, _⟩ => (show False from q).elim⟩⟩
theorem sndI : ∀ (m : E) {S : Sc} {t e : Expr} {X : Cx} {W : WQ}, chkI m S t e = true → Sta X S G F W M0 H0 → PI X t e (liftI G M0 H0 (wpI F W m))
  | .over a, S, t, e, X, W, h, Z => by
    exact i_over Z (sndE a (show chkE a S e = true from h) Z)
  | .rng1 a, S, t, e, X, W, h, Z => by
    simp only [chkI] at h
    split at h
    · simp only [Bool.and_eq_true, decide_eq_true_eq] at h
      obtain ⟨⟨h1, h2⟩, h3⟩ := h
      subst h1
      exact i_rng1 Z h2 h3 (sndE a h3 Z)
    · cases h
  | .rng2 a b, S, t, e, X, W, h, Z => by
    simp only [chkI] at h
    split at h
    · simp only [Bool.and_eq_true, decide_eq_true_eq] at h
      obtain ⟨⟨⟨h1, h2⟩, h3⟩, h4⟩ := h
      subst h1
      exact i_rng2 Z h2 h3 h4 (sndE a h3 Z) (sndE b h4 Z)
    · cases h
  | .enum a, S, t, e, X, W, h, Z => by
    simp only [chkI] at h
    split at h
    · simp only [Bool.and_eq_true, decide_eq_true_eq] at h
      obtain ⟨⟨⟨h1, h2⟩, h3⟩, h4⟩ := h
      subst h1
      exact i_enum Z h4 h2 h3 (sndE a h3 Z)
    · cases h
  | .zip a b, S, t, e, X, W, h, Z => by
    simp only [chkI] at h
    split at h
    · simp only [Bool.and_eq_true, decide_eq_true_eq] at h
      obtain ⟨⟨⟨⟨h1, h2⟩, h3⟩, h4⟩, h5⟩ := h
      subst h1
      exact i_zip Z h5 h2 h3 h4 (sndE a h3 Z) (sndE b h4 Z)
    · cases h
  | .keys a, S, t, e, X, W, h, Z => by
    exact i_keys Z (sndE a (show chkE a S e = true from h) Z)
  | .items a, S, t, e, X, W, h, Z => by
    simp only [chkI] at h
    split at h
    · rw [Bool.and_eq_true, Bool.and_eq_true, Bool.and_eq_true, Bool.and_eq_true] at h
      obtain ⟨⟨⟨⟨h1, h2⟩, h3⟩, h4⟩, h5⟩ := h
      have e1 := of_decide_eq_true h1
      subst e1
      exact i_items Z h5 h3 h4 (sndE a h2 Z)
    · cases h
  | .v _, S, t, e, X, W, h, Z => Bool.noConfusion (show false = true from h)
  | .g _, S, t, e, X, W, h, Z => Bool.noConfusion (show false = true from h)
  | .int _, S, t, e, X, W, h, Z => Bool.noConfusion (show false = true from h)
  | .str _, S, t, e, X, W, h, Z => Bool.noConfusion (show false = true from h)
  | .bl _, S, t, e, X, W, h, Z => Bool.noConfusion (show false = true from h)
  | .non, S, t, e, X, W, h, Z => Bool.noConfusion (show false = true from h)
  | .bin _ _ _ _, S, t, e, X, W, h, Z => Bool.noConfusion (show false = true from h)
  | .neg _, S, t, e, X, W, h, Z => Bool.noConfusion (show false = true from h)
  | .cmp _ _ _, S, t, e, X, W, h, Z => Bool.noConfusion (show false = true from h)
  | .chain _ _ _ _ _, S, t, e, X, W, h, Z => Bool.noConfusion (show false = true from h)
  | .and _ _, S, t, e, X, W, h, Z => Bool.noConfusion (show false = true from h)
  | .or _ _, S, t, e, X, W, h, Z => Bool.noConfusion (show false = true from h)
  | .one _, S, t, e, X, W, h, Z => Bool.noConfusion (show false = true from h)
  | .not _, S, t, e, X, W, h, Z => Bool.noConfusion (show false = true from h)
  | .tup _, S, t, e, X, W, h, Z => Bool.noConfusion (show false = true from h)
  | .lst _ _, S, t, e, X, W, h, Z => Bool.noConfusion (show false = true from h)
  | .dict _, S, t, e, X, W, h, Z => Bool.noConfusion (show false = true from h)
  | .ix _ _, S, t, e, X, W, h, Z => Bool.noConfusion (show false = true from h)
  | .sl _ _ _ _, S, t, e, X, W, h, Z => Bool.noConfusion (show false = true from h)
  | .nop, S, t, e, X, W, h, Z => Bool.noConfusion (show false = true from h)
  | .fld _ _ _, S, t, e, X, W, h, Z => Bool.noConfusion (show false = true from h)
  | .mcall _ _ _ _ _, S, t, e, X, W, h, Z => Bool.noConfusion (show false = true from h)
  | .make _ _ _, S, t, e, X, W, h, Z => Bool.noConfusion (show false = true from h)
  | .kix _ _ _, S, t, e, X, W, h, Z => Bool.noConfusion (show false = true from h)
  | .disp _ _, S, t, e, X, W, h, Z => Bool.noConfusion (show false = true from h)
  | .sst _ _ _ _ _, S, t, e, X, W, h, Z => Bool.noConfusion (show false = true from h)
  | .call _ _, S, t, e, X, W, h, Z => Bool.noConfusion (show false = true from h)
  | .bi _ _ _, S, t, e, X, W, h, Z => Bool.noConfusion (show false = true from h)
  | .isi _ _, S, t, e, X, W, h, Z => Bool.noConfusion (show false = true from h)
  | .meth _ _ _ _, S, t, e, X, W, h, Z => Bool.noConfusion (show false = true from h)
  | .rg _ _ _ _ _, S, t, e, X, W, h, Z => Bool.noConfusion (show false = true from h)
  | .lc _ _ _ _ _ _, S, t, e, X, W, h, Z => Bool.noConfusion (show false = true from h)
  | .frz _, S, t, e, X, W, h, Z => Bool.noConfusion (show false = true from h)
  | .dict1 _ _, S, t, e, X, W, h, Z => Bool.noConfusion (show false = true from h)
  | .lock _, S, t, e, X, W, h, Z => Bool.noConfusion (show false = true from h)
  | .sortLen _ _, S, t, e, X, W, h, Z => Bool.noConfusion (show false = true from h)
  | .rev _ _, S, t, e, X, W, h, Z => Bool.noConfusion (show false = true from h)
  | .sp _ _ _ _, S, t, e, X, W, h, Z => Bool.noConfusion (show false = true from h)
  | .nil, S, t, e, X, W, h, Z => Bool.noConfusion (show false = true from h)
  | .cons _ _, S, t, e, X, W, h, Z => Bool.noConfusion (show false = true from h)
theorem sndT : ∀ (m : E) {S : Sc} {e : Expr} {X : Cx} {W : WQ}, chkT m S e = true → Sta X S G F W M0 H0 → PG X e (liftT G M0 H0 (slotsT m) (wpT F W m))
  | .v i, S, e, X, W, h, Z => by
    simp only [chkT] at h
    split at h
    · simp only [Bool.and_eq_true, decide_eq_true_eq] at h
      exact g_v Z h.1 h.2
    · cases h
  | .tup es, S, e, X, W, h, Z => by
    simp only [chkT] at h
    split at h
    · exact g_tup Z h (sndTs es h Z)
    · cases h
  | .ix a i, S, e, X, W, h, Z => by
    simp only [chkT] at h
    split at h
    · simp only [Bool.and_eq_true, decide_eq_true_eq] at h
      exact g_ix Z h.2 (sndE a h.1 Z) (sndE i h.2 Z)
    · cases h
  | .g _, S, e, X, W, h, Z => Bool.noConfusion (show false = true from h)
  | .int _, S, e, X, W, h, Z => Bool.noConfusion (show false = true from h)
  | .str _, S, e, X, W, h, Z => Bool.noConfusion (show false = true from h)
  | .bl _, S, e, X, W, h, Z => Bool.noConfusion (show false = true from h)
  | .non, S, e, X, W, h, Z => Bool.noConfusion (show false = true from h)
  | .bin _ _ _ _, S, e, X, W, h, Z => Bool.noConfusion (show false = true from h)
  | .neg _, S, e, X, W, h, Z => Bool.noConfusion (show false = true from h)
  | .cmp _ _ _, S, e, X, W, h, Z => Bool.noConfusion (show false = true from h)
  | .chain _ _ _ _ _, S, e, X, W, h, Z => Bool.noConfusion (show false = true from h)
  | .and _ _, S, e, X, W, h, Z => Bool.noConfusion (show false = true from h)
  | .or _ _, S, e, X, W, h, Z => Bool.noConfusion (show false = true from h)
  | .one _, S, e, X, W, h, Z => Bool.noConfusion (show false = true from h)
  | .not _, S, e, X, W, h, Z => Bool.noConfusion (show false = true from h)
  | .lst _ _, S, e, X, W, h, Z => Bool.noConfusion (show false = true from h)
  | .dict _, S, e, X, W, h, Z => Bool.noConfusion (show false = true from h)
  | .sl _ _ _ _, S, e, X, W, h, Z => Bool.noConfusion (show false = true from h)
  | .nop, S, e, X, W, h, Z => Bool.noConfusion (show false = true from h)
  | .fld _ _ _, S, e, X, W, h, Z => Bool.noConfusion (show false = true from h)
  | .mcall _ _ _ _ _, S, e, X, W, h, Z => Bool.noConfusion (show false = true from h)
  | .make _ _ _, S, e, X, W, h, Z => Bool.noConfusion (show false = true from h)
  | .kix _ _ _, S, e, X, W, h, Z => Bool.noConfusion (show false = true from h)
  | .disp _ _, S, e, X, W, h, Z => Bool.noConfusion (show false = true from h)
  | .sst _ _ _ _ _, S, e, X, W, h, Z => Bool.noConfusion (show false = true from h)
  | .call _ _, S, e, X, W, h, Z => Bool.noConfusion (show false = true from h)
  | .bi _ _ _, S, e, X, W, h, Z => Bool.noConfusion (show false = true from h)
  | .isi _ _, S, e, X, W, h, Z => Bool.noConfusion (show false = true from h)
  | .meth _ _ _ _, S, e, X, W, h, Z => Bool.noConfusion (show false = true from h)
  | .rg _ _ _ _ _, S, e, X, W, h, Z => Bool.noConfusion (show false = true from h)
  | .lc _ _ _ _ _ _, S, e, X, W, h, Z => Bool.noConfusion (show false = true from h)
  | .over _, S, e, X, W, h, Z => Bool.noConfusion (show false = true from h)
  | .rng1 _, S, e, X, W, h, Z => Bool.noConfusion (show false = true from h)
  | .rng2 _ _, S, e, X, W, h, Z => Bool.noConfusion (show false = true from h)
  | .enum _, S, e, X, W, h, Z => Bool.noConfusion (show false = true from h)
  | .zip _ _, S, e, X, W, h, Z => Bool.noConfusion (show false = true from h)
  | .frz _, S, e, X, W, h, Z => Bool.noConfusion (show false = true from h)
  | .dict1 _ _, S, e, X, W, h, Z => Bool.noConfusion (show false = true from h)
  | .lock _, S, e, X, W, h, Z => Bool.noConfusion (show false = true from h)
  | .keys _, S, e, X, W, h, Z => Bool.noConfusion (show false = true from h)
  | .sortLen _ _, S, e, X, W, h, Z => Bool.noConfusion (show false = true from h)
  | .items _, S, e, X, W, h, Z => Bool.noConfusion (show false = true from h)
  | .rev _ _, S, e, X, W, h, Z => Bool.noConfusion (show false = true from h)
  | .sp _ _ _ _, S, e, X, W, h, Z => Bool.noConfusion (show false = true from h)
  | .nil, S, e, X, W, h, Z => Bool.noConfusion (show false = true from h)
  | .cons _ _, S, e, X, W, h, Z => Bool.noConfusion (show false = true from h)
theorem sndTs : ∀ (m : E) {S : Sc} {e : List Expr} {X : Cx} {W : WQ}, chkTs m S e = true → Sta X S G F W M0 H0 → PGs X e (liftTs G M0 H0 (slotsT m) (wpTs F W m))
  | .nil, S, e, X, W, h, Z => by
    cases e with
    | nil => exact g_nil
    | cons x xs => exact Bool.noConfusion (show false = true from h)
  | .cons a es, S, e, X, W, h, Z => by
    cases e with
    | nil => exact Bool.noConfusion (show false = true from h)
    | cons x xs =>
      have h : (chkT a S x && chkTs es S xs) = true := h
      rw [Bool.and_eq_true] at h
      exact g_cons h.1 (sndT a h.1 Z) (sndTs es h.2 Z)
  | .v _, S, e, X, W, h, Z => Bool.noConfusion (show false = true from h)
  | .g _, S, e, X, W, h, Z => Bool.noConfusion (show false = true from h)
  | .int _, S, e, X, W, h, Z => Bool.noConfusion (show false = true from h)
  | .str _, S, e, X, W, h, Z => Bool.noConfusion (show false = true from h)
  | .bl _, S, e, X, W, h, Z => Bool.noConfusion (show false = true from h)
  | .non, S, e, X, W, h, Z => Bool.noConfusion (show false = true from h)
  | .bin _ _ _ _, S, e, X, W, h, Z => Bool.noConfusion (show false = true from h)
  | .neg _, S, e, X, W, h, Z => Bool.noConfusion (show false = true from h)
  | .cmp _ _ _, S, e, X, W, h, Z => Bool.noConfusion (show false = true from h)
  | .chain _ _ _ _ _, S, e, X, W, h, Z => Bool.noConfusion (show false = true from h)
  | .and _ _, S, e, X, W, h, Z => Bool.noConfusion (show false = true from h)
  | .or _ _, S, e, X, W, h, Z => Bool.noConfusion (show false = true from h)
  | .one _, S, e, X, W, h, Z => Bool.noConfusion (show false = true from h)
  | .not _, S, e, X, W, h, Z => Bool.noConfusion (show false = true from h)
  | .tup _, S, e, X, W, h, Z => Bool.noConfusion (show false = true from h)
  | .lst _ _, S, e, X, W, h, Z => Bool.noConfusion (show false = true from h)
  | .dict _, S, e, X, W, h, Z => Bool.noConfusion (show false = true from h)
  | .ix _ _, S, e, X, W, h, Z => Bool.noConfusion (show false = true from h)
  | .sl _ _ _ _, S, e, X, W, h, Z => Bool.noConfusion (show false = true from h)
  | .nop, S, e, X, W, h, Z => Bool.noConfusion (show false = true from h)
  | .fld _ _ _, S, e, X, W, h, Z => Bool.noConfusion (show false = true from h)
  | .mcall _ _ _ _ _, S, e, X, W, h, Z => Bool.noConfusion (show false = true from h)
  | .make _ _ _, S, e, X, W, h, Z => Bool.noConfusion (show false = true from h)
  | .kix _ _ _, S, e, X, W, h, Z => Bool.noConfusion (show false = true from h)
  | .disp _ _, S, e, X, W, h, Z => Bool.noConfusion (show false = true from h)
  | .sst _ _ _ _ _, S, e, X, W, h, Z => Bool.noConfusion (show false = true from h)
  | .call _ _, S, e, X, W, h, Z => Bool.noConfusion (show false = true from h)
  | .bi _ _ _, S, e, X, W, h, Z => Bool.noConfusion (show false = true from h)
  | .isi _ _, S, e, X, W, h, Z => Bool.noConfusion (show false = true from h)
  | .meth _ _ _ _, S, e, X, W, h, Z => Bool.noConfusion (show false = true from h)
  | .rg _ _ _ _ _, S, e, X, W, h, Z => Bool.noConfusion (show false = true from h)
  | .lc _ _ _ _ _ _, S, e, X, W, h, Z => Bool.noConfusion (show false = true from h)
  | .over _, S, e, X, W, h, Z => Bool.noConfusion (show false = true from h)
  | .rng1 _, S, e, X, W, h, Z => Bool.noConfusion (show false = true from h)
  | .rng2 _ _, S, e, X, W, h, Z => Bool.noConfusion (show false = true from h)
  | .enum _, S, e, X, W, h, Z => Bool.noConfusion (show false = true from h)
  | .zip _ _, S, e, X, W, h, Z => Bool.noConfusion (show false = true from h)
  | .frz _, S, e, X, W, h, Z => Bool.noConfusion (show false = true from h)
  | .dict1 _ _, S, e, X, W, h, Z => Bool.noConfusion (show false = true from h)
  | .lock _, S, e, X, W, h, Z => Bool.noConfusion (show false = true from h)
  | .keys _, S, e, X, W, h, Z => Bool.noConfusion (show false = true from h)
  | .sortLen _ _, S, e, X, W, h, Z => Bool.noConfusion (show false = true from h)
  | .items _, S, e, X, W, h, Z => Bool.noConfusion (show false = true from h)
  | .rev _ _, S, e, X, W, h, Z => Bool.noConfusion (show false = true from h)
  | .sp _ _ _ _, S, e, X, W, h, Z => Bool.noConfusion (show false = true from h)
end
end
end Ev

/-! Ev, part M: statements. -/
namespace Ev
open PySem PySem.Spec PyProof.Rows L2

def isNm : Expr → Bool
  | .Name .. => true
  | _ => false
/-- no two or three names at once from as many values -/
def stB : Expr → Expr → Bool
  | .Tuple ts _ _, .Tuple _ _ _ => !(ts.length == 2 || ts.length == 3) || ts.any fun t => !isNm t
  | .List .., .Tuple .. => false
  | _, _ => true
def isLc : E → Bool
  | .lc .. => true
  | _ => false
/-- name = [..] on one line, the name a local of its own -/
def swB (S : Sc) : Expr → Expr → Bool
  | .Name y py, .ListComp _ _ scope p => decide (S.sc.kind = .function) && decide (S.sc.names.lookup y = some .local) && (py.line == p.line) && !(scope.names.any fun (n, k) => n == y && (k == .local || k == .cell))
  | _, _ => false
/-- surely none of these -/
def swN (S : Sc) : Expr → Expr → Bool
  | .Name y py, .ListComp _ _ scope p => !decide (S.sc.names.lookup y = some .local) || !(py.line == p.line) || (scope.names.any fun (n, k) => n == y && (k == .local || k == .cell))
  | _, .SetComp .. => false
  | _, .DictComp .. => false
  | _, _ => true
def noComp : Expr → Bool
  | .ListComp .. => false
  | .SetComp .. => false
  | .DictComp .. => false
  | _ => true
/-- isinstance(n, A) -> A -/
def isCls (n : Str) : Expr → Option Str
  | .Call (.Name x _) [.Name y _, .Name a _] [] _ => if x = "isinstance" ∧ y = n then some a else none
  | _ => none
def isClss (n : Str) : List Expr → Option (List Str)
  | [] => some []
  | e :: es => match isCls n e, isClss n es with
    | some a, some r => some (a :: r)
    | _, _ => none
mutual
def chkS : S → Sc → Stmt → Bool
  | .asg tg e, S, st => match st with | .Assign [t] v _ => chkT tg S t && chkE e S v && stB t v && ((swB S t v && isLc e) || swN S t v) | _ => false
  | .aug op tg e, S, st => match st with | .AugAssign t op' v _ => decide (op = op') && decide (op = .Add) && chkT tg S t && chkE e S v | _ => false
  | .expr e, S, st => match st with | .Expr v _ => chkE e S v && noComp v | _ => false
  | .ret e, S, st => match st with | .Return (some v) _ => chkE e S v | _ => false
  | .retN, _, st => match st with | .Return none _ => true | _ => false
  | .pass, _, st => match st with | .Pass _ => true | _ => false
  | .ite c a b, S, st => match st with | .If x l r _ => chkE c S x && chkSs a S l && chkSs b S r | _ => false
  | .forS tg it b, S, st => match st with | .For t i l [] _ => chkT tg S t && chkI it S t i && chkSs b S l | _ => false
  | .whileS c b, S, st => match st with | .While x l [] _ => chkE c S x && chkSs b S l | _ => false
  | .raise c, S, st => match st with | .Raise (some (.Call (.Name x _) [.Constant (.str _) _ _] [] _)) none _ => decide (x = c) && glB S x && decide (c ∈ S.cx.xs) && S.top | _ => false
  | .setF c f o e, S, st => match st with | .Assign [.Attribute x g ap] v _ => decide (g = f) && decide ((c, f) ∈ S.cx.fl) && chkE o S x && chkE e S v && swN S (.Attribute x g ap) v | _ => false
  | .tryB i f es c ys, S, st => match st with
    | .Try [.Expr (.Call (.Name g _) (a0 :: args) [] _) _] [.ExceptHandler (some (.Name x _)) none [.Assign [.Name y _] (.Constant (.bool true) _ _) _] _] [] [] _ =>
      decide (g = f) && glB S g && decide (f ∈ S.fs) && chkA es { S with top := false } (a0 :: args) && decide (x = c) && glB S x && decide ((c, ys) ∈ S.cx.ca) && decide (S.N[i]? = some y) && S.wr y && S.top
    | _ => false
  | .tryF i j f es c ys cs, S, st => match st with
    | .Try [.Expr (.Call (.Name g _) (a0 :: args) [] _) _] [.ExceptHandler (some (.Name x _)) (some n) [.Assign [.Name y1 _] (.List l1 _) _, .Assign [.Name y2 _] (.BinOp (.Name z2 _) .Add (.List l2 _) _) _, .Assign [.Name y3 _] (.BinOp (.Name z3 _) .Add (.List l3 _) _) _,
        .Expr (.Call (.Attribute (.Name z4 _) ap apos) [.UnaryOp .Not (.Call (.Name iv _) [.Name n4 _, .Name ve _] [] _) _] [] cpos) _] _] [] [] _ =>
      decide (g = f) && glB S g && decide (f ∈ S.fs) && chkA es { S with top := false } (a0 :: args) && decide (x = c) && glB S x && decide ((c, ys) ∈ S.cx.ca) && visB S i y1 && S.wr y1 && S.top &&
      decide (y2 = y1 ∧ y3 = y1 ∧ z2 = y1 ∧ z3 = y1 ∧ z4 = y1 ∧ n4 = n ∧ ap = "append" ∧ iv = "isinstance" ∧ ve = "ValueError" ∧ i ≠ j) && visB S j n && decide (S.sc.names.lookup n = some .local) && glB S "isinstance" && glB S "ValueError" &&
      decide (isClss n l1 = some (cs.take l1.length)) && decide (isClss n l2 = some ((cs.drop l1.length).take l2.length)) && decide (isClss n l3 = some (cs.drop (l1.length + l2.length))) && (apos.endLine == cpos.line) && cs.all (fun a => glB S a && ys.all fun y => decide ((y, a) ∈ S.cx.is)) && decide (cs.length < 100)
    | _ => false
  | .nil, _, _ => false
  | .cons _ _, _, _ => false
  | .scope _, _, _ => false
  | .fix _, _, _ => false
def chkSs : S → Sc → List Stmt → Bool
  | .nil, _, l => match l with | [] => true | _ => false
  | .cons (.fix _) r, S, l => chkSs r S l
  | .cons s r, S, l => match l with | x :: xs => chkS s S x && chkSs r S xs | _ => false
  | .scope s, S, l => chkSs s S l
  | _, _, _ => false
end

def liftS (G : Gx) (M0 : Mem) (H0 : Hp) (ts : Env → Mem → Qs → Prop) : TS := fun D σV H => ∃ σ M q, Stt G M0 H0 σ M σV H ∧ ts σ M q ∧
  (∀ σ' M' σV' H', q.nx σ' M' → RepS G M' H' σ' σV' → OkM G M' H' → Ext M H M' H' → D.nx σV' H') ∧ (∀ d M' v H', q.rt d M' → OkM G M' H' → Rep G M' H' d v → Ext M H M' H' → D.rt v H')
section
variable {X : Cx} {S : Sc} {G : Gx} {F : Fx} {W : WQ} {M0 : Mem} {H0 : Hp} {m m2 m3 : E} {b b2 : Ev.S}
theorem b_nil : PSs X [] (liftS G M0 H0 (wpS F W .nil)) := PSs.imp pss_nil fun D σ H ⟨σD, M, q, s, w, zn, zr⟩ => zn _ _ _ _ w s.2.1 s.2.2 Ext.refl
theorem b_cons {x : Stmt} {xs : List Stmt} (h1 : PS X x (liftS G M0 H0 (wpS F W b))) (h2 : PSs X xs (liftS G M0 H0 (wpS F W b2))) : PSs X (x :: xs) (liftS G M0 H0 (wpS F W (.cons b b2))) := by
  refine PSs.imp (pss_cons h1 h2) fun D σ H ⟨σD, M, q, s, w, zn, zr⟩ => ?_
  refine ⟨σD, M, _, s, w, fun σ' M' σV' H' w' rs ok e => ?_, zr⟩
  exact ⟨σ', M', q, ⟨s.1.trans e, rs, ok⟩, w', fun σ2 M2 σV2 H2 a b c d => zn _ _ _ _ a b c (e.trans d), fun d M2 v H2 a b c k => zr _ _ _ _ a b c (e.trans k)⟩
theorem b_fix {i : Nat} {xs : List Stmt} (h : PSs X xs (liftS G M0 H0 (wpS F W b))) : PSs X xs (liftS G M0 H0 (wpS F W (.cons (.fix i) b))) := by
  refine PSs.imp h fun D σ H ⟨σD, M, q, s, ⟨d, P, d', hd, f, w⟩, zn, zr⟩ => ?_
  refine ⟨σD.set i (some d'), restr P M, _, ⟨s.1.trans restr_ext, ?_, restr_ok s.2.2⟩, w, fun σ2 M2 σV2 H2 a b c e => zn _ _ _ _ a b c (restr_ext.trans e), fun d M2 v H2 a b c e => zr _ _ _ _ a b c (restr_ext.trans e)⟩
  have rs := s.2.1.ext (restr_ext (M := P))
  obtain ⟨v, hv, rv⟩ := s.2.1.2 i d hd
  refine ⟨by rw [List.length_set]; exact rs.1, fun j x hx => ?_⟩
  by_cases e : i = j
  · subst e
    rw [List.getElem?_set_self (List.getElem?_eq_some_iff.mp hd).1] at hx
    cases hx
    exact ⟨v, hv, frz_rep s.2.2 f rv⟩
  · rw [List.getElem?_set_ne e] at hx
    exact rs.2 j x hx
theorem b_scope {xs : List Stmt} (h : PSs X xs (liftS G M0 H0 (wpS F W b))) : PSs X xs (liftS G M0 H0 (wpS F W (.scope b))) := by
  refine PSs.imp h fun D σ H ⟨σD, M, q, s, w, zn, zr⟩ => ?_
  refine ⟨σD, M, _, s, w, fun σ' M' σV' H' w' rs ok e => ?_, fun d M' v H' w' ok r e => ?_⟩
  · exact zn σ' _ σV' H' w' (rs.ext restr_ext) (restr_ok ok) (restr_from e)
  · exact zr d _ v H' w' (restr_ok ok) (r.ext restr_ext) (restr_from e)
theorem b_expr (h : PE X e (lift G M0 H0 (wpE F W m))) (hs : swapsWith e none pos.line X.env = pure false) : PS X (.Expr e pos) (liftS G M0 H0 (wpS F W (.expr m))) :=
  PS.imp (ps_expr h hs) fun D σ H ⟨σD, M, q, s, w, zn, zr⟩ => ⟨σD, M, _, s, w, fun d M' v H' w' ok r e => zn _ _ _ _ w' (s.2.1.ext e) ok e⟩
theorem b_ret {e : Expr} {pos : Pos} (h : PE X e (lift G M0 H0 (wpE F W m))) : PS X (.Return (some e) pos) (liftS G M0 H0 (wpS F W (.ret m))) :=
  PS.imp (ps_ret h) fun D σ H ⟨σD, M, q, s, w, zn, zr⟩ => ⟨σD, M, _, s, w, fun d M' v H' w' ok r e => zr _ _ _ _ w' ok r e⟩
theorem b_retN {pos : Pos} : PS X (.Return none pos) (liftS G M0 H0 (wpS F W .retN)) := PS.imp ps_retN fun D σ H ⟨σD, M, q, s, w, zn, zr⟩ => zr _ _ _ _ w s.2.2 rfl Ext.refl
theorem b_pass {pos : Pos} : PS X (.Pass pos) (liftS G M0 H0 (wpS F W .pass)) := PS.imp ps_pass fun D σ H ⟨σD, M, q, s, w, zn, zr⟩ => zn _ _ _ _ w s.2.1 s.2.2 Ext.refl
theorem b_if {c : Expr} {l r : List Stmt} {pos : Pos} (hc : PT X c (liftB G M0 H0 (wpB F W m))) (ha : PSs X l (liftS G M0 H0 (wpS F W b))) (hb : PSs X r (liftS G M0 H0 (wpS F W b2))) : PS X (.If c l r pos) (liftS G M0 H0 (wpS F W (.ite m b b2))) := by
  refine PS.imp (ps_if hc ha hb) fun D σ H ⟨σD, M, q, s, w, zn, zr⟩ => ?_
  refine ⟨σD, M, _, s, w, fun k M1 H1 w1 ok1 e1 => ?_⟩
  have tail : ∀ ts : Env → Mem → Qs → Prop, ts σD M1 q → liftS G M0 H0 ts D σ H1 := fun ts w2 =>
    ⟨σD, M1, q, s.ext e1 ok1, w2, fun σ2 M2 σV2 H2 a b c d => zn _ _ _ _ a b c (e1.trans d), fun d M2 v H2 a b c k => zr _ _ _ _ a b c (e1.trans k)⟩
  cases k with
  | true => exact iteT (tail _ (of_iteT w1))
  | false => exact iteF (tail _ (of_iteF w1))
theorem b_for (Z : Sta X S G F W M0 H0) {tg it : Expr} {body : List Stmt} {pos : Pos} (hi : PI X tg it (liftI G M0 H0 (wpI F W m2))) (hg : PG X tg (liftT G M0 H0 (slotsT m) (wpT F W m))) (hb : PSs X body (liftS G M0 H0 (wpS F W b)))
    (hf : ∀ x, foldedSetIterable it X.env x = pure x) : PS X (.For tg it body [] pos) (liftS G M0 H0 (wpS F W (.forS m m2 b))) := by
  refine PS.imp (ps_for Z.own Z.calm hi hg hb hf) fun D σ H ⟨σD, M, q, s, w, zn, zr⟩ => ?_
  refine ⟨σD, M, _, s, w, fun ds still M1 J H1 w1 ok1 e1 jok => ?_⟩
  refine ⟨fun i k σ2 H2 => ∃ σD2 M2, k = ds.length - i ∧ i ≤ ds.length ∧ RepS G M2 H2 σD2 σ2 ∧ OkM G M2 H2 ∧ Ext M1 H1 M2 H2 ∧ loopQ _ still (ds.drop i) σD2 M2 q.nx,
    ⟨_, σD, M1, rfl, Nat.zero_le _, s.2.1.ext e1, ok1, Ext.refl, w1⟩, ?_⟩
  rintro i k σ2 H2 ⟨σD2, M2, rfl, hi, rs2, ok2, e2, w2⟩
  have s0 := s.1.trans e1
  by_cases hlt : i < ds.length
  · have hd : ds[i]? = some ds[i] := List.getElem?_eq_getElem hlt
    rw [List.drop_eq_getElem_cons hlt] at w2
    obtain ⟨st, w2⟩ := w2
    obtain ⟨go, yld⟩ := (jok i M2 H2 e2 ok2 st).1 _ hd
    refine .inr ⟨go, _, fun σ' H' nx => nx, fun x H' hy => ?_⟩
    obtain ⟨e3, ok3, rx⟩ := yld x H' hy
    have e13 := e2.trans e3
    refine ⟨_, σD2, M2, _, rx, ⟨s0.trans e13, rs2.ext e3, ok3⟩, w2, fun σ4 M4 σV4 H4 w4 rs4 ok4 e4 _ => ?_⟩
    refine ⟨σ4, M4, _, ⟨(s0.trans e13).trans e4, rs4, ok4⟩, w4, fun σ5 M5 σV5 H5 w5 rs5 ok5 e5 => ?_, fun d M5 v H5 w5 ok5 r5 e5 => ?_⟩
    · exact ⟨ds.length - (i + 1), by omega, σ5, M5, rfl, hlt, rs5, ok5, (e13.trans e4).trans e5, w5⟩
    · exact zr _ _ _ _ w5 ok5 r5 (e1.trans ((e13.trans e4).trans e5))
  · have e : i = ds.length := by omega
    subst e
    rw [List.drop_length] at w2
    obtain ⟨st, w2⟩ := w2
    exact .inl ⟨(jok _ M2 H2 e2 ok2 st).2 rfl, zn _ _ _ _ w2 rs2 ok2 (e1.trans e2)⟩
theorem b_while (Z : Sta X S G F W M0 H0) {c : Expr} {body : List Stmt} {pos : Pos} (hc : PT X c (liftB G M0 H0 (wpB F W m))) (hb : PSs X body (liftS G M0 H0 (wpS F W b))) : PS X (.While c body [] pos) (liftS G M0 H0 (wpS F W (.whileS m b))) := by
  refine PS.imp (ps_while Z.own hc hb) fun D σ H ⟨σD, M, q, s, ⟨n, w⟩, zn, zr⟩ => ?_
  refine ⟨fun k σ2 H2 => ∃ σD2 M2, RepS G M2 H2 σD2 σ2 ∧ OkM G M2 H2 ∧ Ext M H M2 H2 ∧ whileQ _ _ q.nx k σD2 M2, ⟨n, σD, M, s.2.1, s.2.2, Ext.refl, w⟩, ?_⟩
  rintro k σ2 H2 ⟨σD2, M2, rs2, ok2, e2, w2⟩
  cases k with
  | zero => exact w2.elim
  | succ k =>
    refine ⟨σD2, M2, _, ⟨s.1.trans e2, rs2, ok2⟩, w2, fun t M3 H3 w3 ok3 e3 => ?_⟩
    cases t with
    | true =>
      refine iteT ⟨_, fun σ' H' nx => nx, σD2, M3, _, ⟨(s.1.trans e2).trans e3, rs2.ext e3, ok3⟩, of_iteT w3, fun σ4 M4 σV4 H4 w4 rs4 ok4 e4 => ?_, fun d M4 v H4 w4 ok4 r4 e4 => zr _ _ _ _ w4 ok4 r4 ((e2.trans e3).trans e4)⟩
      exact ⟨k, Nat.lt_succ_self k, σ4, M4, rs4, ok4, (e2.trans e3).trans e4, w4⟩
    | false => exact iteF (zn _ _ _ _ (of_iteF w3) (rs2.ext e3) ok3 (e2.trans e3))
theorem b_asg {t v : Expr} {pos : Pos} (he : PE X v (lift G M0 H0 (wpE F W m2))) (hg : PG X t (liftT G M0 H0 (slotsT m) (wpT F W m))) (hs : swapsWithSole [t] v pos.line X.env = pure false) (hw : swappedStores [t] v X.env = pure none)
    (h1 : (assignEach [t] X.env).map (·.2) = [assign t X.env]) : PS X (.Assign [t] v pos) (liftS G M0 H0 (wpS F W (.asg m m2))) := by
  refine PS.imp (ps_asg he hg hs hw h1) fun D σ H ⟨σD, M, q, s, w, zn, zr⟩ => ?_
  refine ⟨σD, M, _, s, w, fun d M1 v H1 w1 ok1 r1 e1 => ?_⟩
  exact ⟨d, σD, M1, _, r1, s.ext e1 ok1, w1, fun σ' M' σV' H' a b c k _ => zn _ _ _ _ a b c (e1.trans k)⟩
def rIAdd : R2 := fun x y H Q => rI0 (fun i j => .int (i + j)) x y H Q ∨ ∃ i j, x = .str i ∧ y = .str j ∧ i.length + j.length ≤ sizeLine ∧ Q (.str (i ++ j)) H
theorem ip_addAll : PIp X .Add rIAdd := iop_add.or iop_add_str
theorem iadd_ok {M : Mem} {H : Hp} {x y : D} {xv yv : V} {Q0 : VQ} {Q : VK} (ok : OkM G M H) (fx : flatD x = true) (rx : Rep G M H x xv) (ry : Rep G M H y yv) (h : binQ .Add false M x y Q0) (z : Rz G M H Q0 Q) : rIAdd xv yv H Q := by
  rcases bin_ok ok rx ry h z with h' | h' | h' | h'
  · exact .inl h'
  · exact .inr h'
  · obtain ⟨a, _, _, _, e, _⟩ := h'
    subst e
    cases x <;> first | (simp [flatD] at fx; done) | (cases (show V.ref a = _ from rx))
  · obtain ⟨a, _, _, _, e, _⟩ := h'
    subst e
    cases x <;> first | (simp [flatD] at fx; done) | (cases (show V.ref a = _ from rx))
theorem b_aug (Z : Sta X S G F W M0 H0) {i : Nat} {x : Str} {v : Expr} {pos pos' : Pos} (hi : S.N[i]? = some x) (hw : S.wr x = true) (he : PE X v (lift G M0 H0 (wpE F W m2))) :
    PS X (.AugAssign (.Name x pos') .Add v pos) (liftS G M0 H0 (wpS F W (.aug .Add (.v i) m2))) := by
  obtain ⟨h1, h2⟩ := Z.wr x hw
  refine PS.imp (ps_aug (by rw [Z.N]; exact Z.nd) (by rw [Z.N]; exact hi) h1 he ip_addAll h2) fun D σ H ⟨σD, M, q, s, ⟨d, ed, fd, w⟩, zn, zr⟩ => ?_
  obtain ⟨xv, ev, rx⟩ := s.2.1.2 i d ed
  refine ⟨xv, ev, σD, M, _, s, w, fun y M1 yv H1 w1 ok1 ry e1 => ?_⟩
  refine iadd_ok ok1 fd (rx.ext e1) ry w1 fun r M2 rv H2 w2 ok2 rr e2 => ?_
  exact zn _ _ _ _ w2 ((s.2.1.ext (e1.trans e2)).set rr) ok2 (e1.trans e2)
theorem b_augS (Z : Sta X S G F W M0 H0) {o i v : Expr} {pos tpos : Pos} (hk : chkE m3 S i = true) (ho : PE X o (lift G M0 H0 (wpE F W m))) (hi : PE X i (lift G M0 H0 (wpE F W m3))) (he : PE X v (lift G M0 H0 (wpE F W m2))) :
    PS X (.AugAssign (.Subscript o i tpos) .Add v pos) (liftS G M0 H0 (wpS F W (.aug .Add (.ix m m3) m2))) := by
  have ha : ∀ ov iv new, augStore i ov iv new = (do holding [new, ov, iv] (setItem ov iv new); release [new, ov, iv] []; pure .next) := fun _ _ _ => by
    cases i with
    | Slice x y z p => rw [chk_slice] at hk; cases hk
    | _ => rfl
  have hu := Z.hu
  refine PS.imp (ps_augS ho hi (pget_all (by omega)) he ip_addAll (pset_all (by omega)) ha) fun D σ H ⟨σD, M, q, s, w, zn, zr⟩ => ?_
  refine ⟨σD, M, _, s, w, fun x M1 xv H1 w1 ok1 rx e1 => ?_⟩
  have s1 := s.ext e1 ok1
  refine ⟨σD, M1, _, s1, w1, fun y M2 yv H2 ⟨hx, w2⟩ ok2 ry e2 => ?_⟩
  have s2 := s1.ext e2 ok2
  rw [Z.K]; (try rw [Z.P, Z.w])
  refine get_ok ok2 (rx.ext e2) ry hx w2 fun zd M3 zv H3 w3 ok3 rz e3 => ?_
  refine ⟨σD, M3, _, s2.ext e3 ok3, w3, fun u M4 uv H4 ⟨fz, w4⟩ ok4 ru e4 => ?_⟩
  refine iadd_ok ok4 fz (rz.ext e4) ru w4 fun r M5 rv H5 w5 ok5 rr e5 => ?_
  refine set_ok ok5 (rx.ext (e2.trans (e3.trans (e4.trans e5)))) (ry.ext (e3.trans (e4.trans e5))) rr w5 fun M6 H6 w6 ok6 e6 => ?_
  have e := e1.trans (e2.trans (e3.trans (e4.trans (e5.trans e6))))
  exact zn _ _ _ _ w6 (s.2.1.ext e) ok6 e
theorem b_setF (Z : Sta X S G F W M0 H0) {c f : Str} {o v : Expr} {ap pos : Pos} (hf : (c, f) ∈ S.cx.fl) (ho : PE X o (lift G M0 H0 (wpE F W m))) (hv : PE X v (lift G M0 H0 (wpE F W m2))) (hs : swapsWith v (some (.Attribute o f ap)) pos.line X.env = pure false) :
    PS X (.Assign [.Attribute o f ap] v pos) (liftS G M0 H0 (wpS F W (.setF c f m m2))) := by
  obtain ⟨C, hC, hc, hno⟩ := Z.fl _ hf
  refine PS.imp (ps_fld ho hv hs) fun D σ H ⟨σD, M, q, s, w, zn, zr⟩ => ?_
  refine ⟨σD, M, _, s, w, fun d M1 dv H1 w1 ok1 rd e1 => ⟨σD, M1, _, s.ext e1 ok1, w1, fun x M2 xv H2 ⟨p, fs, e, hm, hl, w2⟩ ok2 rx e2 => ?_⟩⟩
  subst e
  have e : xv = .ref p := rx
  subst e
  obtain ⟨u, qu, C', dx, vs, eu, hC', rk⟩ := ok2 p _ hm
  subst eu
  rw [hC] at hC'
  cases hC'
  rw [Z.K]
  have rk2 : RepK G M2 H2 (putD f d fs) (putF f dv vs) := repK_put (rd.ext e2) rk
  have ok3 : OkM G (mput M2 p (.ins c (putD f d fs))) (upd H2 p (.ins C dx (putF f dv vs))) := ok2.write hm ⟨C, dx, _, rfl, hC, rk2⟩
  have e3 := (e1.trans e2).trans (Ext.write (u := .ins C dx (putF f dv vs)) (o' := .ins c (putD f d fs)) hm)
  exact ⟨p, C, dx, vs, rfl, qu, hc, hno, by rw [← repK_length rk]; exact hl, zn _ _ _ _ w2 (s.2.1.ext e3) ok3 e3⟩
theorem b_raise (Z : Sta X S G F W M0 H0) (ht : S.top = true) {c t : Str} {k : Nat} {p p2 pos pos' : Pos} (hg : glB S c = true) (hx : c ∈ S.cx.xs) : PS X (.Raise (some (.Call (.Name c p) [.Constant (.str t) k p2] [] pos')) none pos) (liftS G M0 H0 (wpS F W (.raise c))) := by
  obtain ⟨C, hC, hm, h1, h2, h3, h4⟩ := Z.xs c hx
  obtain ⟨g, nd⟩ := Z.gl_of hg
  refine PS.imp (ps_raise Z.calm (Z.tk ht) (pmk_own PySem.F.excBase_ValueError (by rw [Z.K]; exact h1) hm (by rw [Z.K]; exact h2) (raises_own (by rw [Z.K]; exact h3) (by rw [Z.K]; exact h4)) g nd)) fun D σ H ⟨σD, M, q, s, w, zn, zr⟩ => ?_
  exact ⟨c, C, M, w, hC, rfl, rfl, s.2.2, s.1⟩
/-! ### try -/
theorem Sta.tr (Z : Sta X S G F W M0 H0) {pn : List (Addr × Obj)} {xe : Value → Shared → Prop} (ho : PassesOwn (model X.prog X.w) X.A X.env xe) : Sta (X.tr pn xe) { S with top := false } G F W0 M0 H0 where
  N := Z.N
  nd := Z.nd
  sc := Z.sc
  calm := Z.calm
  K := Z.K
  P := Z.P
  w := Z.w
  wr := Z.wr
  bn := Z.bn
  gl := Z.gl
  fns := fun f hf => let ⟨h⟩ := Z.fns f hf; ⟨h⟩
  pass := passes_call takes0 fun cls d σ H ⟨_, _, _, h, _⟩ => h
  own := ho
  hu := Z.hu
  ms := Z.ms
  nw := Z.nw
  fl := Z.fl
  xs := Z.xs
  kd := Z.kd
  ca := Z.ca
  is := Z.is
  tk := fun h => nomatch h
  stk := fun h => nomatch h
theorem b_tryB (Z : Sta X S G F W M0 H0) (ht : S.top = true) {i : Nat} {f c y : Str} {ys : List Str} {a0 : Expr} {args : List Expr} {p1 p2 p3 p4 p5 p6 p7 p8 pos : Pos} {kc : Nat} (hg : glB S f = true) (hf : f ∈ S.fs) (hk : chkA m { S with top := false } (a0 :: args) = true)
    (ha : ∀ (Y : Cx), Sta Y { S with top := false } G F W0 M0 H0 → PA Y (a0 :: args) (liftA G M0 H0 (wpA F W0 m)))
    (hgc : glB S c = true) (hca : (c, ys) ∈ S.cx.ca) (hi : S.N[i]? = some y) (hw : S.wr y = true) :
    PS X (.Try [.Expr (.Call (.Name f p1) (a0 :: args) [] p2) p3] [.ExceptHandler (some (.Name c p4)) none [.Assign [.Name y p5] (.Constant (.bool true) kc p6) p7] p8] [] [] pos) (liftS G M0 H0 (wpS F W (.tryB i f m c ys))) := by
  obtain ⟨k, fa, fd, ps, sp, FO, hr, hm, hkp, hb, hsp⟩ := (Z.fns f hf).ex
  obtain ⟨g, nd⟩ := Z.gl_of hg
  obtain ⟨gc, ndc⟩ := Z.gl_of hgc
  obtain ⟨CA, hmc, hys⟩ := Z.ca _ hca
  obtain ⟨m1, m2', e, k1, k2⟩ := args_of hk
  obtain ⟨w1, w2⟩ := Z.wr y hw
  have hsu : ∀ (a : Addr) (oe : Obj) (cls : Value) (d : Option Addr) (pn : List (Addr × Obj)), Zc cls d oe → (∃ vs, oe.data = .fields vs) →
      PSs (X.suite a ((a, oe) :: pn)) [.Assign [.Name y p5] (.Constant (.bool true) kc p6) p7] (fun D σ H => D.nx (σ.set i (some (.bl true))) H) := fun a oe cls d pn hz hv =>
    pss_one (PS.imp (ps_asg (pe_bl (b := true)) (pg_name (i := i) (by show X.N.Nodup; rw [Z.N]; exact Z.nd) (by show X.N[i]? = _; rw [Z.N]; exact hi) w1 w2)) fun D σ H q => q)
  refine PS.imp (ps_try_only (tb := fun W' D σ H => tCallS sp (WE W') (liftA G M0 H0 (wpA F W0 m)) σ H fun _ H' => D.nx σ H') (Z.stk ht).1 (Z.stk ht).2 ⟨gc, ndc, .inl hmc⟩ (Z.tk ht) (fun W' pn xe tk ho => ?_) hsu) fun D σ H ⟨σD, M, q, s, w, zn, zr⟩ => ?_
  · exact pss_one (PS.imp (ps_expr (pe_callS (X := X.tr pn xe) FO hr g hm hkp hb (fun σ => passAt tk σ) (ha _ (Z.tr ho)) nd (star_cons k1) (star_false m2' k2))) fun D σ H q => q)
  · refine ⟨σD, M, _, s, w, fun ds M1 vs H1 q1 ok1 rl e1 => ?_⟩
    refine hsp ds M1 _ vs H1 _ _ _ q1 ok1 rl (fun d M' v H' hq ok r e => zn _ _ _ _ hq (s.2.1.ext (e1.trans e)) ok (e1.trans e)) fun c' M' H' hw ok' e' C hC => ?_
    obtain ⟨hy, hq⟩ := hw
    obtain ⟨Y, hY, hex, _⟩ := hys c' hy
    rw [hC] at hY
    cases hY
    refine ⟨true, by rw [Z.K]; exact hex, fun _ a ha => ?_, fun h => nomatch h⟩
    exact zn _ _ _ _ hq ((s.2.1.ext (e1.trans e')).set rfl) ok' (e1.trans e')
/-! the suite of the other try: isinstance of the one exception -/
theorem vis_parts {S : Sc} {i : Nat} {x : Str} (h : visB S i x = true) : S.N[i]? = some x ∧ (S.sc.names.lookup x = some .local ∨ S.sc.names.lookup x = some .cell ∨ S.sc.names.lookup x = some .free) ∧ (x == ("__debug__" : Str)) = false ∧ (x == ("__classdict__" : Str)) = false := by
  unfold visB at h
  simp only [Bool.and_eq_true] at h
  obtain ⟨⟨⟨h1, h2⟩, h3⟩, h4⟩ := h
  refine ⟨of_decide_eq_true h1, ?_, ne_dbg h3, by simpa using h4⟩
  split at h2 <;> first | exact .inl (by assumption) | exact .inr (.inl (by assumption)) | exact .inr (.inr (by assumption)) | cases h2
section
variable {a Y : Addr} {oe : Obj} {pn : List (Addr × Obj)} {y n : Str} {i j : Nat}
theorem pe_isE (Z : Sta X S G F W M0 H0) (EC : ExcC X.K Y) (hz : Zc (.ref Y) none oe) (hf : ∃ vs, oe.data = .fields vs) (hn : visB S j n = true) (hg : glB S "isinstance" = true) {A : Str} {e : Expr} (he : isCls n e = some A) (hA : glB S A = true)
    {CA : Addr} (hm : X.mg A = some (.ref CA)) {b : Bool} (hk : PySem.W.kitOne X.K (.ref Y) (.ref CA) = some b) :
    PE (X.suite a ((a, oe) :: pn)) e (fun σ H Q => σ[j]? = some (some (.ref a)) ∧ Q (.bl b) H) ∧ ∀ r env, starEach (e :: r) env = (false, eval e env) :: starEach r env := by
  unfold isCls at he
  split at he
  · rename_i x p1 z p2 A' p3 pos
    split at he
    · rename_i hc
      obtain ⟨rfl, rfl⟩ := hc
      cases he
      refine ⟨?_, fun _ _ => rfl⟩
      obtain ⟨g, nd⟩ := Z.gl_of hg
      obtain ⟨gA, ndA⟩ := Z.gl_of hA
      obtain ⟨v1, v2, v3, v4⟩ := vis_parts hn
      have hv : Vis X.env.scope z := by
        show X.env.scope.names.lookup z = _ ∨ X.env.scope.names.lookup z = _ ∨ X.env.scope.names.lookup z = _
        rw [Z.sc]
        exact v2
      refine PE.imp (pe_callB (X := X.suite a ((a, oe) :: pn)) (call_isE (pn := pn) EC hz hf) g (Z.bn _ (by decide +kernel)) boot_isinstance (pa_cons (pe_var (i := j) (by show X.N[j]? = _; rw [Z.N]; exact v1) hv v3 v4) (pa_cons (pe_glob (v := .ref CA) gA hm rfl ndA) pa_nil)) (by decide +kernel) nd) fun σ H Q ⟨e, q⟩ => ?_
      exact ⟨.ref a, e, .ref CA, .ref CA, b, rfl, fun u hu => hu, hk, q⟩
    · cases he
  · cases he
theorem pa_isE (Z : Sta X S G F W M0 H0) (EC : ExcC X.K Y) (hz : Zc (.ref Y) none oe) (hf : ∃ vs, oe.data = .fields vs) (hn : visB S j n = true) (hg : glB S "isinstance" = true) {y : Str} : ∀ {es : List Expr} {cs : List Str}, isClss n es = some cs →
    (∀ A ∈ cs, glB S A = true ∧ ∃ CA, X.mg A = some (.ref CA) ∧ PySem.W.kitOne X.K (.ref Y) (.ref CA) = some (decide (y = A))) →
    PA (X.suite a ((a, oe) :: pn)) es (fun σ H Q => σ[j]? = some (some (.ref a)) ∧ Q (cs.map fun A => V.bl (decide (y = A))) H)
  | [], cs, h, _ => by
    cases h
    exact PA.imp pa_nil fun σ H Q q => q.2
  | e :: es, cs, h, hc => by
    unfold isClss at h
    split at h
    · rename_i A r h1 h2
      cases h
      obtain ⟨hA, CA, hm, hk⟩ := hc A List.mem_cons_self
      obtain ⟨p, ps⟩ := pe_isE (a := a) (pn := pn) Z EC hz hf hn hg h1 hA hm hk
      exact PA.imp (pa_cons p (pa_isE Z EC hz hf hn hg h2 fun B hB => hc B (List.mem_cons_of_mem _ hB)) (ps _ _)) fun σ H Q ⟨e, q⟩ => ⟨e, e, q⟩
    · cases h
end
theorem boot_VE : bootBuiltins "ValueError" = some (.type "ValueError") := by decide +kernel
theorem keep_upd {H H1 : Hp} {p : Addr} {o : HO} (h : ∀ b u, H b = some u → H1 b = some u) (hp : H1 p = none) : ∀ b u, H b = some u → upd H1 p o b = some u := fun b u e => by
  have e1 := h b u e
  have ne : b ≠ p := fun z => by subst z; rw [hp] at e1; cases e1
  rw [upd_ne ne]; exact e1
def tsF (G : Gx) (i j : Nat) (ys cs : List Str) : Addr → Value → Option Addr → TS := fun a cls d D σ H => ∃ y Y, y ∈ ys ∧ G.cls y = some Y ∧ cls = .ref Y ∧ d = none ∧ i < σ.length ∧ σ[j]? = some (some (.ref a)) ∧
  ∀ p H', H p = none → H' p = some (.lst ((cs.map fun A => V.bl (decide (y = A))) ++ [.bl false])) → (∀ b u, H b = some u → H' b = some u) → D.nx (σ.set i (some (.ref p))) H'
theorem suite_F (Z : Sta X S G F W M0 H0) {i j : Nat} {c y1 n : Str} {ys c1 c2 c3 : List Str} {l1 l2 l3 : List Expr} {q1 q2 q3 q4 q5 q6 q7 q8 q9 q10 q11 q12 q13 q14 q15 q16 q17 q18 q19 q20 apos cpos : Pos}
    (hca : (c, ys) ∈ S.cx.ca) (hi : visB S i y1 = true) (hw : S.wr y1 = true) (hn : visB S j n = true) (hij : i ≠ j) (hgi : glB S "isinstance" = true) (hgv : glB S "ValueError" = true)
    (h1 : isClss n l1 = some c1) (h2 : isClss n l2 = some c2) (h3 : isClss n l3 = some c3) (hl : (apos.endLine == cpos.line) = true) (hall : ∀ A ∈ c1 ++ c2 ++ c3, glB S A = true ∧ ∀ y ∈ ys, (y, A) ∈ S.cx.is) (h100 : (c1 ++ c2 ++ c3).length < 100)
    (a : Addr) (oe : Obj) (cls : Value) (d : Option Addr) (pn : List (Addr × Obj)) (hz : Zc cls d oe) (hf : ∃ vs, oe.data = .fields vs) :
    PSs (X.suite a ((a, oe) :: pn)) [.Assign [.Name y1 q1] (.List l1 q2) q3, .Assign [.Name y1 q4] (.BinOp (.Name y1 q5) .Add (.List l2 q6) q7) q8, .Assign [.Name y1 q9] (.BinOp (.Name y1 q10) .Add (.List l3 q11) q12) q13,
        .Expr (.Call (.Attribute (.Name y1 q14) "append" apos) [.UnaryOp .Not (.Call (.Name "isinstance" q15) [.Name n q16, .Name "ValueError" q17] [] q18) q19] [] cpos) q20] (tsF G i j ys (c1 ++ c2 ++ c3) a cls d) := by
  refine ⟨fun pins s σ H D I h => ?_⟩
  obtain ⟨y, Y, hy, hY, rfl, rfl, hil, ej, hk⟩ := h
  obtain ⟨CA, hmc, hys⟩ := Z.ca _ hca
  obtain ⟨Y', hY', hex, EC, hve⟩ := hys y hy
  rw [hY] at hY'
  cases hY'
  rw [← Z.K] at EC hve
  have hcl : ∀ A ∈ c1 ++ c2 ++ c3, glB S A = true ∧ ∃ CA, X.mg A = some (.ref CA) ∧ PySem.W.kitOne X.K (.ref Y) (.ref CA) = some (decide (y = A)) := fun A hA => by
    obtain ⟨g, hs⟩ := hall A hA
    obtain ⟨Y2, C2, e1, e2, e3⟩ := Z.is _ (hs y hy)
    have e1 : G.cls y = some Y2 := e1
    rw [hY] at e1
    cases e1
    exact ⟨g, C2, e2, by rw [Z.K]; exact e3⟩
  obtain ⟨v1, v2, v3, v4⟩ := vis_parts hi
  have hv : Vis X.env.scope y1 := by
    show X.env.scope.names.lookup y1 = _ ∨ X.env.scope.names.lookup y1 = _ ∨ X.env.scope.names.lookup y1 = _
    rw [Z.sc]
    exact v2
  obtain ⟨n1, n2, n3, n4⟩ := vis_parts hn
  have hvn : Vis X.env.scope n := by
    show X.env.scope.names.lookup n = _ ∨ X.env.scope.names.lookup n = _ ∨ X.env.scope.names.lookup n = _
    rw [Z.sc]
    exact n2
  obtain ⟨w1, w2⟩ := Z.wr y1 hw
  have P1 := pa_isE (a := a) (pn := pn) Z EC hz hf hn hgi (y := y) h1 fun A hA => hcl A (by simp [hA])
  have P2 := pa_isE (a := a) (pn := pn) Z EC hz hf hn hgi (y := y) h2 fun A hA => hcl A (by simp [hA])
  have P3 := pa_isE (a := a) (pn := pn) Z EC hz hf hn hgi (y := y) h3 fun A hA => hcl A (by simp [hA])
  have PV : ∀ pos, PE (X.suite a ((a, oe) :: pn)) (.Name y1 pos) (tVar i) := fun pos => pe_var (i := i) (by show X.N[i]? = _; rw [Z.N]; exact v1) hv v3 v4
  have PN : ∀ pos, PG (X.suite a ((a, oe) :: pn)) (.Name y1 pos) (gName i) := fun pos => pg_name (i := i) (by show X.N.Nodup; rw [Z.N]; exact Z.nd) (by show X.N[i]? = _; rw [Z.N]; exact v1) w1 w2
  obtain ⟨gi, ndi⟩ := Z.gl_of hgi
  obtain ⟨gv, ndv⟩ := Z.gl_of hgv
  have PVE : PE (X.suite a ((a, oe) :: pn)) (.Call (.Name "isinstance" q15) [.Name n q16, .Name "ValueError" q17] [] q18) (fun σ H Q => σ[j]? = some (some (.ref a)) ∧ Q (.bl true) H) :=
    PE.imp (pe_callB (X := X.suite a ((a, oe) :: pn)) (call_isE (pn := pn) EC hz hf) gi (Z.bn _ (by decide +kernel)) boot_isinstance (pa_cons (pe_var (i := j) (by show X.N[j]? = _; rw [Z.N]; exact n1) hvn n3 n4) (pa_cons (pe_bltn (v := .ty "ValueError") gv (Z.bn _ (by decide +kernel)) boot_VE rfl (by decide +kernel) ndv) pa_nil)) (by decide +kernel) ndi) fun σ H Q ⟨e, q⟩ =>
      ⟨.ref a, e, .ty "ValueError", .type "ValueError", true, rfl, fun u hu => hu, hve, q⟩
  have S1 := ps_asg (pos := q3) (pe_lst (pos := q2) P1) (PN q1)
  have S2 := ps_asg (pos := q8) (pe_op (pos := q7) op_cat (PV q5) (pe_lst (pos := q6) P2)) (PN q4)
  have S3 := ps_asg (pos := q13) (pe_op (pos := q12) op_cat (PV q10) (pe_lst (pos := q11) P3)) (PN q9)
  have S4 := ps_expr (pos := q20) (pe_bm (apos := apos) (cpos := cpos) PySem.F.plainAttrs_list PySem.F.slot_list_append PySem.F.type_list_append mt_append (PV q14) (pa_cons (pe_not (pos := q19) PVE) pa_nil) rfl rfl hl)
  refine (pss_cons S1 (pss_cons S2 (pss_cons S3 (pss_cons S4 pss_nil)))).run pins s σ H D I ?_
  have hsz : 100 ≤ sizeLine := by rw [sizeLine_eq]; decide
  have hlen : c1.length + c2.length + c3.length < 100 := by simpa [Nat.add_assoc] using h100
  refine ⟨ej, by rw [List.length_map]; omega, fun p1 hp1 => ?_⟩
  have k1 : ∀ b u, H b = some u → upd H p1 (.lst (c1.map fun A => V.bl (decide (y = A)))) b = some u := keep_upd (fun _ _ e => e) hp1
  refine ⟨.ref p1, List.getElem?_set_self hil, by rw [List.getElem?_set_ne hij]; exact ej, by rw [List.length_map]; omega, fun p2 hp2 => ?_⟩
  have k2 := keep_upd (o := .lst (c2.map fun A => V.bl (decide (y = A)))) k1 hp2
  have np : p1 ≠ p2 := fun e => by subst e; rw [upd_same] at hp2; cases hp2
  refine ⟨p1, p2, _, _, rfl, rfl, by rw [upd_ne np, upd_same], upd_same, by simp only [List.length_map]; omega, fun p3 hp3 => ?_⟩
  have k3 := keep_upd (o := .lst ((c1.map fun A => V.bl (decide (y = A))) ++ (c2.map fun A => V.bl (decide (y = A))))) k2 hp3
  have hil2 : i < (σ.set i (some (V.ref p1))).length := by rw [List.length_set]; exact hil
  refine ⟨.ref p3, List.getElem?_set_self hil2, by rw [List.getElem?_set_ne hij, List.getElem?_set_ne hij]; exact ej, by rw [List.length_map]; omega, fun p4 hp4 => ?_⟩
  have k4 := keep_upd (o := .lst (c3.map fun A => V.bl (decide (y = A)))) k3 hp4
  have np3 : p3 ≠ p4 := fun e => by subst e; rw [upd_same] at hp4; cases hp4
  refine ⟨p3, p4, _, _, rfl, rfl, by rw [upd_ne np3, upd_same], upd_same, by simp only [List.length_map, List.length_append]; omega, fun p5 hp5 => ?_⟩
  have hil3 : i < ((σ.set i (some (V.ref p1))).set i (some (V.ref p3))).length := by rw [List.length_set]; exact hil2
  refine ⟨.ref p5, List.getElem?_set_self hil3, .inl ⟨rfl, _, .inl (.inl upd_same)⟩, ⟨by rw [List.getElem?_set_ne hij, List.getElem?_set_ne hij, List.getElem?_set_ne hij]; exact ej, true, rfl, p5, _, _, rfl, rfl, upd_same, by simp only [List.length_map, List.length_append]; omega, ?_⟩⟩
  have hp5' : H p5 = none := by
    cases e : H p5 with
    | none => rfl
    | some u => rw [k4 _ _ e] at hp5; cases hp5
  have fin := hk p5 (upd (upd (upd (upd (upd (upd H p1 (.lst (c1.map fun A => V.bl (decide (y = A))))) p2 (.lst (c2.map fun A => V.bl (decide (y = A))))) p3 (.lst ((c1.map fun A => V.bl (decide (y = A))) ++ (c2.map fun A => V.bl (decide (y = A)))))) p4 (.lst (c3.map fun A => V.bl (decide (y = A))))) p5
    (.lst (((c1.map fun A => V.bl (decide (y = A))) ++ (c2.map fun A => V.bl (decide (y = A)))) ++ (c3.map fun A => V.bl (decide (y = A)))))) p5 (.lst ((((c1.map fun A => V.bl (decide (y = A))) ++ (c2.map fun A => V.bl (decide (y = A)))) ++ (c3.map fun A => V.bl (decide (y = A)))) ++ [V.bl false])))
    hp5' (by rw [upd_same]; simp) (fun b u e => by
      have ne : b ≠ p5 := fun z => by subst z; rw [hp5'] at e; cases e
      rw [upd_ne ne, upd_ne ne]; exact k4 b u e)
  have es : ((σ.set i (some (V.ref p1))).set i (some (V.ref p3))).set i (some (V.ref p5)) = σ.set i (some (V.ref p5)) := by rw [List.set_set, List.set_set]
  show D.nx _ _
  rw [es]
  exact fin
theorem map_end {α β γ : Type} (l : List α) (f : α → β) (g : β → γ) (b : β) : (l.map fun x => g (f x)) ++ [g b] = (l.map f ++ [b]).map g := by rw [List.map_append, List.map_map]; rfl
theorem bls_rep {G : Gx} {M : Mem} {H : Hp} : ∀ bs : List Bool, RepL G M H (bs.map Ev.D.bl) (bs.map V.bl)
  | [] => RepL.nil
  | _ :: bs => RepL.cons rfl (bls_rep bs)
theorem b_tryF (Z : Sta X S G F W M0 H0) (ht : S.top = true) {i j : Nat} {f c y1 n : Str} {ys c1 c2 c3 cs : List Str} {l1 l2 l3 : List Expr} {a0 : Expr} {args : List Expr} {p1 p2 p3 p4 p8 pos q1 q2 q3 q4 q5 q6 q7 q8 q9 q10 q11 q12 q13 q14 q15 q16 q17 q18 q19 q20 apos cpos : Pos}
    (hg : glB S f = true) (hf : f ∈ S.fs) (hk : chkA m { S with top := false } (a0 :: args) = true) (ha : ∀ (Y : Cx), Sta Y { S with top := false } G F W0 M0 H0 → PA Y (a0 :: args) (liftA G M0 H0 (wpA F W0 m))) (hgc : glB S c = true)
    (hca : (c, ys) ∈ S.cx.ca) (hi : visB S i y1 = true) (hw : S.wr y1 = true) (hn : visB S j n = true) (hln : S.sc.names.lookup n = some .local) (hij : i ≠ j) (hgi : glB S "isinstance" = true) (hgv : glB S "ValueError" = true)
    (h1 : isClss n l1 = some c1) (h2 : isClss n l2 = some c2) (h3 : isClss n l3 = some c3) (hl : (apos.endLine == cpos.line) = true) (hcs : c1 ++ c2 ++ c3 = cs) (hall : ∀ A ∈ cs, glB S A = true ∧ ∀ y ∈ ys, (y, A) ∈ S.cx.is) (h100 : cs.length < 100) :
    PS X (.Try [.Expr (.Call (.Name f p1) (a0 :: args) [] p2) p3] [.ExceptHandler (some (.Name c p4)) (some n) [.Assign [.Name y1 q1] (.List l1 q2) q3, .Assign [.Name y1 q4] (.BinOp (.Name y1 q5) .Add (.List l2 q6) q7) q8, .Assign [.Name y1 q9] (.BinOp (.Name y1 q10) .Add (.List l3 q11) q12) q13,
        .Expr (.Call (.Attribute (.Name y1 q14) "append" apos) [.UnaryOp .Not (.Call (.Name "isinstance" q15) [.Name n q16, .Name "ValueError" q17] [] q18) q19] [] cpos) q20] p8] [] [] pos) (liftS G M0 H0 (wpS F W (.tryF i j f m c ys cs))) := by
  subst hcs
  obtain ⟨k, fa, fd, ps, sp, FO, hr, hm, hkp, hb, hsp⟩ := (Z.fns f hf).ex
  obtain ⟨g, nd⟩ := Z.gl_of hg
  obtain ⟨gc, ndc⟩ := Z.gl_of hgc
  obtain ⟨CA, hmc, hys⟩ := Z.ca _ hca
  obtain ⟨m1, m2', e, k1, k2⟩ := args_of hk
  obtain ⟨n1, n2, n3, n4⟩ := vis_parts hn
  refine PS.imp (ps_try_as (i := j) (tb := fun W' D σ H => tCallS sp (WE W') (liftA G M0 H0 (wpA F W0 m)) σ H fun _ H' => D.nx σ H') (Z.stk ht).1 (Z.stk ht).2 (by rw [Z.N]; exact Z.nd) (by rw [Z.N]; exact n1) (by show X.env.scope.names.lookup n = _; rw [Z.sc]; exact hln) ⟨gc, ndc, .inl hmc⟩ (Z.tk ht) (fun W' pn xe tk ho => ?_)
    (fun a oe cls d pn hz hv => suite_F Z hca hi hw hn hij hgi hgv h1 h2 h3 hl hall h100 a oe cls d pn hz hv)) fun D σ H ⟨σD, M, q, s, ⟨hil, hjl, w⟩, zn, zr⟩ => ?_
  · exact pss_one (PS.imp (ps_expr (pe_callS (X := X.tr pn xe) FO hr g hm hkp hb (fun σ => passAt tk σ) (ha _ (Z.tr ho)) nd (star_cons k1) (star_false m2' k2))) fun D σ H q => q)
  · refine ⟨σD, M, _, s, w, fun ds M1 vs H1 q1 ok1 rl e1 => ?_⟩
    refine hsp ds M1 _ vs H1 _ _ _ q1 ok1 rl (fun d M' v H' hq ok r e => zn _ _ _ _ hq (s.2.1.ext (e1.trans e)) ok (e1.trans e)) fun c' M' H' hw ok' e' C hC => ?_
    obtain ⟨hy, hq⟩ := hw
    obtain ⟨Y, hY, hex, _⟩ := hys c' hy
    have hY2 := hY
    rw [hC] at hY2
    cases hY2
    refine ⟨true, by rw [Z.K]; exact hex, fun _ a ha => ?_, fun h => nomatch h⟩
    have hil' : i < σ.length := by rw [← s.2.1.1]; exact hil
    have hjl' : j < σ.length := by rw [← s.2.1.1]; exact hjl
    refine ⟨c', C, hy, hC, rfl, rfl, by rw [List.length_set]; exact hil', List.getElem?_set_self hjl', fun p H2 hp hp2 hkeep => ?_⟩
    have hMp := ok'.dom hp
    have ex : Ext M' H' (mput M' p (.lst (((c1 ++ c2 ++ c3).map fun c => Ev.D.bl (decide (c' = c))) ++ [.bl false]))) H2 := fun b hb u e => by
      have ne : b ≠ p := fun z => by subst z; rw [hp] at e; cases e
      exact ⟨hkeep b u e, by rw [mput_ne ne]; exact hb⟩
    have eD : ((c1 ++ c2 ++ c3).map fun c => Ev.D.bl (decide (c' = c))) ++ [Ev.D.bl false] = (((c1 ++ c2 ++ c3).map fun c => decide (c' = c)) ++ [false]).map Ev.D.bl := map_end _ _ _ _
    have eV : ((c1 ++ c2 ++ c3).map fun c => V.bl (decide (c' = c))) ++ [V.bl false] = (((c1 ++ c2 ++ c3).map fun c => decide (c' = c)) ++ [false]).map V.bl := map_end _ _ _ _
    have ok2 : OkM G (mput M' p (.lst (((c1 ++ c2 ++ c3).map fun c => Ev.D.bl (decide (c' = c))) ++ [.bl false]))) H2 := fun b o e => by
      by_cases z : b = p
      · subst z
        rw [mput_same] at e
        cases e
        refine ⟨_, hp2, _, rfl, ?_⟩
        rw [eD, eV]
        exact bls_rep _
      · rw [mput_ne z] at e
        obtain ⟨u, qu, r⟩ := ok' b o e
        exact ⟨u, hkeep b u qu, r.ext ex⟩
    have hfin := zn ((σD.set i (some (.mr p))).set j none) _ ((σ.set i (some (V.ref p))).set j none) H2 (hq p hMp) ?_ ok2 ((e1.trans e').trans ex)
    · have es : ((σ.set j (some (V.ref a))).set i (some (V.ref p))).set j none = (σ.set i (some (V.ref p))).set j none := by
        rw [List.set_comm _ _ (Ne.symm hij), List.set_set]
      show D.nx _ _
      rw [es]
      exact hfin
    · exact (((s.2.1.ext (e1.trans e')).ext ex).set (d := .mr p) (v := .ref p) rfl).forget j
end
end Ev

/-! Ev, part N: every block; defs by levels; a law's end. -/
namespace Ev
open PySem PySem.Spec PyProof.Rows L2
section
variable {G : Gx} {F : Fx} {M0 : Mem} {H0 : Hp}
theorem sw_other {t v : Expr} {l : Nat} {env : PySem.Env} (hv : noComp v = true) (tg : Option Expr) : swapsWith v tg l env = pure false := by
  cases v <;> first | rfl | exact Bool.noConfusion (show false = true from hv)
theorem sw_no {S : Sc} {t v : Expr} {l : Nat} {env : PySem.Env} (hs : env.scope = S.sc) (h : swN S t v = true) : swapsWithSole [t] v l env = pure false := by
  show swapsWith v (some t) l env = pure false
  cases v <;> first | rfl | skip
  · rename_i elt gs scope p
    cases t <;> first | rfl | skip
    rename_i y py
    have h : (!decide (S.sc.names.lookup y = some .local) || !(py.line == p.line) || (scope.names.any fun (n, k) => n == y && (k == .local || k == .cell))) = true := h
    have hk : env.kindOf y = S.sc.names.lookup y := by show env.scope.names.lookup y = _; rw [hs]
    show (pure (env.blockKind == .function && env.kindOf y == some .local && py.line == p.line && !(scope.names.any fun (n, k) => n == y && (k == .local || k == .cell))) : Sem Bool) = pure false
    congr 1
    rw [hk]
    rw [Bool.or_eq_true, Bool.or_eq_true] at h
    rcases h with (h | h) | h
    · have e : (S.sc.names.lookup y == some NameKind.local) = false := by
        rw [Bool.not_eq_true'] at h
        exact beq_eq_false_iff_ne.mpr (of_decide_eq_false h)
      rw [e]; simp
    · rw [Bool.not_eq_true'] at h
      rw [h]; simp
    · rw [h]; simp
  · cases t <;> exact Bool.noConfusion (show false = true from h)
  · cases t <;> exact Bool.noConfusion (show false = true from h)
theorem names_lt {f : Expr → Option Str} (hf : ∀ t, isNm t = false → f t = none) : ∀ {ts : List Expr}, (ts.any fun t => !isNm t) = true → (ts.filterMap f).length < ts.length
  | [], h => by cases h
  | t :: ts, h => by
    rw [List.any_cons] at h
    rcases Bool.or_eq_true _ _ |>.mp h with e | e
    · rw [List.filterMap_cons, hf t (by simpa using e)]
      exact Nat.lt_succ_of_le (List.length_filterMap_le _ _)
    · have := names_lt hf e
      rw [List.filterMap_cons]
      split
      · exact Nat.lt_succ_of_lt this
      · simp only [List.length_cons]; omega
theorem stores_no {t v : Expr} {env : PySem.Env} (h : stB t v = true) : swappedStores [t] v env = pure none := by
  unfold swappedStores
  cases t <;> cases v <;> first | exact Bool.noConfusion (show false = true from h) | rfl | skip
  rename_i ts n p vs n' p'
  have h : (!(ts.length == 2 || ts.length == 3) || ts.any fun t => !isNm t) = true := h
  rw [Bool.or_eq_true] at h
  show (if (!(ts.length == 2 || ts.length == 3) || vs.length != ts.length || env.blockKind != .function) = true then (pure none : Sem (Option (List Str))) else _) = pure none
  split
  · rfl
  · rename_i c
    rcases h with h | h
    · rw [h] at c; simp at c
    · show (if _ then (pure none : Sem (Option (List Str))) else _) = pure none
      split
      · rfl
      · dsimp only
        rw [if_pos]
        have := names_lt (f := fun x => match x with
            | .Name id pos => if (env.kindOf id == some NameKind.local && pos.line == (Option.map (fun x => x.pos.line) ts.head?).getD 0) = true then some id else none
            | _ => none) (fun t ht => by cases t <;> first | rfl | exact Bool.noConfusion (show true = false from ht)) h
        rw [Bool.or_eq_true]
        left
        rw [bne_iff_ne]
        exact Nat.ne_of_lt this
theorem b_setLc {X : Cx} {S : Sc} {W : WQ} (Z : Sta X S G F W M0 H0) {k : Nat} {own : List Nat} {mu : Bool} {elt tgm it cond : E} {y : Str} {v : Expr} {py pos : Pos}
    (hs : PS X (.Assign [.Name y py] v pos) (tAsg (lift G M0 H0 (wpE F W (.lc mu elt tgm it cond own))) (gName k))) : PS X (.Assign [.Name y py] v pos) (liftS G M0 H0 (wpS F W (.asg (.v k) (.lc mu elt tgm it cond own)))) :=
  PS.imp hs fun D σ H ⟨σD, M, q, s, w, zn, zr⟩ => ⟨σD, M, _, s, w, fun d M1 v H1 w1 ok1 r1 e1 => zn _ _ _ _ w1 ((s.2.1.ext e1).set r1) ok1 e1⟩
theorem sndLcA {X : Cx} {S : Sc} {W : WQ} (Z : Sta X S G F W M0 H0) {k : Nat} {own : List Nat} {mu : Bool} {elt tg it cond : E} {y : Str} {v : Expr} {py pos : Pos}
    (hn : S.N[k]? = some y) (hsw : swB S (.Name y py) v = true) (h : chkE (.lc mu elt tg it cond own) S v = true) : PS X (.Assign [.Name y py] v pos) (liftS G M0 H0 (wpS F W (.asg (.v k) (.lc mu elt tg it cond own)))) := by
  simp only [chkE] at h
  split at h
  · rename_i el t i ifs scope p
    have hsw : (decide (S.sc.kind = .function) && decide (S.sc.names.lookup y = some .local) && (py.line == p.line) && !(scope.names.any fun (n, k) => n == y && (k == .local || k == .cell))) = true := hsw
    rw [Bool.and_eq_true, Bool.and_eq_true, Bool.and_eq_true] at hsw
    obtain ⟨⟨⟨s1, s2⟩, s3⟩, s4⟩ := hsw
    have s1 := of_decide_eq_true s1
    have s2 := of_decide_eq_true s2
    rw [Bool.not_eq_true'] at s4
    have sw : swapsWith (.ListComp el [⟨t, i, ifs, 0⟩] scope p) (some (.Name y py)) pos.line X.env = pure true := sw_true (by rw [Z.sc]; exact s1) (by rw [Z.sc]; exact s2) s3 s4
    rw [Bool.and_eq_true, Bool.and_eq_true, Bool.and_eq_true, Bool.and_eq_true, Bool.and_eq_true, Bool.and_eq_true] at h
    obtain ⟨⟨⟨⟨⟨⟨h1, h2⟩, h3⟩, h4⟩, h5⟩, h6⟩, h7⟩ := h
    have h3 := of_decide_eq_true h3
    have h6 := of_decide_eq_true h6
    refine b_setLc Z ?_
    split at h7
    · exact s_setLc Z hn s2 sw (sndI it h1 Z) h2 h3 h6 (fun Y ZY => sndT tg h4 ZY) (fun _ _ => pts_nil) (tt_yes h7) (fun Y ZY => sndE elt h5 ZY) fun _ => chk_fold h1
    · exact s_setLc Z hn s2 sw (sndI it h1 Z) h2 h3 h6 (fun Y ZY => sndT tg h4 ZY) (fun Y ZY => pts_one (sndB cond h7 ZY).1) (fun _ _ _ q => q) (fun Y ZY => sndE elt h5 ZY) fun _ => chk_fold h1
    · cases h7
  · cases h
theorem snd_asg {X : Cx} {S : Sc} {W : WQ} (Z : Sta X S G F W M0 H0) {tg e : E} {t v : Expr} {pos : Pos} (h1 : chkT tg S t = true) (h2 : chkE e S v = true) (h3 : stB t v = true) (h4 : ((swB S t v && isLc e) || swN S t v) = true) :
    PS X (.Assign [t] v pos) (liftS G M0 H0 (wpS F W (.asg tg e))) := by
  rw [Bool.or_eq_true] at h4
  rcases h4 with h4 | h4
  · rw [Bool.and_eq_true] at h4
    obtain ⟨h4, h5⟩ := h4
    cases t <;> first | exact Bool.noConfusion (show false = true from h4) | skip
    rename_i y py
    cases e <;> first | exact Bool.noConfusion (show false = true from h5) | skip
    cases tg <;> first | exact Bool.noConfusion (show false = true from h1) | skip
    rename_i k
    have h1 : (decide (S.N[k]? = some y) && S.wr y) = true := h1
    rw [Bool.and_eq_true] at h1
    exact sndLcA Z (of_decide_eq_true h1.1) h4 h2
  · exact b_asg (sndE e h2 Z) (sndT tg h1 Z) (sw_no Z.sc h4) (stores_no h3) (by rw [each_cons h1]; rfl)
mutual
theorem sndS : ∀ (m : Ev.S) {S : Sc} {st : Stmt} {X : Cx} {W : WQ}, chkS m S st = true → Sta X S G F W M0 H0 → PS X st (liftS G M0 H0 (wpS F W m))
  | .asg tg e, S, st, X, W, h, Z => by
    simp only [chkS] at h
    split at h
    · rw [Bool.and_eq_true, Bool.and_eq_true, Bool.and_eq_true] at h
      obtain ⟨⟨⟨h1, h2⟩, h3⟩, h4⟩ := h
      exact snd_asg Z h1 h2 h3 h4
    · cases h
  | .aug op tg e, S, st, X, W, h, Z => by
    simp only [chkS] at h
    split at h
    · simp only [Bool.and_eq_true, decide_eq_true_eq] at h
      obtain ⟨⟨⟨h1, h2⟩, h3⟩, h4⟩ := h
      subst h2
      subst h1
      cases tg with
      | v i =>
        simp only [chkT] at h3
        split at h3
        · simp only [Bool.and_eq_true, decide_eq_true_eq] at h3
          exact b_aug Z h3.1 h3.2 (sndE e h4 Z)
        · cases h3
      | ix a i =>
        simp only [chkT] at h3
        split at h3
        · simp only [Bool.and_eq_true] at h3
          exact b_augS Z h3.2 (sndE a h3.1 Z) (sndE i h3.2 Z) (sndE e h4 Z)
        · cases h3
      | _ => exact ⟨fun _ _ _ _ _ _ ⟨_, _, _, _, w, _⟩ => (show False from w).elim⟩
    · cases h
  | .expr e, S, st, X, W, h, Z => by
    simp only [chkS] at h
    split at h
    · rw [Bool.and_eq_true] at h
      exact b_expr (sndE e h.1 Z) (sw_other (t := .Name "" ⟨0, 0, 0, 0⟩) h.2 none)
    · cases h
  | .ret e, S, st, X, W, h, Z => by
    simp only [chkS] at h
    split at h
    · exact b_ret (sndE e h Z)
    · cases h
  | .retN, S, st, X, W, h, Z => by
    simp only [chkS] at h
    split at h
    · exact b_retN
    · cases h
  | .pass, S, st, X, W, h, Z => by
    simp only [chkS] at h
    split at h
    · exact b_pass
    · cases h
  | .ite c a b, S, st, X, W, h, Z => by
    simp only [chkS] at h
    split at h
    · rw [Bool.and_eq_true, Bool.and_eq_true] at h
      exact b_if (sndB c h.1.1 Z).1 (sndSs a h.1.2 Z) (sndSs b h.2 Z)
    · cases h
  | .forS tg it b, S, st, X, W, h, Z => by
    simp only [chkS] at h
    split at h
    · rw [Bool.and_eq_true, Bool.and_eq_true] at h
      exact b_for Z (sndI it h.1.2 Z) (sndT tg h.1.1 Z) (sndSs b h.2 Z) fun _ => chk_fold h.1.2
    · cases h
  | .whileS c b, S, st, X, W, h, Z => by
    simp only [chkS] at h
    split at h
    · rw [Bool.and_eq_true] at h
      exact b_while Z (sndB c h.1 Z).1 (sndSs b h.2 Z)
    · cases h
  | .raise c, S, st, X, W, h, Z => by
    simp only [chkS] at h
    split at h
    · simp only [Bool.and_eq_true, decide_eq_true_eq] at h
      obtain ⟨⟨⟨h1, h2⟩, h3⟩, h4⟩ := h
      subst h1
      exact b_raise Z h4 h2 h3
    · cases h
  | .setF c f o e, S, st, X, W, h, Z => by
    simp only [chkS] at h
    split at h
    · rename_i x g ap v pos
      simp only [Bool.and_eq_true, decide_eq_true_eq] at h
      obtain ⟨⟨⟨⟨h1, h2⟩, h3⟩, h4⟩, h5⟩ := h
      subst h1
      exact b_setF Z h2 (sndE o h3 Z) (sndE e h4 Z) (sw_no (l := pos.line) Z.sc h5)
    · cases h
  | .tryB i f es c ys, S, st, X, W, h, Z => by
    simp only [chkS] at h
    split at h
    · simp only [Bool.and_eq_true, decide_eq_true_eq] at h
      obtain ⟨⟨⟨⟨⟨⟨⟨⟨⟨h1, h2⟩, h3⟩, h4⟩, h5⟩, h6⟩, h7⟩, h8⟩, h9⟩, h10⟩ := h
      subst h1 h5
      exact b_tryB Z h10 h2 h3 h4 (fun Y ZY => sndA es h4 ZY) h6 h7 h8 h9
    · cases h
  | .tryF i j f es c ys cs, S, st, X, W, h, Z => by
    simp only [chkS] at h
    split at h
    · simp only [Bool.and_eq_true, decide_eq_true_eq] at h
      obtain ⟨⟨⟨⟨⟨⟨⟨⟨⟨⟨⟨⟨⟨⟨⟨⟨⟨⟨⟨⟨h1, h2⟩, h3⟩, h4⟩, h5⟩, h6⟩, h7⟩, h8⟩, h9⟩, h10⟩, h11⟩, h12⟩, h13⟩, h14⟩, h15⟩, h16⟩, h17⟩, h18⟩, h19⟩, h20⟩, h21⟩ := h
      subst h1 h5
      obtain ⟨e1, e2, e3, e4, e5, e6, e7, e8, e9, hij⟩ := h11
      subst e1 e2 e3 e4 e5 e6 e7 e8 e9
      have hcs : ∀ (a b : Nat), cs.take a ++ (cs.drop a).take b ++ cs.drop (a + b) = cs := fun a b => by
        rw [List.append_assoc, ← List.drop_drop, List.take_append_drop, List.take_append_drop]
      have hall : ∀ A ∈ cs, glB S A = true ∧ ∀ y ∈ ys, (y, A) ∈ S.cx.is := fun A hA => by
        have q := List.all_eq_true.mp h20 A hA
        rw [Bool.and_eq_true] at q
        exact ⟨q.1, fun y hy => of_decide_eq_true (List.all_eq_true.mp q.2 y hy)⟩
      exact b_tryF Z h10 h2 h3 h4 (fun Y ZY => sndA es h4 ZY) h6 h7 h8 h9 h12 h13 hij h14 h15 h16 h17 h18 h19 (hcs _ _) hall h21
    · cases h
  | .nil, S, st, X, W, h, Z => Bool.noConfusion (show false = true from h)
  | .cons _ _, S, st, X, W, h, Z => Bool.noConfusion (show false = true from h)
  | .scope _, S, st, X, W, h, Z => Bool.noConfusion (show false = true from h)
  | .fix _, S, st, X, W, h, Z => Bool.noConfusion (show false = true from h)
theorem sndSs : ∀ (m : Ev.S) {S : Sc} {l : List Stmt} {X : Cx} {W : WQ}, chkSs m S l = true → Sta X S G F W M0 H0 → PSs X l (liftS G M0 H0 (wpS F W m))
  | .nil, S, l, X, W, h, Z => by
    cases l with
    | nil => exact b_nil
    | cons x xs => exact Bool.noConfusion (show false = true from h)
  | .cons (.fix i) r, S, l, X, W, h, Z => b_fix (sndSs r (show chkSs r S l = true from h) Z)
  | .cons (.nil) r, S, l, X, W, h, Z => by
    cases l with
    | nil => exact Bool.noConfusion (show false = true from h)
    | cons x xs =>
      have h : (chkS (.nil) S x && chkSs r S xs) = true := h
      rw [Bool.and_eq_true] at h
      exact b_cons (sndS (.nil) h.1 Z) (sndSs r h.2 Z)
  | .cons (.cons s1 r1) r, S, l, X, W, h, Z => by
    cases l with
    | nil => exact Bool.noConfusion (show false = true from h)
    | cons x xs =>
      have h : (chkS (.cons s1 r1) S x && chkSs r S xs) = true := h
      rw [Bool.and_eq_true] at h
      exact b_cons (sndS (.cons s1 r1) h.1 Z) (sndSs r h.2 Z)
  | .cons (.asg tg e) r, S, l, X, W, h, Z => by
    cases l with
    | nil => exact Bool.noConfusion (show false = true from h)
    | cons x xs =>
      have h : (chkS (.asg tg e) S x && chkSs r S xs) = true := h
      rw [Bool.and_eq_true] at h
      exact b_cons (sndS (.asg tg e) h.1 Z) (sndSs r h.2 Z)
  | .cons (.aug op tg e) r, S, l, X, W, h, Z => by
    cases l with
    | nil => exact Bool.noConfusion (show false = true from h)
    | cons x xs =>
      have h : (chkS (.aug op tg e) S x && chkSs r S xs) = true := h
      rw [Bool.and_eq_true] at h
      exact b_cons (sndS (.aug op tg e) h.1 Z) (sndSs r h.2 Z)
  | .cons (.expr e) r, S, l, X, W, h, Z => by
    cases l with
    | nil => exact Bool.noConfusion (show false = true from h)
    | cons x xs =>
      have h : (chkS (.expr e) S x && chkSs r S xs) = true := h
      rw [Bool.and_eq_true] at h
      exact b_cons (sndS (.expr e) h.1 Z) (sndSs r h.2 Z)
  | .cons (.ret e) r, S, l, X, W, h, Z => by
    cases l with
    | nil => exact Bool.noConfusion (show false = true from h)
    | cons x xs =>
      have h : (chkS (.ret e) S x && chkSs r S xs) = true := h
      rw [Bool.and_eq_true] at h
      exact b_cons (sndS (.ret e) h.1 Z) (sndSs r h.2 Z)
  | .cons (.retN) r, S, l, X, W, h, Z => by
    cases l with
    | nil => exact Bool.noConfusion (show false = true from h)
    | cons x xs =>
      have h : (chkS (.retN) S x && chkSs r S xs) = true := h
      rw [Bool.and_eq_true] at h
      exact b_cons (sndS (.retN) h.1 Z) (sndSs r h.2 Z)
  | .cons (.pass) r, S, l, X, W, h, Z => by
    cases l with
    | nil => exact Bool.noConfusion (show false = true from h)
    | cons x xs =>
      have h : (chkS (.pass) S x && chkSs r S xs) = true := h
      rw [Bool.and_eq_true] at h
      exact b_cons (sndS (.pass) h.1 Z) (sndSs r h.2 Z)
  | .cons (.ite c a b) r, S, l, X, W, h, Z => by
    cases l with
    | nil => exact Bool.noConfusion (show false = true from h)
    | cons x xs =>
      have h : (chkS (.ite c a b) S x && chkSs r S xs) = true := h
      rw [Bool.and_eq_true] at h
      exact b_cons (sndS (.ite c a b) h.1 Z) (sndSs r h.2 Z)
  | .cons (.forS tg it b) r, S, l, X, W, h, Z => by
    cases l with
    | nil => exact Bool.noConfusion (show false = true from h)
    | cons x xs =>
      have h : (chkS (.forS tg it b) S x && chkSs r S xs) = true := h
      rw [Bool.and_eq_true] at h
      exact b_cons (sndS (.forS tg it b) h.1 Z) (sndSs r h.2 Z)
  | .cons (.whileS c b) r, S, l, X, W, h, Z => by
    cases l with
    | nil => exact Bool.noConfusion (show false = true from h)
    | cons x xs =>
      have h : (chkS (.whileS c b) S x && chkSs r S xs) = true := h
      rw [Bool.and_eq_true] at h
      exact b_cons (sndS (.whileS c b) h.1 Z) (sndSs r h.2 Z)
  | .cons (.scope s1) r, S, l, X, W, h, Z => by
    cases l with
    | nil => exact Bool.noConfusion (show false = true from h)
    | cons x xs =>
      have h : (chkS (.scope s1) S x && chkSs r S xs) = true := h
      rw [Bool.and_eq_true] at h
      exact b_cons (sndS (.scope s1) h.1 Z) (sndSs r h.2 Z)
  | .cons (.raise x1) r, S, l, X, W, h, Z => by
    cases l with
    | nil => exact Bool.noConfusion (show false = true from h)
    | cons x xs =>
      have h : (chkS (.raise x1) S x && chkSs r S xs) = true := h
      rw [Bool.and_eq_true] at h
      exact b_cons (sndS (.raise x1) h.1 Z) (sndSs r h.2 Z)
  | .cons (.setF c1 f1 o1 e1) r, S, l, X, W, h, Z => by
    cases l with
    | nil => exact Bool.noConfusion (show false = true from h)
    | cons x xs =>
      have h : (chkS (.setF c1 f1 o1 e1) S x && chkSs r S xs) = true := h
      rw [Bool.and_eq_true] at h
      exact b_cons (sndS (.setF c1 f1 o1 e1) h.1 Z) (sndSs r h.2 Z)
  | .cons (.tryB i1 f1 e1 c1 y1) r, S, l, X, W, h, Z => by
    cases l with
    | nil => exact Bool.noConfusion (show false = true from h)
    | cons x xs =>
      have h : (chkS (.tryB i1 f1 e1 c1 y1) S x && chkSs r S xs) = true := h
      rw [Bool.and_eq_true] at h
      exact b_cons (sndS (.tryB i1 f1 e1 c1 y1) h.1 Z) (sndSs r h.2 Z)
  | .cons (.tryF i1 j1 f1 e1 c1 y1 z1) r, S, l, X, W, h, Z => by
    cases l with
    | nil => exact Bool.noConfusion (show false = true from h)
    | cons x xs =>
      have h : (chkS (.tryF i1 j1 f1 e1 c1 y1 z1) S x && chkSs r S xs) = true := h
      rw [Bool.and_eq_true] at h
      exact b_cons (sndS (.tryF i1 j1 f1 e1 c1 y1 z1) h.1 Z) (sndSs r h.2 Z)
  | .scope s, S, l, X, W, h, Z => b_scope (sndSs s (show chkSs s S l = true from h) Z)
  | .asg _ _, S, l, X, W, h, Z => Bool.noConfusion (show false = true from h)
  | .aug _ _ _, S, l, X, W, h, Z => Bool.noConfusion (show false = true from h)
  | .expr _, S, l, X, W, h, Z => Bool.noConfusion (show false = true from h)
  | .ret _, S, l, X, W, h, Z => Bool.noConfusion (show false = true from h)
  | .retN, S, l, X, W, h, Z => Bool.noConfusion (show false = true from h)
  | .pass, S, l, X, W, h, Z => Bool.noConfusion (show false = true from h)
  | .ite _ _ _, S, l, X, W, h, Z => Bool.noConfusion (show false = true from h)
  | .forS _ _ _, S, l, X, W, h, Z => Bool.noConfusion (show false = true from h)
  | .whileS _ _, S, l, X, W, h, Z => Bool.noConfusion (show false = true from h)
  | .raise _, S, l, X, W, h, Z => Bool.noConfusion (show false = true from h)
  | .setF _ _ _ _, S, l, X, W, h, Z => Bool.noConfusion (show false = true from h)
  | .tryB _ _ _ _ _, S, l, X, W, h, Z => Bool.noConfusion (show false = true from h)
  | .tryF _ _ _ _ _ _ _, S, l, X, W, h, Z => Bool.noConfusion (show false = true from h)
  | .fix _, S, l, X, W, h, Z => Bool.noConfusion (show false = true from h)
end
end

/-! ### defs, by levels -/
structure Dfn where
  ps : List Str
  nl : Nat
  body : S
def callK (T : Str → Option Dfn) (gl : Str → Option D) : Nat → Str → List D → Mem → VQ → WQ → Prop
  | 0, _, _, _, _, _ => False
  | k + 1, f, ds, M, Q, W => ∃ d, T f = some d ∧ ds.length = d.ps.length ∧ wpS ⟨callK T gl k, gl⟩ W d.body (ds.map some ++ List.replicate (d.nl - d.ps.length) none) M ⟨fun _ M' => Q .non M', Q⟩
/-- a def of the text -/
def scOf (N : List Str) (st : Stmt) (fs : List Str) (cx : Cst) : Sc := ⟨N, defScope st, fun x => match (defScope st).names.lookup x with | some .local => true | some .cell => true | _ => false, fs, cx, true⟩
structure BodyOk (K : PySem.W.Frag) (fs : List Str) (cx : Cst) (nm qual : Str) (d : Dfn) (fa : Addr) : Prop where
  ex : ∃ (fd : FuncData) (st : Stmt) (N : List Str), Fun K nm qual st fa fd ∧ (∀ us : List Value, us.length = d.ps.length → bindArgs fd ⟨us, []⟩ = pure (d.ps.zip us)) ∧ FnScope N d.ps (defScope st) ∧ N.length = d.nl ∧ chkSs d.body (scOf N st fs cx) (defBody st) = true
structure DefOk (K : PySem.W.Frag) (mg : Str → Option Value) (fs : List Str) (cx : Cst) (f : Str) (d : Dfn) : Prop where
  ex : ∃ (fa : Addr) (nm : Str), mg f = some (.ref fa) ∧ PySem.W.keepIn K (.ref fa) = true ∧ BodyOk K fs cx nm nm d fa
structure Txt (G : Gx) (mg : Str → Option Value) (T : Str → Option Dfn) (gl : Str → Option D) (fs : List Str) (cx : Cst) : Prop where
  defs : ∀ f ∈ fs, ∃ d, T f = some d ∧ DefOk G.K mg fs cx f d
  bn : ∀ x ∈ bnames, mg x = none
  gl : ∀ x d, gl x = some d → ∃ u v, mg x = some u ∧ RelV v u ∧ ∀ M H, Rep G M H d v
  ms : ∀ t ∈ cx.ms, ∃ C fa d, G.cls t.1 = some C ∧ Cls G.K C ∧ Meth G.K C t.2.1 fa ∧ T t.2.2 = some d ∧ BodyOk G.K fs cx t.2.1 t.2.2 d fa
  nw : ∀ t ∈ cx.nw, ∃ C fa d, G.cls t.1 = some C ∧ mg t.1 = some (.ref C) ∧ Mk G.K C fa ∧ T t.2 = some d ∧ BodyOk G.K fs cx "__init__" t.2 d fa
  fl : ∀ t ∈ cx.fl, FldOk G t.1 t.2
  xs : ∀ c ∈ cx.xs, XcOk G mg c
  kd : ∀ t ∈ cx.kd, KdOk G mg t.1 t.2
  ca : ∀ t ∈ cx.ca, CaOk G mg t.1 t.2
  is : ∀ t ∈ cx.is, IsOk G mg t.1 t.2
def spK (G : Gx) (T : Str → Option Dfn) (gl : Str → Option D) (k : Nat) (f : Str) : Sp := fun vs H Q E => ∃ ds M W Q0, callK T gl k f ds M Q0 W ∧ OkM G M H ∧ RepL G M H ds vs ∧ Rz G M H Q0 Q ∧
  (∀ c M' H', W c M' → OkM G M' H' → Ext M H M' H' → ∀ C, G.cls c = some C → E (.ref C) none H') ∧ vs.length = ((T f).map fun d => d.ps.length).getD 0
section
variable {P : Program} {w : World} {G : Gx} {mg : Str → Option Value} {base : Heap} {T : Str → Option Dfn} {gl : Str → Option D} {fs : List Str} {cx : Cst}
/-- a def at its level -/
def AtLevel (G : Gx) (mg : Str → Option Value) (base : Heap) (T : Str → Option Dfn) (gl : Str → Option D) (fs : List Str) (cx : Cst) (k : Nat) : Prop := ∀ (f : Str) d, T f = some d → ∀ (fa : Addr) (fd : FuncData) (st : Stmt) (N : List Str) (nm qual : Str), Fun G.K nm qual st fa fd →
    FnScope N d.ps (defScope st) → N.length = d.nl → chkSs d.body (scOf N st fs cx) (defBody st) = true → FnOk G.P G.w G.K mg base (L2.CX G.P G.w) (2 * k) fa fd d.ps (spK G T gl k f)
theorem run_level {X : Cx} {k r : Nat} (ih : AtLevel G mg base T gl fs cx k) (hP : X.prog = G.P) (hw : X.w = G.w) (hK : X.K = G.K) (hm : X.mg = mg) (hbs : X.base = base) (hr : Room (2 * k + r) X.A) {g : Str} {d : Dfn} {fa : Addr} {nm qual : Str} (hT : T g = some d)
    (B : BodyOk G.K fs cx nm qual d fa) : RunOk X G ⟨callK T gl k, gl⟩ r fa g := by
  obtain ⟨fd', st', N', F', hb', S', hn', hc'⟩ := B.ex
  subst hm hbs
  refine ⟨2 * k, fd', d.ps, spK G T gl k g, by rw [hP, hw, hK]; exact ih g d hT fa fd' st' N' nm qual F' S' hn' hc', hr, Binds.all hb', fun ds M W vs H Q0 Q E h1 h2 h3 h4 h5 => ⟨ds, M, W, Q0, h1, h2, h3, h4, h5, ?_⟩⟩
  cases k with
  | zero => exact h1.elim
  | succ k =>
    obtain ⟨d2, hT2, hl2, _⟩ := h1
    rw [hT2, ← h3.length, hl2]
    rfl
theorem fn_all (X : Txt G mg T gl fs cx) : ∀ (k : Nat), AtLevel G mg base T gl fs cx k := by
  intro k
  induction k with
  | zero =>
    intro f d hT fa fd st N nm qual F S hn hc
    exact ⟨fun vs H Q E ⟨ds, M, W, Q0, h, _⟩ => h.elim, fun _ _ _ _ _ _ _ _ _ _ _ _ _ ⟨ds, M, W, Q0, h, _⟩ => h.elim⟩
  | succ k ih =>
    intro f d hT fa fd st N nm qual F S hn hc
    refine Fun.okX (k := 2 * k + 1) F S (fun vs H Q E ⟨ds, M, W, Q0, h, ok, rl, z, zw, hv⟩ => by rw [hv, hT]; rfl) (fun cdv A outer s H vs Q E hr ⟨ds, M, W, Q0, ⟨d', hT', hds, h⟩, ok, rl, z, zw, hv⟩ => ?_)
    rw [hT] at hT'
    cases hT'
    have Z : Sta (cxOf (L2.CX G.P G.w) G.P G.w G.K mg base N qual (defScope st) fa cdv A outer s H E) (scOf N st fs cx) G ⟨callK T gl k, gl⟩ W M H := {
      N := rfl
      nd := S.nd
      sc := rfl
      calm := rfl
      K := rfl
      P := rfl
      w := rfl
      wr := fun x hx => by
        have hx : (match (defScope st).names.lookup x with | some .local => true | some .cell => true | _ => false) = true := hx
        refine ⟨?_, .inl rfl⟩
        show (defScope st).names.lookup x = _ ∨ (defScope st).names.lookup x = _
        split at hx
        · exact .inl (by assumption)
        · exact .inr (by assumption)
        · cases hx
      bn := X.bn
      gl := X.gl
      fns := fun g hg => by
        obtain ⟨dg, hTg, ⟨fa', _, hm', hk', B⟩⟩ := X.defs g hg
        obtain ⟨n, fd', ps, sp, h1, h2, h3, h4⟩ := run_level (X := cxOf (L2.CX G.P G.w) G.P G.w G.K mg base N qual (defScope st) fa cdv A outer s H E) (r := 0) ih rfl rfl rfl rfl rfl (hr.mono (Nat.le_succ _)) hTg B
        exact ⟨n, fa', fd', ps, sp, h1, h2, hm', hk', h3, h4⟩
      pass := passes_call (takes_of (E := E) rfl rfl rfl rfl) fun cls d σ H' ⟨c, C, M', hw, hC, e1, e2, ok', e'⟩ => by
        subst e1 e2
        exact zw c M' H' hw ok' e' C hC
      own := passes_of rfl
      hu := by have := hr.un; show A.units + 3 + 65 < cLine; have h2 : (A.deeper (envOfC qual (defScope st) s.heap.objs.size fa cdv)).units = A.units + 3 := rfl; rw [h2] at this; omega
      ms := fun t ht => by
        obtain ⟨C, fa', dg, hC, hc, hM, hTg, B⟩ := X.ms t ht
        exact ⟨C, fa', hC, hc, hM, run_level ih rfl rfl rfl rfl rfl (hr.mono (Nat.le_succ _)) hTg B⟩
      nw := fun t ht => by
        obtain ⟨C, fa', dg, hC, hm', hM, hTg, B⟩ := X.nw t ht
        exact ⟨C, fa', hC, hm', hM, run_level ih rfl rfl rfl rfl rfl hr hTg B⟩
      fl := X.fl
      xs := X.xs
      kd := X.kd
      ca := X.ca
      is := X.is
      tk := fun _ => Takes.imp (takes_of (E := E) rfl rfl rfl rfl) fun cls d σ H' ⟨c, C, M', hw, hC, e1, e2, ok', e'⟩ => by
        subst e1 e2
        exact zw c M' H' hw ok' e' C hC
      stk := fun _ => ⟨rfl, rfl⟩ }
    refine ⟨_, sndSs d.body hc Z, ?_⟩
    have hlen := rl.length
    refine ⟨_, M, _, ⟨Ext.refl, ?_, ok⟩, h, fun σ' M' σV' H' hq _ ok' e' => z _ _ _ _ hq ok' rfl e', fun d' M' v H' hq ok' r' e' => z _ _ _ _ hq ok' r' e'⟩
    have hnl : d.ps.length ≤ d.nl := by
      have q := congrArg List.length S.pre
      rw [List.length_take] at q
      omega
    refine ⟨?_, fun i x hx => ?_⟩
    · unfold L2.start
      simp only [List.length_append, List.length_map, List.length_replicate]
      omega
    · unfold L2.start
      by_cases hi : i < ds.length
      · rw [List.getElem?_append_left (by simpa using hi), List.getElem?_map] at hx
        cases q : ds[i]? with
        | none => rw [q] at hx; cases hx
        | some y =>
          rw [q] at hx
          cases hx
          obtain ⟨v, hv', rv⟩ := rl.get q
          refine ⟨v, ?_, rv⟩
          rw [List.getElem?_append_left (by rw [List.length_map, ← hlen]; exact hi), List.getElem?_map, hv']
          rfl
      · rw [List.getElem?_append_right (by simpa using hi), List.getElem?_replicate] at hx
        split at hx <;> cases hx
/-- the classes by their names in the module -/
def gOf (K : PySem.W.Frag) (P : Program) (w : World) : Gx := ⟨K, fun c => match PySem.W.nsIn K mainGlobals c with | some (some (.ref C)) => some C | _ => none, P, w⟩
end
theorem scr_of {K : PySem.W.Frag} {P : Program} {w : World} {H : Hp} {a : Addr} {ns : List Int} (hS : SqL K H a (ns.map V.int)) (hO : Only H) : Rep (gOf K P w) (fun _ => none) H (.scr (ns.map .int)) (.ref a) := by
  have rl : ∀ ns : List Int, RepL (gOf K P w) (fun _ => none) H (ns.map D.int) (ns.map V.int) := by
    intro ns
    induction ns with
    | nil => exact RepL.nil
    | cons n r ih => exact RepL.cons (by unfold Rep; rfl) ih
  unfold Rep
  refine ⟨a, _, rfl, ?_, rl ns⟩
  rcases hS with h | h
  · left
    refine ⟨rfl, ?_⟩
    rcases hO a with e | ⟨o, xs, e⟩
    · rcases h with h | ⟨o, h⟩ <;> rw [e] at h <;> cases h
    · rcases h with h | ⟨o', h⟩
      · rw [e] at h; cases h
      · exact ⟨o', h⟩
  · exact .inr h
theorem law_walk {l : PySem.W.OpenLaw} {q : Program} {loose : List Str} {XP : (Str → Option Value) → Heap → Prop} {YP : World → Heap → Prop} {d : DefRec} {K : Params → PySem.W.Frag} (T : Str → Option Dfn) (gl : Str → Option D) (fs : List Str) (cx : Cst) (KM : Nat)
    (hn : l.most = some 63) (hdf : d.params.defaults = []) (hnm : d.name = "law") (hr : Room (2 * KM) callerA) (hfs : ("law" : Str) ∈ fs) {dl : Dfn} (hT : T ("law" : Str) = some dl) (hps : dl.ps = [("script" : Str)])
    (main : ∀ ns : List Int, ns.length ≤ 63 → callK T gl KM "law" [.scr (ns.map .int)] (fun _ => none) (fun d _ => d = .bl true) W0)
    (hY : ∀ (w : World) (h : Heap), YP w h → (K w.params).In h)
    (F : ∀ (w : World) (mg : Str → Option Value) (h : Heap), (K w.params).In h → h.Ns mainGlobals mg → Txt (gOf (K w.params) l.prog w) mg T gl fs cx) :
    PySem.W.WalkO q loose XP YP l.row.toRowW d [] (fun f vs => PySem.call f vs) := by
  refine L2.walk_of (n := 63) (k := 2 * KM) (x := "script") (CX := fun w => L2.CX l.prog w) (sp := fun w => spK (gOf (K w.params) l.prog w) T gl KM "law") hn (by decide) hdf hr hY (fun w mg fa h KX G hmg => ?_) (fun w H a ns hl hO hS => ?_) ?_
  · have X := F w mg h KX G
    obtain ⟨d', hT', ⟨fa', _, hm, hk, ⟨fd, st, N, F', hb, S, hN, hc⟩⟩⟩ := X.defs "law" hfs
    have e := hT.symm.trans hT'
    cases e
    rw [hnm] at hmg
    have e := hmg.symm.trans hm
    cases e
    rw [hps] at hb
    refine ⟨fd, fun s u => .of_eq (hb [u] rfl), fun base hK hns => ?_⟩
    have := fn_all (base := base) X KM "law" _ hT _ fd st N _ _ F' S hN hc
    rw [hps] at this
    exact this
  · refine ⟨[.scr (ns.map .int)], fun _ => none, W0, _, main ns hl, (fun _ _ h => by cases h), RepL.cons (scr_of hS hO) RepL.nil, (fun d M' v H' e _ r _ => by subst e; unfold Rep at r; exact r), (fun _ _ _ h => h.elim), ?_⟩
    rw [hT]
    show 1 = dl.ps.length
    rw [hps]; rfl
  · intro w H s e s' h
    obtain ⟨_, _, _, _, _, _, _, _, _, _, _, _, h⟩ := h
    exact h
end Ev
namespace Ev
open PySem PySem.Spec PyProof.Rows L2
/-! ### joining -/
/-- what is fixed of a def by the text alone -/
structure Stat (fs : List Str) (cx : Cst) (nm qual : Str) (d : Dfn) (st : Stmt) (N : List Str) : Prop where
  sc : FnScope N d.ps (defScope st)
  len : N.length = d.nl
  chk : chkSs d.body (scOf N st fs cx) (defBody st) = true
  bd : ∀ (kV doc pm : Value) (an : Option Addr) (cdv ct : Value) (us : List Value), us.length = d.ps.length → bindArgs (PySem.W.fnOf nm qual (defArgs st) (defBody st) (defScope st) .none kV doc pm an cdv ct) ⟨us, []⟩ = pure (d.ps.zip us)
theorem BodyOk.of {K : PySem.W.Frag} {fs : List Str} {cx : Cst} {nm qual : Str} {d : Dfn} {st : Stmt} {N : List Str} {fa : Addr} {oc : Value} {od an : Option Addr} {osl : Array (Option Value)} {kV doc pm cdv ct : Value}
    (Z : Stat fs cx nm qual d st N) (l : K.lookup fa = some ⟨oc, od, .func (PySem.W.fnOf nm qual (defArgs st) (defBody st) (defScope st) .none kV doc pm an cdv ct), osl⟩)
    (c : PySem.W.codeIn K cdv qual = true) (k : PySem.W.keepIn K (.ref fa) = true) : BodyOk K fs cx nm qual d fa :=
  ⟨_, st, N, fun_mk l c k, Z.bd kV doc pm an cdv ct, Z.sc, Z.len, Z.chk⟩
theorem DefOk.of {K : PySem.W.Frag} {h : Heap} {mg : Str → Option Value} {fs : List Str} {cx : Cst} {f nm : Str} {d : Dfn} {st : Stmt} {N : List Str} {fa : Addr} {oc : Value} {od an : Option Addr} {osl : Array (Option Value)} {kV doc pm cdv ct : Value}
    (Z : Stat fs cx nm nm d st N) (KX : K.In h) (G : h.Ns mainGlobals mg) (a : PySem.W.nsIn K mainGlobals f = some (some (.ref fa)))
    (l : K.lookup fa = some ⟨oc, od, .func (PySem.W.fnOf nm nm (defArgs st) (defBody st) (defScope st) .none kV doc pm an cdv ct), osl⟩)
    (c : PySem.W.codeIn K cdv nm = true) (k : PySem.W.keepIn K (.ref fa) = true) : DefOk K mg fs cx f d :=
  ⟨fa, nm, PySem.W.mg_of KX G a, k, BodyOk.of Z l c k⟩
theorem bn_of {K : PySem.W.Frag} {h : Heap} {mg : Str → Option Value} (KX : K.In h) (G : h.Ns mainGlobals mg)
    (b : (bnames.all fun x => match PySem.W.nsIn K mainGlobals x with | some none => true | _ => false) = true) : ∀ x ∈ bnames, mg x = none := by
  intro x hx
  have := List.all_eq_true.mp b x hx
  split at this
  · exact PySem.W.mg_none_of KX G (by assumption)
  · cases this
theorem callK_intro {T : Str → Option Dfn} {gl : Str → Option D} {k : Nat} {f : Str} {ds : List D} {M : Mem} {Q : VQ} {W : WQ} {d : Dfn} (hT : T f = some d) (hl : ds.length = d.ps.length)
    (h : wpS ⟨callK T gl k, gl⟩ W d.body (ds.map some ++ List.replicate (d.nl - d.ps.length) none) M ⟨fun _ M' => Q .non M', Q⟩) : callK T gl (k + 1) f ds M Q W := ⟨d, hT, hl, h⟩
end Ev

/-! Ev, part P: rules for running the small text. -/
namespace Ev
open PySem PySem.Spec PyProof.Rows L2
section
variable {M : Mem} {Q : VQ} {F : Fx} {W : WQ} {σ : Env} {m : Bool}
theorem q_add (i j : Int) : binQ .Add m M (.int i) (.int j) Q = Q (.int (i + j)) M := rfl
theorem q_adds (s t : Str) : binQ .Add m M (.str s) (.str t) Q = (s.length + t.length ≤ sizeLine ∧ Q (.str (s ++ t)) M) := rfl
theorem q_addt (ds es : List D) : binQ .Add m M (.tup ds) (.tup es) Q = (ds.length + es.length ≤ sizeLine ∧ Q (.tup (ds ++ es)) M) := rfl
theorem ex2 {α β : Type} {a : α} {b : β} {P : α → β → Prop} : (∃ x y, some a = some x ∧ some b = some y ∧ P x y) = P a b := propext ⟨fun ⟨_, _, h1, h2, h⟩ => by cases h1; cases h2; exact h, fun h => ⟨_, _, rfl, rfl, h⟩⟩
theorem q_addl (ds es : List D) : binQ .Add m M (.lst ds) (.lst es) Q = newL m (ds ++ es) M Q := ex2 (P := fun x y => newL m (x ++ y) M Q)
theorem q_addm {a : Addr} {ds : List D} (h : M a = some (.lst ds)) (es : List D) : binQ .Add m M (.mr a) (.lst es) Q = newL m (ds ++ es) M Q := by
  show (∃ x y, ownL M (.mr a) = some x ∧ ownL M (.lst es) = some y ∧ newL m (x ++ y) M Q) = _
  simp only [ownL, h]; exact ex2 (P := fun x y => newL m (x ++ y) M Q)
theorem q_sub (i j : Int) : binQ .Sub m M (.int i) (.int j) Q = Q (.int (i - j)) M := rfl
theorem q_mul (i j : Int) : binQ .Mult m M (.int i) (.int j) Q = ((CMul i j ∨ CMulW i j) ∧ Q (.int (i * j)) M) := rfl
theorem q_rep (ds : List D) (k : Int) : binQ .Mult m M (.lst ds) (.int k) Q = (-(2 ^ 63) ≤ k ∧ k < 2 ^ 63 ∧ newL m (List.replicate k.toNat ds).flatten M Q) :=
  propext ⟨fun ⟨_, h, r⟩ => by cases h; exact r, fun h => ⟨_, rfl, h⟩⟩
theorem q_div (i j : Int) : binQ .FloorDiv m M (.int i) (.int j) Q = ((CDiv i j ∨ CDivW i j) ∧ Q (.int (i / j)) M) := rfl
theorem q_mod (i j : Int) : binQ .Mod m M (.int i) (.int j) Q = (0 < j ∧ Q (.int (i % j)) M) := rfl
theorem q_pow (i j : Int) : binQ .Pow m M (.int i) (.int j) Q = (CPow i j ∧ Q (.int (i ^ j.toNat)) M) := rfl
/-- a plain value at an index -/
theorem q_ixm {a : Addr} {ds : List D} (h : M a = some (.lst ds)) (i : Int) : ixQ M (.mr a) (.int i) Q = ∃ d, atI ds i = some d ∧ Q d M := by
  unfold ixQ
  simp only [dget, h, seqOf, lstOf]
  exact propext ⟨fun ⟨_, _, d, h1, h2, r⟩ => by cases h1; cases h2; exact ⟨d, r⟩, fun ⟨d, r⟩ => ⟨_, _, d, rfl, rfl, r⟩⟩
theorem q_ixl (ds : List D) (i : Int) : ixQ M (.lst ds) (.int i) Q = ∃ d, atI ds i = some d ∧ Q d M :=
  propext ⟨fun ⟨_, _, d, h1, h2, r⟩ => by cases h1; cases h2; exact ⟨d, r⟩, fun ⟨d, r⟩ => ⟨_, _, d, rfl, rfl, r⟩⟩
theorem q_ixs (ds : List D) (i : Int) : ixQ M (.scr ds) (.int i) Q = ∃ d, atI ds i = some d ∧ Q d M :=
  propext ⟨fun ⟨_, _, d, h1, h2, r⟩ => by cases h1; cases h2; exact ⟨d, r⟩, fun ⟨d, r⟩ => ⟨_, _, d, rfl, rfl, r⟩⟩
theorem q_ixt (ds : List D) (i : Int) : ixQ M (.tup ds) (.int i) Q = ∃ d, atI ds i = some d ∧ Q d M :=
  propext ⟨fun ⟨_, _, d, h1, h2, r⟩ => by cases h1; cases h2; exact ⟨d, r⟩, fun ⟨d, r⟩ => ⟨_, _, d, rfl, rfl, r⟩⟩
theorem q_ixk (ds : List D) (i : Int) : ixQ M (.kt ds) (.int i) Q = ∃ d, atI ds i = some d ∧ Q d M :=
  propext ⟨fun ⟨_, _, d, h1, h2, r⟩ => by cases h1; cases h2; exact ⟨d, r⟩, fun ⟨d, r⟩ => ⟨_, _, d, rfl, rfl, r⟩⟩
theorem q_ixf (ds : List D) (i : Int) : ixQ M (.ft ds) (.int i) Q = ∃ d, atI ds i = some d ∧ Q d M :=
  propext ⟨fun ⟨_, _, d, h1, h2, r⟩ => by cases h1; cases h2; exact ⟨d, r⟩, fun ⟨d, r⟩ => ⟨_, _, d, rfl, rfl, r⟩⟩
theorem q_ixstr (z : Str) (i : Int) : ixQ M (.str z) (.int i) Q = (z.length ≤ sizeLine ∧ ∃ c, atI z.cps.toList i = some c ∧ Q (.str ⟨#[c]⟩) M) :=
  propext ⟨fun ⟨_, c, h1, h2, h3, r⟩ => by cases h1; exact ⟨h2, c, h3, r⟩, fun ⟨h2, c, h3, r⟩ => ⟨_, c, rfl, h2, h3, r⟩⟩
theorem q_ixd {a : Addr} {kvs : List (Key × D)} (h : M a = some (.dK kvs)) (i : Int) : ixQ M (.mr a) (.int i) Q = ∃ d, getK kvs (.inl i) = some d ∧ Q d M := by
  unfold ixQ
  simp only [dget, h, keyD, Option.map]
theorem q_ixds {a : Addr} {kvs : List (Key × D)} (h : M a = some (.dK kvs)) (x : Str) : ixQ M (.mr a) (.str x) Q = ∃ d, getK kvs (.inr x) = some d ∧ Q d M := by
  unfold ixQ
  simp only [dget, h, keyD, Option.map]
/-! nested keys -/
theorem q_ixN {a : Addr} {kvs : List (NK × D)} {y : D} {k : NK} (h : M a = some (.dN kvs)) (hk : keyNT y = some k) : ixQ M (.mr a) y Q = ∃ d, getK kvs k = some d ∧ Q d M := by
  unfold ixQ
  simp only [dget, h, hk, Option.map]
theorem u_N {p : Addr} {kvs : List (NK × D)} {y d : D} {k : NK} {q : Mem → Prop} (h : M p = some (.dN kvs)) (hk : keyNT y = some k) (hj : kvs.length < sizeLine) (hq : q (mput M p (.dN (setK kvs k d)))) : setQ M (.mr p) y d q := .inr (.inr (.inr ⟨p, kvs, k, rfl, h, hk, hj, hq⟩))
theorem in_N {p : Addr} {kvs : List (NK × D)} {y : D} {k : NK} {q : Bool → Prop} (h : M p = some (.dN kvs)) (hk : keyNT y = some k) : inQ M y (.mr p) q = q (getK kvs k).isSome := by
  unfold inQ
  simp only [dget, h, hk, Option.map]
theorem get2_N {p : Addr} {kvs : List (NK × D)} {y d : D} {k : NK} {b : Bool} (h : M p = some (.dN kvs)) (hk : keyNT y = some k) : miQ .get2 b M (.mr p) [y, d] Q = Q ((getK kvs k).getD d) M := by
  have e : dget M (.mr p) y = some (getK kvs k) := by simp only [dget, h, hk, Option.map]
  show (∃ o, dget M (.mr p) y = some o ∧ Q (o.getD d) M) = _
  rw [e]
  exact propext ⟨fun ⟨o, h1, h2⟩ => by cases h1; exact h2, fun h => ⟨_, rfl, h⟩⟩
theorem rh_get2N {p : Addr} {kvs : List (NK × D)} (h : M p = some (.dN kvs)) : recvOk .get2 M (.mr p) := ⟨p, rfl, .inr (.inr (.inl ⟨kvs, h⟩))⟩
/-! a nested dict, written still or not -/
def IsN (M : Mem) (a : Addr) (kvs : List (NK × D)) : Prop := M a = some (.dN kvs) ∨ ∃ o, M a = some (.dF o kvs)
theorem IsN.get {a : Addr} {kvs : List (NK × D)} {y : D} {k : NK} (h : IsN M a kvs) (hk : keyNT y = some k) : dget M (.mr a) y = some (getK kvs k) := by
  rcases h with h | ⟨o, h⟩ <;> simp only [dget, h, hk, Option.map]
theorem IsN.ix {a : Addr} {kvs : List (NK × D)} {y : D} {k : NK} (h : IsN M a kvs) (hk : keyNT y = some k) : ixQ M (.mr a) y Q = ∃ d, getK kvs k = some d ∧ Q d M := by
  unfold ixQ
  simp only [h.get hk]
theorem IsN.in {p : Addr} {kvs : List (NK × D)} {y : D} {k : NK} {q : Bool → Prop} (h : IsN M p kvs) (hk : keyNT y = some k) : inQ M y (.mr p) q = q (getK kvs k).isSome := by
  unfold inQ
  simp only [h.get hk]
theorem IsN.get2 {p : Addr} {kvs : List (NK × D)} {y d : D} {k : NK} {b : Bool} (h : IsN M p kvs) (hk : keyNT y = some k) : miQ .get2 b M (.mr p) [y, d] Q = Q ((getK kvs k).getD d) M := by
  show (∃ o, dget M (.mr p) y = some o ∧ Q (o.getD d) M) = _
  rw [h.get hk]
  exact propext ⟨fun ⟨o, h1, h2⟩ => by cases h1; exact h2, fun h => ⟨_, rfl, h⟩⟩
theorem IsN.rh {p : Addr} {kvs : List (NK × D)} (h : IsN M p kvs) : recvOk .get2 M (.mr p) := by
  rcases h with h | ⟨o, h⟩
  · exact ⟨p, rfl, .inr (.inr (.inl ⟨kvs, h⟩))⟩
  · exact ⟨p, rfl, .inr (.inr (.inr ⟨o, kvs, h⟩))⟩
theorem IsN.len {p : Addr} {kvs : List (NK × D)} {b : Bool} (h : IsN M p kvs) (q : Q (.int kvs.length) M) : biQ .lenD b M [.mr p] Q := ⟨p, kvs, rfl, h, q⟩
/-- conditions -/
theorem c_ii (i j : Int) (k : Bool → Prop) : eqQ M (.int i) (.int j) k = k (decide (i = j)) := rfl
theorem c_ss (i j : Str) (k : Bool → Prop) : eqQ M (.str i) (.str j) k = k (decide (i = j)) := rfl
theorem c_bb (i j : Bool) (k : Bool → Prop) : eqQ M (.bl i) (.bl j) k = k (decide (i = j)) := rfl
theorem c_lt (i j : Int) (k : Bool → Prop) : cmpQ .Lt M (.int i) (.int j) k = k (decide (i < j)) := propext ⟨fun ⟨_, _, h1, h2, h⟩ => by cases h1; cases h2; exact h, fun h => ⟨_, _, rfl, rfl, h⟩⟩
theorem c_le (i j : Int) (k : Bool → Prop) : cmpQ .LtE M (.int i) (.int j) k = k (decide (i ≤ j)) := propext ⟨fun ⟨_, _, h1, h2, h⟩ => by cases h1; cases h2; exact h, fun h => ⟨_, _, rfl, rfl, h⟩⟩
theorem c_gt (i j : Int) (k : Bool → Prop) : cmpQ .Gt M (.int i) (.int j) k = k (decide (j < i)) := propext ⟨fun ⟨_, _, h1, h2, h⟩ => by cases h1; cases h2; exact h, fun h => ⟨_, _, rfl, rfl, h⟩⟩
theorem c_ge (i j : Int) (k : Bool → Prop) : cmpQ .GtE M (.int i) (.int j) k = k (decide (j ≤ i)) := propext ⟨fun ⟨_, _, h1, h2, h⟩ => by cases h1; cases h2; exact h, fun h => ⟨_, _, rfl, rfl, h⟩⟩
theorem c_eq (x y : D) (k : Bool → Prop) : cmpQ .Eq M x y k = eqQ M x y k := rfl
theorem c_ne (x y : D) (k : Bool → Prop) : cmpQ .NotEq M x y k = eqQ M x y fun b => k (!b) := rfl
theorem c_is (x : D) (k : Bool → Prop) : cmpQ .Is M x .non k = k (isNon x) := propext ⟨fun h => by (rcases h with ⟨_, h⟩ | ⟨_, _, _, e, _⟩ <;> first | exact h | (cases e; done)), fun h => .inl ⟨rfl, h⟩⟩
theorem c_isn (x : D) (k : Bool → Prop) : cmpQ .IsNot M x .non k = k (!isNon x) := propext ⟨fun h => by (rcases h with ⟨_, h⟩ | ⟨_, _, _, e, _⟩ <;> first | exact h | (cases e; done)), fun h => .inl ⟨rfl, h⟩⟩
theorem c_isb (a b : Bool) (k : Bool → Prop) : cmpQ .Is M (.bl a) (.bl b) k = k (decide (a = b)) := propext ⟨fun h => by (rcases h with ⟨e, _⟩ | ⟨_, _, e1, e2, h⟩ <;> first | (cases e; done) | (cases e1; cases e2; exact h)), fun h => .inr ⟨a, b, rfl, rfl, h⟩⟩
theorem c_isnb (a b : Bool) (k : Bool → Prop) : cmpQ .IsNot M (.bl a) (.bl b) k = k (!decide (a = b)) := propext ⟨fun h => by (rcases h with ⟨e, _⟩ | ⟨_, _, e1, e2, h⟩ <;> first | (cases e; done) | (cases e1; cases e2; exact h)), fun h => .inr ⟨a, b, rfl, rfl, h⟩⟩
theorem c_in (x y : D) (k : Bool → Prop) : cmpQ .In M x y k = inQ M x y k := rfl
theorem c_nin (x y : D) (k : Bool → Prop) : cmpQ .NotIn M x y k = inQ M x y fun b => k (!b) := rfl
theorem l_new1 (ds : List D) : newL true ds M Q = (ds.length ≤ sizeLine ∧ ∀ a, M a = none → Q (.mr a) (mput M a (.lst ds))) := by unfold newL; rw [if_pos rfl]
theorem l_new0 (ds : List D) : newL false ds M Q = (ds.length ≤ sizeLine ∧ Q (.lst ds) M) := by unfold newL; rw [if_neg Bool.false_ne_true]
theorem u_lst {p : Addr} {ds : List D} {d : D} {k : Int} {j : Nat} {q : Mem → Prop} (h : M p = some (.lst ds)) (hj : ixN ds.length k = some j) (hq : q (mput M p (.lst (ds.set j d)))) : setQ M (.mr p) (.int k) d q := .inl ⟨p, ds, k, j, rfl, h, rfl, hj, hq⟩
theorem u_dic {p : Addr} {kvs : List (Key × D)} {d : D} {k : Int} {q : Mem → Prop} (h : M p = some (.dK kvs)) (hj : kvs.length < sizeLine) (hq : q (mput M p (.dK (setK kvs (.inl k) d)))) : setQ M (.mr p) (.int k) d q := .inr (.inl ⟨p, kvs, _, rfl, h, rfl, hj, hq⟩)
theorem u_dics {p : Addr} {kvs : List (Key × D)} {d : D} {k : Str} {q : Mem → Prop} (h : M p = some (.dK kvs)) (hj : kvs.length < sizeLine) (hq : q (mput M p (.dK (setK kvs (.inr k) d)))) : setQ M (.mr p) (.str k) d q := .inr (.inl ⟨p, kvs, _, rfl, h, rfl, hj, hq⟩)
/-- slots -/
theorem v0 {x : Option D} {r : Env} {P : D → Prop} {d : D} (h : x = some d) : (∃ e, (x :: r)[0]? = some (some e) ∧ P e) = P d := by
  subst h
  exact propext ⟨fun ⟨_, h, r⟩ => by cases h; exact r, fun h => ⟨_, rfl, h⟩⟩
theorem f_refl {d : D} {M0 M1 : Mem} {Q : VQ} (h : Q d (restr M0 M1)) : frzQ M0 Q d M1 := ⟨d, .refl d, h⟩
theorem f_lst {a : Addr} {ds : List D} {M0 M1 : Mem} {Q : VQ} (h0 : M0 a = none) (h1 : M1 a = some (.lst ds)) (h : Q (.lst ds) (restr M0 M1)) : frzQ M0 Q (.mr a) M1 := ⟨_, .lst h0 h1 (.refl _), h⟩
/-- a call whose list is new: plain data behind it -/
theorem f_new {a : Addr} {ds : List D} {M0 : Mem} {Q : VQ} (h0 : M0 a = none) (h : Q (.lst ds) M0) : frzQ M0 Q (.mr a) (mput M0 a (.lst ds)) := by
  refine ⟨_, .lst h0 mput_same (.refl _), ?_⟩
  rw [restr_new h0, restr_self]; exact h
/-! ### places, sizes -/
theorem atI_nat {α : Type} (xs : List α) (k : Nat) : atI xs (k : Int) = xs[k]? := by
  unfold atI ixN
  rw [if_pos (Int.natCast_nonneg k)]
  by_cases h : k < xs.length
  · rw [if_pos (by omega)]; rfl
  · rw [if_neg (by omega), List.getElem?_eq_none (by omega)]; rfl
theorem atI_lit {α : Type} (xs : List α) (k : Nat) : atI xs (no_index (OfNat.ofNat (α := Int) k)) = xs[(OfNat.ofNat k : Nat)]? := atI_nat xs k
theorem atI_last {α : Type} (xs : List α) (h : xs ≠ []) : atI xs (-1) = some (xs.getLast h) := by
  unfold atI ixN
  have hl : 0 < xs.length := List.length_pos_iff.mpr h
  rw [if_neg (by omega), if_pos (by omega)]
  show xs[(-1 + (xs.length : Int)).toNat]? = _
  rw [show (-1 + (xs.length : Int)).toNat = xs.length - 1 from by omega, List.getLast_eq_getElem, List.getElem?_eq_getElem (by omega)]
theorem ixN_nat {n k : Nat} (h : k < n) : ixN n (k : Int) = some k := by
  unfold ixN
  rw [if_pos (Int.natCast_nonneg k), if_pos (by omega)]; rfl
theorem ixN_lit {n k : Nat} : ixN n (no_index (OfNat.ofNat (α := Int) k)) = if k < n then some k else none := by
  by_cases h : k < n
  · rw [if_pos h]; exact ixN_nat h
  · rw [if_neg h]
    show ixN n (k : Int) = none
    unfold ixN
    rw [if_pos (Int.natCast_nonneg k), if_neg (by omega)]
theorem q_ixmm {a : Addr} {ds : List D} (i : Int) : ixQ (mput M a (.lst ds)) (.mr a) (.int i) Q = ∃ d, atI ds i = some d ∧ Q d (mput M a (.lst ds)) := q_ixm mput_same i
theorem u_eq {p : Addr} {ds : List D} {d : D} {k : Int} {q : Mem → Prop} (h : M p = some (.lst ds)) : setQ M (.mr p) (.int k) d q = ∃ j, ixN ds.length k = some j ∧ q (mput M p (.lst (ds.set j d))) := by
  refine propext ⟨fun z => ?_, fun ⟨j, h1, h2⟩ => .inl ⟨p, ds, k, j, rfl, h, rfl, h1, h2⟩⟩
  rcases z with ⟨p', ds', k', j, e1, e2, e3, e4, e5⟩ | ⟨p', kvs, k', e1, e2, _⟩ | ⟨p', kvs, k', e1, e2, _⟩ | ⟨p', kvs, k', e1, e2, _⟩
  · cases e1; cases e3; rw [h] at e2; cases e2; exact ⟨j, e4, e5⟩
  · cases e1; rw [h] at e2; cases e2
  · cases e1; rw [h] at e2; cases e2
  · cases e1; rw [h] at e2; cases e2
theorem u_eqm {p : Addr} {ds : List D} {d : D} {k : Int} {q : Mem → Prop} : setQ (mput M p (.lst ds)) (.mr p) (.int k) d q = ∃ j, ixN ds.length k = some j ∧ q (mput M p (.lst (ds.set j d))) := by
  rw [u_eq mput_same]; simp only [mput_mput]
theorem cm_r {i j : Int} (h1 : -(2 ^ 64) < j) (h2 : j < 2 ^ 64) : (CMul i j ∨ CMulW i j) = True := propext ⟨fun _ => trivial, fun _ => .inl (.inr ⟨h1, h2⟩)⟩
theorem cm_l {i j : Int} (h1 : -(2 ^ 64) < i) (h2 : i < 2 ^ 64) : (CMul i j ∨ CMulW i j) = True := propext ⟨fun _ => trivial, fun _ => .inl (.inl ⟨h1, h2⟩)⟩
theorem cm_mod {i j m : Int} (h1 : 0 < m) (h2 : m < 2 ^ 64) : (CMul i (j % m) ∨ CMulW i (j % m)) = True :=
  cm_r (Int.lt_of_lt_of_le (by decide) (Int.emod_nonneg j (by omega))) (Int.lt_trans (Int.emod_lt_of_pos j h1) h2)
theorem cd_s {i j : Int} (h1 : 0 < j) (h2 : j < 1073741824) : (CDiv i j ∨ CDivW i j) = True := propext ⟨fun _ => trivial, fun _ => .inl ⟨h1, h2⟩⟩
theorem cd_w {i j : Int} (h1 : 0 < j) (h2 : j.natAbs.log2 < 9000) : (CDiv i j ∨ CDivW i j) = True := propext ⟨fun _ => trivial, fun _ => .inr ⟨h1, h2⟩⟩
theorem cp_s {i j : Int} (h1 : 0 ≤ j) (h2 : j ≤ 1000000) (h3 : -(2 ^ 64) < i) (h4 : i < 2 ^ 64) : CPow i j = True := propext ⟨fun _ => trivial, fun _ => ⟨h1, h2, by omega⟩⟩
theorem tn_lit (k : Nat) : Int.toNat (no_index (OfNat.ofNat (α := Int) k)) = k := rfl
theorem s1 {n : Nat} (h : n ≤ 1000) : (n ≤ sizeLine) = True := propext ⟨fun _ => trivial, fun _ => Nat.le_trans h (by decide)⟩
theorem ex_len {α : Type} {a : α} {P : α → Prop} : (∃ x, some a = some x ∧ P x) = P a := propext ⟨fun ⟨_, h1, h⟩ => by cases h1; exact h, fun h => ⟨_, rfl, h⟩⟩
theorem ite_dec {p : Prop} [Decidable p] {a b : Prop} : (if decide p = true then a else b) = if p then a else b := by
  by_cases h : p <;> simp [h]
theorem ite_ndec {p : Prop} [Decidable p] {a b : Prop} : (if (!decide p) = true then a else b) = if p then b else a := by
  by_cases h : p <;> simp [h]
/-! ### loops -/
theorem loop_ind {α : Type} {turn : D → Env → Mem → (Env → Mem → Prop) → Prop} {still : Mem → Prop} {q : Env → Mem → Prop} (f : α → D) (I : Nat → Env → Mem → Prop) (N : Nat)
    (hs : ∀ n σ M, n ≤ N → I n σ M → still M) (hq : ∀ σ M, I N σ M → q σ M) :
    ∀ (xs : List α) (n : Nat) (σ : Env) (M : Mem), n + xs.length = N → I n σ M →
      (∀ (j : Nat) (x : α), xs[j]? = some x → ∀ σ M k, I (n + j) σ M → (∀ σ' M', I (n + j + 1) σ' M' → k σ' M') → turn (f x) σ M k) → loopQ turn still (xs.map f) σ M q
  | [], n, σ, M, hn, h, _ => ⟨hs n _ _ (by simp at hn; omega) h, hq _ _ (by simp at hn; subst hn; exact h)⟩
  | x :: xs, n, σ, M, hn, h, ht => ⟨hs n _ _ (by simp at hn; omega) h, ht 0 x rfl σ M _ h fun σ' M' h' => loop_ind f I N hs hq xs (n + 1) σ' M' (by simp at hn; omega) h'
      fun j y hy σ2 M2 k h2 hk => ht (j + 1) y (by simpa using hy) σ2 M2 k (by rw [show n + (j + 1) = n + 1 + j from by omega]; exact h2) (fun σ3 M3 h3 => hk σ3 M3 (by rw [show n + 1 + j + 1 = n + (j + 1) + 1 from by omega]; exact h3))⟩
/-- over xs (as data: f): I j holds ahead of the j-th item -/
theorem loop {α : Type} {turn : D → Env → Mem → (Env → Mem → Prop) → Prop} {still : Mem → Prop} {q : Env → Mem → Prop} (xs : List α) (f : α → D) (I : Nat → Env → Mem → Prop) {σ : Env} {M : Mem} (h0 : I 0 σ M)
    (hs : ∀ n σ M, n ≤ xs.length → I n σ M → still M)
    (ht : ∀ (j : Nat) (x : α), xs[j]? = some x → ∀ σ M k, I j σ M → (∀ σ' M', I (j + 1) σ' M' → k σ' M') → turn (f x) σ M k)
    (hq : ∀ σ M, I xs.length σ M → q σ M) : loopQ turn still (xs.map f) σ M q :=
  loop_ind f I xs.length hs hq xs 0 σ M (by omega) h0 fun j x hj σ M k h hk => ht j x hj σ M k (by simpa using h) fun σ' M' h' => hk σ' M' (by simpa using h')
theorem comp_ind {α : Type} {L : Addr} {turn : D → Mem → (Option D → Mem → Prop) → Prop} {still : Mem → Prop} {q : List D → Mem → Prop} (f : α → D) (I : Nat → List D → Mem → Prop) (N : Nat) (hN : N ≤ sizeLine)
    (hs : ∀ n acc M, n ≤ N → I n acc M → still M ∧ M L = some (.lst acc) ∧ acc.length ≤ n) (hq : ∀ acc M, I N acc M → q acc M) :
    ∀ (xs : List α) (n : Nat) (acc : List D) (M : Mem), n + xs.length = N → I n acc M →
      (∀ (j : Nat) (x : α), xs[j]? = some x → ∀ acc M k, I (n + j) acc M → (∀ y M', (match y with | none => I (n + j + 1) acc M' | some z => M' L = some (.lst acc) ∧ I (n + j + 1) (acc ++ [z]) (mput M' L (.lst (acc ++ [z])))) → k y M') → turn (f x) M k) →
      compQ L turn still (xs.map f) M q
  | [], n, acc, M, hn, h, _ => ⟨(hs n _ _ (by simp at hn; omega) h).1, acc, (hs n _ _ (by simp at hn; omega) h).2.1, hq _ _ (by simp at hn; subst hn; exact h)⟩
  | x :: xs, n, acc, M, hn, h, ht => by
    have hl : n < N := by simp at hn; omega
    have h3 := hs n acc M (by omega) h
    refine ⟨h3.1, ht 0 x rfl acc M _ h fun y M' hy => ?_⟩
    have nx : ∀ acc' M'', I (n + 1) acc' M'' → compQ L turn still (xs.map f) M'' q := fun acc' M'' h' => comp_ind f I N hN hs hq xs (n + 1) acc' M'' (by simp at hn; omega) h'
      fun j y hy acc2 M2 k h2 hk => ht (j + 1) y (by simpa using hy) acc2 M2 k (by rw [show n + (j + 1) = n + 1 + j from by omega]; exact h2) (fun z M3 h3 => hk z M3 (by rw [show n + 1 + j + 1 = n + (j + 1) + 1 from by omega]; exact h3))
    cases y with
    | none => exact nx _ _ hy
    | some z => exact ⟨acc, hy.1, by omega, nx _ _ hy.2⟩
theorem mput_get {M : Mem} {a b : Addr} {o u : MObj} (h : M b = none) (h' : M a = some u) : mput M b o a = some u := by
  rw [mput_ne (fun e => by subst e; rw [h] at h'; cases h')]; exact h'
theorem mdel_mput {M : Mem} {a : Addr} {o : MObj} (h : M a = none) : mdel (mput M a o) a = M := by
  funext b; unfold mdel mput
  by_cases e : b = a
  · subst e; simp [h]
  · simp [e]
/-- a comprehension that changes nothing -/
theorem cmap {α : Type} {L : Addr} {turn : D → Mem → (Option D → Mem → Prop) → Prop} {still : Mem → Prop} {q : List D → Mem → Prop} (xs : List α) (f : α → D) (g : α → D) {M0 : Mem} (hN : xs.length ≤ sizeLine)
    (hs : ∀ acc, still (mput M0 L (.lst acc)))
    (ht : ∀ x ∈ xs, ∀ acc k, k (some (g x)) (mput M0 L (.lst acc)) → turn (f x) (mput M0 L (.lst acc)) k)
    (hq : q (xs.map g) (mput M0 L (.lst (xs.map g)))) : compQ L turn still (xs.map f) (mput M0 L (.lst [])) q := by
  refine comp_ind f (fun n acc M => acc = (xs.take n).map g ∧ M = mput M0 L (.lst acc)) xs.length hN ?_ ?_ xs 0 [] _ (by omega) ⟨by simp, rfl⟩ ?_
  · rintro n acc M _ ⟨h1, rfl⟩
    exact ⟨hs _, mput_same, by rw [h1]; simp [List.length_take]; omega⟩
  · rintro acc M ⟨h1, rfl⟩
    rw [List.take_length] at h1
    rw [h1]; exact hq
  · rintro j x hx acc M k ⟨h1, rfl⟩ hk
    refine ht x (List.mem_of_getElem? hx) acc k (hk (some (g x)) _ ⟨mput_same, ?_, by rw [mput_mput]⟩)
    rw [Nat.zero_add] at h1 ⊢
    rw [h1, List.take_add_one, hx]
    simp
theorem cfilter {α : Type} {L : Addr} {turn : D → Mem → (Option D → Mem → Prop) → Prop} {still : Mem → Prop} {q : List D → Mem → Prop} (xs : List α) (f : α → D) (g : α → Option D) {M0 : Mem} (hN : xs.length ≤ sizeLine)
    (hs : ∀ acc, still (mput M0 L (.lst acc)))
    (ht : ∀ x ∈ xs, ∀ acc k, k (g x) (mput M0 L (.lst acc)) → turn (f x) (mput M0 L (.lst acc)) k)
    (hq : q (xs.filterMap g) (mput M0 L (.lst (xs.filterMap g)))) : compQ L turn still (xs.map f) (mput M0 L (.lst [])) q := by
  refine comp_ind f (fun n acc M => acc = (xs.take n).filterMap g ∧ M = mput M0 L (.lst acc)) xs.length hN ?_ ?_ xs 0 [] _ (by omega) ⟨by simp, rfl⟩ ?_
  · rintro n acc M _ ⟨h1, rfl⟩
    refine ⟨hs _, mput_same, ?_⟩
    rw [h1]
    exact Nat.le_trans (List.length_filterMap_le _ _) (by simp [List.length_take]; omega)
  · rintro acc M ⟨h1, rfl⟩
    rw [List.take_length] at h1
    rw [h1]; exact hq
  · rintro j x hx acc M k ⟨h1, rfl⟩ hk
    refine ht x (List.mem_of_getElem? hx) acc k (hk (g x) _ ?_)
    have e : (xs.take (j + 1)).filterMap g = (xs.take j).filterMap g ++ (g x).toList := by
      rw [List.take_add_one, hx, List.filterMap_append]
      congr 1
    rw [Nat.zero_add] at h1 ⊢
    cases hg : g x with
    | none => exact ⟨by rw [h1, e, hg]; simp, rfl⟩
    | some z => exact ⟨mput_same, by rw [h1, e, hg]; rfl, by rw [mput_mput]⟩
theorem while_ind {c : Env → Mem → (Bool → Mem → Prop) → Prop} {b : Env → Mem → (Env → Mem → Prop) → Prop} {q : Env → Mem → Prop} (I : Nat → Env → Mem → Prop)
    (step : ∀ n σ M k, I n σ M → (∀ l σ' M', n = l + 1 → I l σ' M' → k σ' M') → c σ M fun t M' => if t = true then b σ M' k else q σ M') : ∀ (n : Nat) (σ : Env) (M : Mem), I n σ M → whileQ c b q (n + 1) σ M
  | 0, σ, M, h => step 0 σ M _ h fun l _ _ e => absurd e (by omega)
  | n + 1, σ, M, h => step (n + 1) σ M _ h fun l σ' M' e h' => by
    have e : n = l := by omega
    subst e
    exact while_ind I step n σ' M' h'
end
end Ev
namespace Ev
open PySem PySem.Spec PyProof.Rows L2
/-! ### data that may be compared -/
def fine (n : Nat) (d : D) : Prop := pureD d = true ∧ (toPy d).canLay0 = true ∧ (toPy d).depth ≤ n
def fineL (n : Nat) (ds : List D) : Prop := ∀ d ∈ ds, fine n d
theorem fine_int {n : Nat} (i : Int) : fine n (.int i) := ⟨rfl, rfl, Nat.zero_le _⟩
theorem fine_bl {n : Nat} (b : Bool) : fine n (.bl b) := ⟨rfl, rfl, Nat.zero_le _⟩
theorem fine_non {n : Nat} : fine n .non := ⟨rfl, rfl, Nat.zero_le _⟩
theorem fine_str {n : Nat} {x : Str} (h : PySem.PyData.strOk x = true) : fine n (.str x) := ⟨rfl, by simpa [toPy, PyData.canLay0] using h, Nat.zero_le _⟩
theorem fineL_parts {n : Nat} : ∀ {ds : List D}, fineL n ds → pureL ds = true ∧ PyData.canLayAll0 (toPyL ds) = true ∧ PyData.depthAll (toPyL ds) ≤ n
  | [], _ => ⟨rfl, rfl, Nat.zero_le _⟩
  | d :: ds, h => by
    obtain ⟨a, b, c⟩ := fineL_parts fun x hx => h x (List.mem_cons_of_mem _ hx)
    obtain ⟨a', b', c'⟩ := h d (by simp)
    refine ⟨by simp [pureL, a, a'], by simp [toPyL, PyData.canLayAll0, b, b'], ?_⟩
    simp only [toPyL, PyData.depthAll]; omega
theorem fine_tup {n : Nat} {ds : List D} (h : fineL n ds) : fine (n + 1) (.tup ds) := by
  obtain ⟨a, b, c⟩ := fineL_parts h
  exact ⟨by simpa [pureD] using a, by simpa [toPy, PyData.canLay0] using b, by simp only [toPy, PyData.depth]; omega⟩
theorem fine_lst {n : Nat} {ds : List D} (h : fineL n ds) : fine (n + 1) (.lst ds) := by
  obtain ⟨a, b, c⟩ := fineL_parts h
  exact ⟨by simpa [pureD] using a, by simpa [toPy, PyData.canLay0] using b, by simp only [toPy, PyData.depth]; omega⟩
theorem fineL_nil {n : Nat} : fineL n [] := fun _ h => by cases h
theorem fineL_cons {n : Nat} {d : D} {ds : List D} (h : fine n d) (h2 : fineL n ds) : fineL n (d :: ds) := fun x hx => by
  rcases List.mem_cons.mp hx with e | hx
  · subst e; exact h
  · exact h2 x hx
theorem fineL_map {α : Type} {n : Nat} {f : α → D} {xs : List α} (h : ∀ x ∈ xs, fine n (f x)) : fineL n (xs.map f) := fun y hy => by
  obtain ⟨x, hx, rfl⟩ := List.mem_map.mp hy
  exact h x hx
theorem fineL_int {n : Nat} {xs : List Int} : fineL n (xs.map .int) := fineL_map fun x _ => fine_int x
theorem fine_mono {n m : Nat} {d : D} (h : fine n d) (l : n ≤ m) : fine m d := ⟨h.1, h.2.1, Nat.le_trans h.2.2 l⟩
theorem fine_ok {n : Nat} {d : D} (h : fine n d) (hn : n ≤ 64) : okD d := ⟨h.1, by
  show ((toPy d).canLay0 && decide ((toPy d).depth ≤ 64)) = true
  rw [h.2.1]; exact decide_eq_true (Nat.le_trans h.2.2 hn)⟩
theorem deq_self {n : Nat} {d : D} (h : fine n d) : deq d d = true := PySem.SeqAt.eqv_refl _ h.2.1
/-- x == x of plain data -/
theorem eq_same {M : Mem} {n : Nat} {d : D} {k : Bool → Prop} (h : fine n d) (hn : n ≤ 64) (hk : k true) : eqQ M d d k := by
  have e : drf M d = d := by
    cases d <;> first | rfl | (have := h.1; simp [pureD] at this)
  have g : okD (drf M d) ∧ okD (drf M d) ∧ k (deq (drf M d) (drf M d)) := by
    rw [e, deq_self h]; exact ⟨fine_ok h hn, fine_ok h hn, hk⟩
  cases d with
  | int i => show k (decide (i = i)); simpa using hk
  | str i => show k (decide (i = i)); simpa using hk
  | bl i => show k (decide (i = i)); simpa using hk
  | mr a => exact absurd h.1 (by simp [pureD])
  | tup ds => exact .inl g
  | _ => exact g
theorem strOk_app {a b : Str} (ha : PySem.PyData.strOk a = true) (hb : PySem.PyData.strOk b = true) : PySem.PyData.strOk (a ++ b) = true := by
  unfold PySem.PyData.strOk at *
  show (a.cps ++ b.cps).all _ = true
  rw [Array.all_append, ha, hb]; rfl
theorem strOk_one {c : Nat} (h : c < 1114112) : PySem.PyData.strOk ⟨#[c]⟩ = true := by
  unfold PySem.PyData.strOk
  simp [h]
theorem strOk_mem {s : Str} {c : Nat} (h : PySem.PyData.strOk s = true) (hc : c ∈ s.cps.toList) : PySem.PyData.strOk ⟨#[c]⟩ = true := by
  unfold PySem.PyData.strOk at *
  rw [← Array.all_toList] at h
  have := List.all_eq_true.mp h c hc
  simpa using this
theorem len_le {a b : Nat} (h : a ≤ 1000) (h2 : b ≤ 1000) : a + b ≤ sizeLine := Nat.le_trans (by omega : a + b ≤ 2000) (by decide)
theorem len_lt {a : Nat} (h : a ≤ 100000) : a < sizeLine := Nat.lt_of_le_of_lt h (by decide)
/-! ### lists in the store -/
section
variable {M : Mem} {Q : VQ} {m : Bool}
theorem r_mm {a : Addr} {ds : List D} {n : MI} (h : match n with | .find => False | .get1 => False | .get2 => False | _ => True) : recvOk n (mput M a (.lst ds)) (.mr a) = True := by
  have e : ∃ es, lstOf (mput M a (.lst ds)) (.mr a) = some es := ⟨ds, by simp [lstOf, mput_same]⟩
  cases n <;> first | exact h.elim | exact eq_true e
theorem m_append {a : Addr} {ds : List D} {y : D} : miQ .append m (mput M a (.lst ds)) (.mr a) [y] Q = (ds.length < sizeLine ∧ Q .non (mput M a (.lst (ds ++ [y])))) := by
  refine propext ⟨fun ⟨es, h, h1, h2⟩ => ?_, fun ⟨h1, h2⟩ => ⟨ds, mput_same, h1, by rw [mput_mput]; exact h2⟩⟩
  rw [mput_same] at h; cases h; rw [mput_mput] at h2; exact ⟨h1, h2⟩
theorem m_extend {a : Addr} {ds es : List D} : miQ .extend m (mput M a (.lst ds)) (.mr a) [.lst es] Q = (ds.length + es.length ≤ sizeLine ∧ Q .non (mput M a (.lst (ds ++ es)))) := by
  refine propext ⟨fun ⟨_, _, h, h0, h1, h2⟩ => ?_, fun ⟨h1, h2⟩ => ⟨ds, es, mput_same, rfl, h1, by rw [mput_mput]; exact h2⟩⟩
  rw [mput_same] at h; cases h; cases h0; rw [mput_mput] at h2; exact ⟨h1, h2⟩
theorem m_popAt {a : Addr} {ds : List D} {i : Nat} {y : D} (hi : ds[i]? = some y) (hs : i < 2 ^ 63) (h : Q y (mput M a (.lst (ds.eraseIdx i)))) : miQ .popAt m (mput M a (.lst ds)) (.mr a) [.int i] Q :=
  ⟨ds, i, y, mput_same, ixN_nat (List.getElem?_eq_some_iff.mp hi).1, by omega, by omega, hi, by rw [mput_mput]; exact h⟩
theorem lst_mm {a : Addr} {ds : List D} : lstOf (mput M a (.lst ds)) (.mr a) = some ds := by simp [lstOf, mput_same]
theorem seq_mm {a : Addr} {ds : List D} : seqOf (mput M a (.lst ds)) (.mr a) = some ds := by simp [seqOf, lst_mm]
end
section
variable {M : Mem} {ds : List D} {a : Addr}
theorem seq_l : seqOf M (.lst ds) = some ds := rfl
theorem seq_t : seqOf M (.tup ds) = some ds := rfl
theorem seq_s : seqOf M (.scr ds) = some ds := rfl
theorem seq_k : seqOf M (.kt ds) = some ds := rfl
theorem seq_f : seqOf M (.ft ds) = some ds := rfl
theorem lst_l : lstOf M (.lst ds) = some ds := rfl
theorem lst_s : lstOf M (.scr ds) = some ds := rfl
theorem tup_t : tupOf (.tup ds) = some ds := rfl
theorem tup_k : tupOf (.kt ds) = some ds := rfl
theorem tup_f : tupOf (.ft ds) = some ds := rfl
theorem unp_t : unpOf M (.tup ds) = some ds := rfl
theorem unp_k : unpOf M (.kt ds) = some ds := rfl
theorem unp_f : unpOf M (.ft ds) = some ds := rfl
theorem unp_l : unpOf M (.lst ds) = some ds := rfl
theorem own_l : ownL M (.lst ds) = some ds := rfl
theorem own_mm : ownL (mput M a (.lst ds)) (.mr a) = some ds := by simp [ownL, mput_same]
end
section
variable {F : Fx} {W : WQ} {a es : E} {d : D} {r : List D} {σ : Env} {M : Mem} {Q : Env → Mem → Prop}
theorem ts_cons : wpTs F W (.cons a es) (d :: r) σ M Q = wpT F W a d σ M fun σ' M' => wpTs F W es r σ' M' Q := by
  simp only [wpTs]
  exact propext ⟨fun ⟨_, _, h1, h⟩ => by cases h1; exact h, fun h => ⟨_, _, rfl, h⟩⟩
theorem ts_nil : wpTs F W .nil [] σ M Q = Q σ M := by simp only [wpTs, true_and]
end
theorem enum_map {α : Type} (f : α → D) (xs : List α) : ((xs.map f).zipIdx.map fun p => D.tup [.int p.2, p.1]) = xs.zipIdx.map fun p => D.tup [.int p.2, f p.1] := by
  rw [List.zipIdx_map, List.map_map]; rfl
theorem ex_two {P : Int → Int → Prop} {a b : Int} : (∃ i j, (a = i ∧ b = j) ∧ P i j) = P a b := propext ⟨fun ⟨_, _, ⟨h1, h2⟩, h⟩ => by subst h1 h2; exact h, fun h => ⟨_, _, ⟨rfl, rfl⟩, h⟩⟩
theorem ex_two0 {P : Int → Int → Prop} {b : Int} : (∃ i j, (b = j ∧ i = 0) ∧ P i j) = P 0 b := propext ⟨fun ⟨_, _, ⟨h1, h2⟩, h⟩ => by subst h1 h2; exact h, fun h => ⟨_, _, ⟨rfl, rfl⟩, h⟩⟩
theorem ex_twoi {P : Int → Int → Prop} {a b : Int} : (∃ i j, a = i ∧ b = j ∧ P i j) = P a b := propext ⟨fun ⟨_, _, h1, h2, h⟩ => by subst h1 h2; exact h, fun h => ⟨_, _, rfl, rfl, h⟩⟩
theorem int_inj {ns ms : List Int} (h : ns.map D.int = ms.map D.int) : ns = ms := List.map_inj_right (fun _ _ e => by cases e; rfl) |>.mp h
theorem bl_inj {ns ms : List Bool} (h : ns.map D.bl = ms.map D.bl) : ns = ms := List.map_inj_right (fun _ _ e => by cases e; rfl) |>.mp h
section
variable {M : Mem} {Q : VQ} {m : Bool} {ds : List D} {a : Addr} {ns : List Int}
theorem bi_lenl : biQ .len m M [.lst ds] Q = Q (.int ds.length) M := ex_len
theorem bi_lent : biQ .len m M [.tup ds] Q = Q (.int ds.length) M := ex_len
theorem bi_lenf : biQ .len m M [.ft ds] Q = Q (.int ds.length) M := ex_len
theorem bi_lens : biQ .len m M [.scr ds] Q = Q (.int ds.length) M := ex_len
theorem bi_lenm : biQ .len m (mput M a (.lst ds)) [.mr a] Q = Q (.int ds.length) (mput M a (.lst ds)) := by
  show (∃ es, seqOf (mput M a (.lst ds)) (.mr a) = some es ∧ _) = _
  rw [seq_mm]; exact ex_len
theorem bi_lenstr {z : Str} : biQ .len m M [.str z] Q = (z.length ≤ sizeLine ∧ Q (.int z.length) M) := rfl
theorem bi_abs {i : Int} : biQ .abs m M [.int i] Q = Q (.int (if i < 0 then -i else i)) M := rfl
theorem bi_max2 {i j : Int} : biQ .max2 m M [.int i, .int j] Q = Q (.int (if j > i then j else i)) M := rfl
theorem bi_min2 {i j : Int} : biQ .min2 m M [.int i, .int j] Q = Q (.int (if j < i then j else i)) M := rfl
theorem bi_sum : biQ .sum m M [.lst (ns.map .int)] Q = Q (.int ns.sum) M :=
  propext ⟨fun ⟨ns', h1, h2⟩ => by rw [int_inj (Option.some.inj h1)]; exact h2, fun h => ⟨ns, rfl, h⟩⟩
theorem bi_inti {i : Int} : biQ .int m M [.int i] Q = Q (.int i) M := rfl
theorem bi_intb {b : Bool} : biQ .int m M [.bl b] Q = Q (.int (if b then 1 else 0)) M := rfl
theorem bi_stri {i : Int} : biQ .str m M [.int i] Q = (i.natAbs.log2 < 1920 ∧ Q (.str (toString i)) M) := rfl
theorem bi_strn : biQ .str m M [.non] Q = Q (.str "None") M := rfl
theorem bi_strs {x : Str} : biQ .str m M [.str x] Q = Q (.str x) M := rfl
theorem bi_listl : biQ .list m M [.lst ds] Q = newL m ds M Q := ex_len (P := fun ds => newL m ds M Q)
theorem bi_listt : biQ .list m M [.tup ds] Q = newL m ds M Q := ex_len (P := fun ds => newL m ds M Q)
theorem bi_lists : biQ .list m M [.scr ds] Q = newL m ds M Q := ex_len (P := fun ds => newL m ds M Q)
theorem bi_listm : biQ .list m (mput M a (.lst ds)) [.mr a] Q = newL m ds (mput M a (.lst ds)) Q := by
  show (∃ es, seqOf (mput M a (.lst ds)) (.mr a) = some es ∧ _) = _
  rw [seq_mm]; exact ex_len (P := fun ds => newL m ds _ Q)
theorem bi_tupl : biQ .tuple m M [.lst ds] Q = Q (.tup ds) M := ex_len (P := fun ds => Q (.tup ds) M)
theorem bi_tups : biQ .tuple m M [.scr ds] Q = Q (.tup ds) M := ex_len (P := fun ds => Q (.tup ds) M)
theorem bi_tupt : biQ .tuple m M [.tup ds] Q = Q (.tup ds) M := rfl
theorem bi_tupm : biQ .tuple m (mput M a (.lst ds)) [.mr a] Q = Q (.tup ds) (mput M a (.lst ds)) := by
  show (∃ es, lstOf (mput M a (.lst ds)) (.mr a) = some es ∧ _) = _
  rw [lst_mm]; exact ex_len (P := fun ds => Q (.tup ds) _)
/-- a list that may change against []: -/
theorem eq_nil {n : Nat} {k : Bool → Prop} (h : fineL n ds) (hn : n < 64) (hk : k (decide (ds = []))) : eqQ (mput M a (.lst ds)) (.mr a) (.lst []) k := by
  have e : drf (mput M a (.lst ds)) (.mr a) = .lst ds := by simp [drf, mput_same]
  show (okD (drf _ (.mr a)) ∧ okD (.lst []) ∧ k (deq (drf _ (.mr a)) (.lst []))) ∨ _
  rw [e]
  refine .inl ⟨fine_ok (fine_lst h) (by omega), fine_ok (fine_lst (n := 0) fineL_nil) (by decide), ?_⟩
  have : deq (.lst ds) (.lst []) = decide (ds = []) := by
    cases ds with
    | nil => rfl
    | cons d r => rfl
  show k (deq (.lst ds) (.lst []))
  rw [this]; exact hk
theorem cut_from {xs : List D} {k : Nat} : cutD xs (some (no_index (OfNat.ofNat (α := Int) k))) none = xs.drop (OfNat.ofNat k) := by
  unfold cutD
  show (xs.drop (HT.sIx xs.length 0 (some (k : Int)))).take (HT.sIx xs.length xs.length none - HT.sIx xs.length 0 (some (k : Int))) = xs.drop k
  rw [HT.sIx_nat, HT.sIx_none]
  by_cases h : k ≤ xs.length
  · rw [Nat.min_eq_left h, List.take_of_length_le (by simp)]
  · rw [Nat.min_eq_right (by omega), List.drop_eq_nil_of_le (by omega : xs.length ≤ k)]
    simp
end
theorem erase_map {α β : Type} (f : α → β) : ∀ (l : List α) (i : Nat), (l.map f).eraseIdx i = (l.eraseIdx i).map f
  | [], _ => rfl
  | _ :: _, 0 => rfl
  | x :: l, i + 1 => by simp only [List.map_cons, List.eraseIdx_cons_succ, erase_map f l i]
theorem erase_perm {α : Type} : ∀ {l : List α} {i : Nat} (h : i < l.length), ([l[i]] ++ l.eraseIdx i).Perm l
  | x :: l, 0, _ => List.Perm.refl _
  | x :: l, i + 1, h => by
    have h' : i < l.length := by simpa using h
    exact (List.Perm.swap x l[i] (l.eraseIdx i)).trans ((erase_perm h').cons x)
section
variable {M : Mem} {Q : VQ} {m : Bool} {ds es : List D} {a : Addr} {lo hi : Option Int} {R : List D → (Mem → Prop) → Mem → Prop}
theorem qs_t : slQ m M (.tup ds) lo hi Q = (ds.length ≤ sizeLine ∧ Q (.tup (cutD ds lo hi)) M) := rfl
theorem qs_f : slQ m M (.ft ds) lo hi Q = (ds.length ≤ sizeLine ∧ (HT.sIx ds.length 0 lo = 0 ∧ HT.sIx ds.length ds.length hi = ds.length → Q (.ft ds) M) ∧ (¬ (HT.sIx ds.length 0 lo = 0 ∧ HT.sIx ds.length ds.length hi = ds.length) → Q (.tup (cutD ds lo hi)) M)) := rfl
theorem qs_str {z : Str} : slQ m M (.str z) lo hi Q = (z.length ≤ sizeLine ∧ Q (.str (cutS z lo hi)) M) := rfl
theorem qs_l : slQ m M (.lst ds) lo hi Q = newL m (cutD ds lo hi) M Q := ex_len (P := fun ds => newL m (cutD ds lo hi) M Q)
theorem qs_s : slQ m M (.scr ds) lo hi Q = newL m (cutD ds lo hi) M Q := ex_len (P := fun ds => newL m (cutD ds lo hi) M Q)
theorem qs_m : slQ m (mput M a (.lst ds)) (.mr a) lo hi Q = newL m (cutD ds lo hi) (mput M a (.lst ds)) Q := by
  show (∃ es, lstOf (mput M a (.lst ds)) (.mr a) = some es ∧ _) = _
  rw [lst_mm]; exact ex_len (P := fun ds => newL m (cutD ds lo hi) _ Q)
theorem ov_l : overQ M (.lst ds) R = R ds (fun _ => True) M := by
  have e : (fun M' => seqOf M' (.lst ds) = some ds) = fun _ => True := by funext M'; exact eq_true rfl
  exact propext ⟨fun h => by rcases h with ⟨_, h, _⟩ | ⟨_, h, r⟩ <;> cases h; rw [← e]; exact r, fun h => .inr ⟨ds, rfl, by rw [e]; exact h⟩⟩
theorem ov_t : overQ M (.tup ds) R = R ds (fun _ => True) M := by
  have e : (fun M' => seqOf M' (.tup ds) = some ds) = fun _ => True := by funext M'; exact eq_true rfl
  exact propext ⟨fun h => by rcases h with ⟨_, h, _⟩ | ⟨_, h, r⟩ <;> cases h; rw [← e]; exact r, fun h => .inr ⟨ds, rfl, by rw [e]; exact h⟩⟩
theorem ov_s : overQ M (.scr ds) R = R ds (fun _ => True) M := by
  have e : (fun M' => seqOf M' (.scr ds) = some ds) = fun _ => True := by funext M'; exact eq_true rfl
  exact propext ⟨fun h => by rcases h with ⟨_, h, _⟩ | ⟨_, h, r⟩ <;> cases h; rw [← e]; exact r, fun h => .inr ⟨ds, rfl, by rw [e]; exact h⟩⟩
theorem ov_k : overQ M (.kt ds) R = R ds (fun _ => True) M := by
  have e : (fun M' => seqOf M' (.kt ds) = some ds) = fun _ => True := by funext M'; exact eq_true rfl
  exact propext ⟨fun h => by rcases h with ⟨_, h, _⟩ | ⟨_, h, r⟩ <;> cases h; rw [← e]; exact r, fun h => .inr ⟨ds, rfl, by rw [e]; exact h⟩⟩
theorem ov_f : overQ M (.ft ds) R = R ds (fun _ => True) M := by
  have e : (fun M' => seqOf M' (.ft ds) = some ds) = fun _ => True := by funext M'; exact eq_true rfl
  exact propext ⟨fun h => by rcases h with ⟨_, h, _⟩ | ⟨_, h, r⟩ <;> cases h; rw [← e]; exact r, fun h => .inr ⟨ds, rfl, by rw [e]; exact h⟩⟩
theorem ov_m : overQ (mput M a (.lst ds)) (.mr a) R = R ds (fun M' => seqOf M' (.mr a) = some ds) (mput M a (.lst ds)) :=
  propext ⟨fun h => by
    rcases h with ⟨_, h, _⟩ | ⟨_, h, r⟩
    · cases h
    · rw [seq_mm] at h; cases h; exact r, fun h => .inr ⟨ds, seq_mm, h⟩⟩
theorem ov_str {z : Str} : overQ M (.str z) R = R (z.cps.toList.map fun c => D.str ⟨#[c]⟩) (fun _ => True) M :=
  propext ⟨fun h => by rcases h with ⟨_, h, r⟩ | ⟨_, h, r⟩ <;> cases h; exact r, fun h => .inl ⟨z, rfl, h⟩⟩
theorem zp_ll : zipQ M (.lst ds) (.lst es) R = R ((ds.zip es).map fun p => .tup [p.1, p.2]) (fun _ => True) M := by
  have e : (fun M' => seqOf M' (.lst ds) = some ds ∧ seqOf M' (.lst es) = some es) = fun _ => True := by funext M'; exact eq_true ⟨rfl, rfl⟩
  exact propext ⟨fun ⟨_, _, h, r⟩ => by rcases h with ⟨h, h'⟩ | ⟨h, h'⟩ <;> cases h; cases h'; rw [← e]; exact r, fun h => ⟨ds, es, .inl ⟨rfl, rfl⟩, by rw [e]; exact h⟩⟩
theorem zp_tt : zipQ M (.tup ds) (.tup es) R = R ((ds.zip es).map fun p => .tup [p.1, p.2]) (fun _ => True) M := by
  have e : (fun M' => seqOf M' (.tup ds) = some ds ∧ seqOf M' (.tup es) = some es) = fun _ => True := by funext M'; exact eq_true ⟨rfl, rfl⟩
  exact propext ⟨fun ⟨_, _, h, r⟩ => by rcases h with ⟨h, h'⟩ | ⟨h, h'⟩ <;> cases h; cases h'; rw [← e]; exact r, fun h => ⟨ds, es, .inr ⟨rfl, rfl⟩, by rw [e]; exact h⟩⟩
end
theorem cut_to {xs : List D} {k : Nat} : cutD xs none (some (no_index (OfNat.ofNat (α := Int) k))) = xs.take (OfNat.ofNat k) := by
  unfold cutD
  show (xs.drop (HT.sIx xs.length 0 none)).take (HT.sIx xs.length xs.length (some (k : Int)) - HT.sIx xs.length 0 none) = xs.take k
  rw [HT.sIx_nat, HT.sIx_none, Nat.sub_zero, List.drop_zero]
  by_cases h : k ≤ xs.length
  · rw [Nat.min_eq_left h]
  · rw [Nat.min_eq_right (by omega), List.take_of_length_le (Nat.le_refl _), List.take_of_length_le (by omega)]
theorem cut_init {xs : List D} : cutD xs none (some (-1)) = xs.dropLast := by
  unfold cutD
  show (xs.drop 0).take ((if (-1 : Int) < 0 then ((-1 : Int) + (xs.length : Int)).toNat else min (-1 : Int).toNat xs.length) - 0) = _
  rw [if_pos (by decide), List.drop_zero, Nat.sub_zero, List.dropLast_eq_take]
  congr 1; omega
theorem in3t {M : Mem} {s a b c : Str} {k : Bool → Prop} : inQ M (.str s) (.tup [.str a, .str b, .str c]) k = k (decide (s = a ∨ s = b ∨ s = c)) := by
  have e : ([D.str a, D.str b, D.str c].any fun z => deq z (.str s)) = decide (s = a ∨ s = b ∨ s = c) := by
    have h : ∀ z : Str, deq (.str z) (.str s) = decide (s = z) := fun z => by
      show (z == s) = _
      by_cases e : s = z
      · subst e; simp
      · rw [decide_eq_false e]; exact beq_eq_false_iff_ne.mpr fun h => e h.symm
    simp only [List.any_cons, List.any_nil, h, Bool.or_false]
    simp [Bool.decide_or]
  unfold inQ
  simp only [dget]
  refine propext ⟨fun ⟨ds, h1, h2⟩ => ?_, fun h => ⟨_, rfl, .inl ⟨rfl, rfl, by rw [e]; exact h⟩⟩⟩
  cases h1
  rcases h2 with ⟨_, _, h⟩ | ⟨h, _⟩
  · rw [e] at h; exact h
  · cases h
theorem in3k {M : Mem} {s a b c : Str} {k : Bool → Prop} : inQ M (.str s) (.kt [.str a, .str b, .str c]) k = k (decide (s = a ∨ s = b ∨ s = c)) := by
  have e : inQ M (.str s) (.kt [.str a, .str b, .str c]) k = inQ M (.str s) (.tup [.str a, .str b, .str c]) k := by
    unfold inQ
    simp only [dget]
    rfl
  rw [e, in3t]
theorem zip_items {α β : Type} (f : α → D) (g : β → D) (xs : List α) (ys : List β) : (((xs.map f).zip (ys.map g)).map fun p => D.tup [p.1, p.2]) = (xs.zip ys).map fun p => D.tup [f p.1, g p.2] := by
  rw [List.zip_map, List.map_map]; rfl
/-! ### dicts -/
section
variable {κ : Type} [DecidableEq κ]
theorem getK_setK (kvs : List (κ × D)) (k k' : κ) (v : D) : getK (setK kvs k v) k' = if k = k' then some v else getK kvs k' := by
  unfold setK
  split
  · rename_i h
    unfold getK
    induction kvs with
    | nil => cases h
    | cons x r ih =>
      obtain ⟨y, w⟩ := x
      rw [List.map_cons, List.find?_cons, List.find?_cons]
      by_cases e : y = k
      · subst e
        simp only [if_true]
        by_cases e2 : y = k'
        · simp [e2]
        · simp only [e2, decide_false, if_false]
          -- the rest: only keys equal to y change
          clear ih h
          induction r with
          | nil => rfl
          | cons z r ih2 =>
            obtain ⟨y2, w2⟩ := z
            rw [List.map_cons, List.find?_cons, List.find?_cons]
            by_cases e3 : y2 = y
            · subst e3; simp only [if_true, e2, decide_false]; exact ih2
            · simp only [if_neg e3]
              by_cases e4 : y2 = k'
              · simp [e4]
              · simp only [e4, decide_false]; exact ih2
      · rw [if_neg e]
        have h' : (r.any fun kv => decide (kv.1 = k)) = true := by simpa [List.any_cons, e] using h
        by_cases e2 : y = k'
        · subst e2
          simp [Ne.symm e]
        · simp only [e2, decide_false]
          exact ih h'
  · rename_i h
    unfold getK
    rw [List.find?_append]
    have hn : ∀ x ∈ kvs, ¬ x.1 = k := by
      intro x hx e
      exact h (List.any_eq_true.mpr ⟨x, hx, by simpa using e⟩)
    by_cases e : k = k'
    · subst e
      have : kvs.find? (fun kv => decide (kv.1 = k)) = none := List.find?_eq_none.mpr fun x hx => by simpa using hn x hx
      rw [this]; simp
    · rw [if_neg e]
      cases hf : kvs.find? (fun kv => decide (kv.1 = k')) with
      | none => simp [e]
      | some x => simp
theorem setK_len (kvs : List (κ × D)) (k : κ) (v : D) : (setK kvs k v).length ≤ kvs.length + 1 := by
  unfold setK; split <;> simp
end
section
variable {M : Mem} {Q : VQ} {m : Bool} {a : Addr} {kvs : List (Key × D)} {tvs : List (List Key × D)} {k : Bool → Prop}
theorem r_get1 : recvOk .get1 (mput M a (.dK kvs)) (.mr a) = True := eq_true ⟨a, rfl, .inl ⟨kvs, mput_same⟩⟩
theorem r_get2 : recvOk .get2 (mput M a (.dK kvs)) (.mr a) = True := eq_true ⟨a, rfl, .inl ⟨kvs, mput_same⟩⟩
theorem m_get1i {i : Int} : miQ .get1 m (mput M a (.dK kvs)) (.mr a) [.int i] Q = Q ((getK kvs (.inl i)).getD .non) (mput M a (.dK kvs)) := by
  show (∃ o, dget (mput M a (.dK kvs)) (.mr a) (.int i) = some o ∧ _) = _
  have e : dget (mput M a (.dK kvs)) (.mr a) (.int i) = some (getK kvs (.inl i)) := by simp [dget, mput_same, keyD]
  rw [e]; exact ex_len (P := fun o : Option D => Q (o.getD .non) _)
theorem m_get2i {i : Int} {d : D} : miQ .get2 m (mput M a (.dK kvs)) (.mr a) [.int i, d] Q = Q ((getK kvs (.inl i)).getD d) (mput M a (.dK kvs)) := by
  show (∃ o, dget (mput M a (.dK kvs)) (.mr a) (.int i) = some o ∧ _) = _
  have e : dget (mput M a (.dK kvs)) (.mr a) (.int i) = some (getK kvs (.inl i)) := by simp [dget, mput_same, keyD]
  rw [e]; exact ex_len (P := fun o : Option D => Q (o.getD d) _)
theorem eq_ni {i : Int} : eqQ M .non (.int i) k = k false :=
  propext ⟨fun h => h.2.2, fun h => ⟨fine_ok (n := 0) fine_non (by decide), fine_ok (n := 0) (fine_int i) (by decide), h⟩⟩
theorem eq_in {i : Int} : eqQ M (.int i) .non k = k false :=
  propext ⟨fun h => h.2.2, fun h => ⟨fine_ok (n := 0) (fine_int i) (by decide), fine_ok (n := 0) fine_non (by decide), h⟩⟩
end
/-! the same, from what the store is known to hold -/
section
variable {M : Mem} {Q : VQ} {m : Bool} {a : Addr} {ds es : List D} {kvs : List (Key × D)}
theorem rh {n : MI} (h : M a = some (.lst ds)) (hn : match n with | .find => False | .get1 => False | .get2 => False | _ => True) : recvOk n M (.mr a) := by
  have e : ∃ es, lstOf M (.mr a) = some es := ⟨ds, by simp [lstOf, h]⟩
  cases n <;> first | exact hn.elim | exact e
theorem mh_append {y : D} (h : M a = some (.lst ds)) (hl : ds.length < sizeLine) (q : Q .non (mput M a (.lst (ds ++ [y])))) : miQ .append m M (.mr a) [y] Q := ⟨ds, h, hl, q⟩
theorem mh_extend (h : M a = some (.lst ds)) (hl : ds.length + es.length ≤ sizeLine) (q : Q .non (mput M a (.lst (ds ++ es)))) : miQ .extend m M (.mr a) [.lst es] Q := ⟨ds, es, h, rfl, hl, q⟩
theorem mh_len (h : M a = some (.lst ds)) : biQ .len m M [.mr a] Q = Q (.int ds.length) M := by
  show (∃ es, seqOf M (.mr a) = some es ∧ _) = _
  have : seqOf M (.mr a) = some ds := by simp [seqOf, lstOf, h]
  rw [this]; exact ex_len
theorem seq_h (h : M a = some (.lst ds)) : seqOf M (.mr a) = some ds := by simp [seqOf, lstOf, h]
theorem ov_h {R : List D → (Mem → Prop) → Mem → Prop} (h : M a = some (.lst ds)) (r : R ds (fun M' => seqOf M' (.mr a) = some ds) M) : overQ M (.mr a) R := .inr ⟨ds, seq_h h, r⟩
end
/-! what stands where counts alone -/
def Dom (M M' : Mem) : Prop := ∀ a, (M a).isSome = (M' a).isSome
theorem Dom.refl {M : Mem} : Dom M M := fun _ => rfl
theorem Dom.trans {M M1 M2 : Mem} (h : Dom M M1) (h' : Dom M1 M2) : Dom M M2 := fun a => (h a).trans (h' a)
theorem Dom.symm {M M1 : Mem} (h : Dom M M1) : Dom M1 M := fun a => (h a).symm
theorem Dom.put {M M' : Mem} {a : Addr} {o u : MObj} (h : Dom M M') : Dom (mput M a o) (mput M' a u) := fun b => by
  unfold mput; split
  · rfl
  · exact h b
theorem Dom.set {M : Mem} {a : Addr} {o u : MObj} (h : M a = some o) : Dom M (mput M a u) := fun b => by
  by_cases e : b = a
  · subst e; rw [h, mput_same]; rfl
  · rw [mput_ne e]
theorem Dom.none {M M' : Mem} (h : Dom M M') {a : Addr} (ha : M a = none) : M' a = none := by
  have := h a; rw [ha] at this; cases e : M' a with
  | none => rfl
  | some o => rw [e] at this; cases this
theorem restr_dom {M M' : Mem} (h : Dom M M') (N : Mem) : restr M N = restr M' N := by funext a; unfold restr; rw [h a]
mutual
theorem FrzTo.dom {M M' N : Mem} (h : Dom M M') : ∀ {d e : D}, FrzTo M N d e → FrzTo M' N d e := by
  intro d e f
  match f with
  | .refl d => exact .refl d
  | .lst h1 h2 h3 => exact .lst (h.none h1) h2 (FrzL.dom h h3)
  | .tup h3 => exact .tup (FrzL.dom h h3)
  | .lsl h3 => exact .lsl (FrzL.dom h h3)
theorem FrzL.dom {M M' N : Mem} (h : Dom M M') : ∀ {ds es : List D}, FrzL M N ds es → FrzL M' N ds es := by
  intro ds es f
  match f with
  | .nil => exact .nil
  | .cons f1 f2 => exact .cons (FrzTo.dom h f1) (FrzL.dom h f2)
end
theorem frz_dom {M M' : Mem} {Q : VQ} (h : Dom M M') : frzQ M Q = frzQ M' Q := by
  funext d N
  refine propext ⟨fun ⟨d', f, q⟩ => ⟨d', f.dom h, ?_⟩, fun ⟨d', f, q⟩ => ⟨d', f.dom h.symm, ?_⟩⟩
  · rw [← restr_dom h]; exact q
  · rw [restr_dom h]; exact q
/-! a list, in the store or not -/
def IsL (M : Mem) (d : D) (ds : List D) : Prop := d = .lst ds ∨ ∃ a, d = .mr a ∧ M a = some (.lst ds)
section
variable {M : Mem} {d : D} {ds : List D} {Q : VQ} {m : Bool}
theorem IsL.lst : IsL M (.lst ds) ds := .inl rfl
theorem IsL.mr {a : Addr} (h : M a = some (.lst ds)) : IsL M (.mr a) ds := .inr ⟨a, rfl, h⟩
theorem IsL.keep {M' : Mem} (h : IsL M d ds) (k : ∀ a o, M a = some o → M' a = some o) : IsL M' d ds := by
  rcases h with h | ⟨a, h, h'⟩
  · exact .inl h
  · exact .inr ⟨a, h, k a _ h'⟩
theorem IsL.new {a : Addr} {o : MObj} (h : IsL M d ds) (ha : M a = none) : IsL (mput M a o) d ds := h.keep fun _ _ e => mput_get ha e
theorem IsL.lstOf (h : IsL M d ds) : lstOf M d = some ds := by
  rcases h with rfl | ⟨a, rfl, h⟩
  · rfl
  · simp [Ev.lstOf, h]
theorem IsL.seqOf (h : IsL M d ds) : seqOf M d = some ds := by unfold Ev.seqOf; rw [h.lstOf]; rfl
theorem IsL.over {R : List D → (Mem → Prop) → Mem → Prop} (h : IsL M d ds) (r : ∀ st : Mem → Prop, (∀ M', IsL M' d ds → st M') → R ds st M) : overQ M d R := .inr ⟨ds, h.seqOf, r _ fun _ h' => h'.seqOf⟩
theorem IsL.ix (h : IsL M d ds) (i : Int) : ixQ M d (.int i) Q = ∃ x, atI ds i = some x ∧ Q x M := by
  rcases h with rfl | ⟨a, rfl, h⟩
  · exact q_ixl ds i
  · exact q_ixm h i
theorem IsL.len (h : IsL M d ds) : biQ .len m M [d] Q = Q (.int ds.length) M := by
  rcases h with rfl | ⟨a, rfl, h⟩
  · exact bi_lenl
  · exact mh_len h
theorem IsL.sl (h : IsL M d ds) {lo hi : Option Int} : slQ m M d lo hi Q = newL m (cutD ds lo hi) M Q := by
  rcases h with rfl | ⟨a, rfl, h⟩
  · exact qs_l
  · show (∃ es, Ev.lstOf M (.mr a) = some es ∧ _) = _
    rw [(IsL.mr h).lstOf]; exact ex_len (P := fun ds => newL m (cutD ds lo hi) M Q)
theorem IsL.list (h : IsL M d ds) : biQ .list m M [d] Q = newL m ds M Q := by
  show (∃ es, Ev.seqOf M d = some es ∧ _) = _
  rw [h.seqOf]; exact ex_len (P := fun ds => newL m ds M Q)
end
theorem cut_nat {xs : List D} {a b : Nat} (h : b ≤ xs.length) (ha : a ≤ xs.length) : cutD xs (some (a : Int)) (some (b : Int)) = (xs.drop a).take (b - a) := by
  unfold cutD
  show (xs.drop (HT.sIx xs.length 0 (some (a : Int)))).take (HT.sIx xs.length xs.length (some (b : Int)) - HT.sIx xs.length 0 (some (a : Int))) = _
  rw [HT.sIx_nat, HT.sIx_nat, Nat.min_eq_left h, Nat.min_eq_left ha]
theorem IsL.zip {M : Mem} {x y : D} {ds es : List D} {R : List D → (Mem → Prop) → Mem → Prop} (h : IsL M x ds) (h' : IsL M y es)
    (r : ∀ st : Mem → Prop, (∀ M', IsL M' x ds → IsL M' y es → st M') → R ((ds.zip es).map fun p => .tup [p.1, p.2]) st M) : zipQ M x y R :=
  ⟨ds, es, .inl ⟨h.lstOf, h'.lstOf⟩, r _ fun _ a b => ⟨a.seqOf, b.seqOf⟩⟩
theorem bi_all {M : Mem} {Q : VQ} {m : Bool} {bs : List Bool} : biQ .all m M [.lst (bs.map .bl)] Q = Q (.bl (bs.all id)) M :=
  propext ⟨fun ⟨bs', h1, h2⟩ => by rw [bl_inj (Option.some.inj h1)]; exact h2, fun h => ⟨bs, rfl, h⟩⟩
theorem IsL.enum {M : Mem} {x : D} {ds : List D} {P : List D → Prop} (h : IsL M x ds) : (∃ es, Ev.seqOf M x = some es ∧ P es) = P ds := by rw [h.seqOf]; exact ex_len
theorem eq_nil_l {M : Mem} {n : Nat} {ds : List D} {k : Bool → Prop} (h : fineL n ds) (hn : n < 64) (hk : k (decide (ds = []))) : eqQ M (.lst ds) (.lst []) k := by
  show okD (.lst ds) ∧ okD (.lst []) ∧ k (deq (.lst ds) (.lst []))
  refine ⟨fine_ok (fine_lst h) (by omega), fine_ok (fine_lst (n := 0) fineL_nil) (by decide), ?_⟩
  have : deq (.lst ds) (.lst []) = decide (ds = []) := by
    cases ds with
    | nil => rfl
    | cons d r => rfl
  rw [this]; exact hk
end Ev

namespace BF
open PySem PySem.Spec PyProof.Rows L2 Ev
def gl : Str → Option D := fun _ => none
def d_end_rows : Dfn := ⟨[("end" : Str), ("after" : Str)], 2,
    (.cons (.ite (.cmp .Eq (.ix (.v 0) (.int 0)) (.str ("stop" : Str)))
      (.cons (.ret (.lst false (.cons (.v 0) .nil)))
      .nil)
      .nil)
    (.cons (.ite (.cmp .Eq (.ix (.v 0) (.int 0)) (.str ("table" : Str)))
      (.cons (.ret (.lst false (.cons (.v 0) .nil)))
      .nil)
      .nil)
    (.cons (.ite (.and (.cmp .Eq (.ix (.v 0) (.int 0)) (.str ("if" : Str))) (.one (.cmp .NotEq (.ix (.v 0) (.int 4)) (.ix (.v 0) (.int 5)))))
      (.cons (.ite (.cmp .Eq (.ix (.v 0) (.int 4)) (.v 1))
        (.cons (.ret (.lst false (.cons (.tup (.cons (.str ("unless" : Str)) (.cons (.ix (.v 0) (.int 1)) (.cons (.ix (.v 0) (.int 2)) (.cons (.ix (.v 0) (.int 3)) (.cons (.ix (.v 0) (.int 5)) .nil)))))) .nil)))
        .nil)
        .nil)
      (.cons (.ite (.cmp .Eq (.ix (.v 0) (.int 5)) (.v 1))
        (.cons (.ret (.lst false (.cons (.tup (.cons (.str ("when" : Str)) (.cons (.ix (.v 0) (.int 1)) (.cons (.ix (.v 0) (.int 2)) (.cons (.ix (.v 0) (.int 3)) (.cons (.ix (.v 0) (.int 4)) .nil)))))) .nil)))
        .nil)
        .nil)
      (.cons (.ret (.lst false (.cons (.tup (.cons (.str ("when" : Str)) (.cons (.ix (.v 0) (.int 1)) (.cons (.ix (.v 0) (.int 2)) (.cons (.ix (.v 0) (.int 3)) (.cons (.ix (.v 0) (.int 4)) .nil)))))) (.cons (.tup (.cons (.str ("jump" : Str)) (.cons (.ix (.v 0) (.int 5)) .nil))) .nil))))
      .nil)))
      .nil)
    (.cons (.ite (.cmp .Eq (.ix (.v 0) (.neg (.int 1))) (.v 1))
      (.cons (.ret (.lst false .nil))
      .nil)
      .nil)
    (.cons (.ret (.lst false (.cons (.tup (.cons (.str ("jump" : Str)) (.cons (.ix (.v 0) (.neg (.int 1))) .nil))) .nil)))
    .nil)))))⟩
def d_with_places : Dfn := ⟨[("row" : Str), ("places" : Str)], 3,
    (.cons (.ite (.cmp .In (.ix (.v 0) (.int 0)) (.tup (.cons (.str ("jump" : Str)) (.cons (.str ("when" : Str)) (.cons (.str ("unless" : Str)) .nil)))))
      (.cons (.ret (.bin .Add false (.sl false (.v 0) .nop (.neg (.int 1))) (.tup (.cons (.ix (.v 1) (.ix (.v 0) (.neg (.int 1)))) .nil))))
      .nil)
      .nil)
    (.cons (.ite (.cmp .Eq (.ix (.v 0) (.int 0)) (.str ("table" : Str)))
      (.cons (.ret (.tup (.cons (.str ("table" : Str)) (.cons (.ix (.v 0) (.int 1)) (.cons (.bi .tuple false (.cons (.lc false (.ix (.v 1) (.v 2)) (.v 2) (.over (.ix (.v 0) (.int 2))) .nop [2]) .nil)) .nil)))))
      .nil)
      .nil)
    (.cons (.ret (.v 0))
    .nil)))⟩
def c_laid_0 : Ev.S :=
    (.cons (.asg (.tup (.cons (.v 7) (.cons (.v 8) (.cons (.v 9) .nil)))) (.ix (.ix (.v 0) (.int 1)) (.v 5)))
    (.cons (.asg (.ix (.v 3) (.v 5)) (.bi .len false (.cons (.v 2) .nil)))
    (.cons (.expr (.meth .extend false (.v 2) (.cons (.v 8) .nil)))
    (.cons (.expr (.meth .extend false (.v 2) (.cons (.frz (.call ("end_rows" : Str) (.cons (.v 9) (.cons (.v 6) .nil)))) .nil)))
    .nil))))
def d_laid : Dfn := ⟨[("program" : Str), ("order" : Str)], 11,
    (.cons (.asg (.v 2) (.lst true .nil))
    (.cons (.asg (.v 3) (.dict 0))
    (.cons (.forS (.tup (.cons (.v 4) (.cons (.v 5) .nil))) (.enum (.v 1))
      (.cons (.asg (.v 6) .non)
      (.cons (.ite (.cmp .Lt (.bin .Add false (.v 4) (.int 1)) (.bi .len false (.cons (.v 1) .nil)))
        (.cons (.asg (.v 6) (.ix (.v 1) (.bin .Add false (.v 4) (.int 1))))
        .nil)
        .nil)
      c_laid_0)))
    (.cons (.ret (.lc true (.frz (.call ("with_places" : Str) (.cons (.v 10) (.cons (.v 3) .nil)))) (.v 10) (.over (.v 2)) .nop [10]))
    .nil))))⟩
def d__law_cell_at : Dfn := ⟨[("script" : Str), ("k" : Str)], 2,
    (.cons (.ite (.cmp .Lt (.v 1) (.bi .len false (.cons (.v 0) .nil)))
      (.cons (.ret (.ix (.v 0) (.v 1)))
      .nil)
      .nil)
    (.cons (.ret (.int 0))
    .nil))⟩
def d__law_reel : Dfn := ⟨[("cell" : Str)], 1,
    (.cons (.ret (.lst true (.cons (.bi .abs false (.cons (.v 0) .nil)) (.cons (.bin .Mod false (.bin .Mult false (.bin .Add false (.bin .Mod false (.v 0) (.int 2147483647)) (.int 1)) (.int 742938285)) (.int 2147483647)) .nil))))
    .nil)⟩
def d__law_take : Dfn := ⟨[("reel" : Str), ("many" : Str)], 4,
    (.cons (.ite (.cmp .GtE (.ix (.v 0) (.int 0)) (.bin .Pow false (.int 10) (.int 18)))
      (.cons (.asg (.v 3) (.bin .Mod false (.ix (.v 0) (.int 0)) (.v 1)))
      (.cons (.asg (.ix (.v 0) (.int 0)) (.bin .FloorDiv false (.ix (.v 0) (.int 0)) (.v 1)))
      (.cons (.ret (.v 3))
      .nil)))
      .nil)
    (.cons (.asg (.ix (.v 0) (.int 1)) (.bin .Mod false (.bin .Add false (.bin .Mult false (.ix (.v 0) (.int 1)) (.int 48271)) (.int 11)) (.int 2147483647)))
    (.cons (.asg (.v 2) (.bin .Mod false (.bin .Mult false (.ix (.v 0) (.int 1)) (.ix (.v 0) (.int 1))) (.int 2147483629)))
    (.cons (.ret (.bin .Mod false (.bin .FloorDiv false (.bin .Mod false (.bin .Mult false (.v 2) (.int 69621)) (.int 2147483587)) (.int 8)) (.v 1)))
    .nil))))⟩
def c__law_names_0 : Ev.S :=
    (.cons (.whileS (.or (.cmp .In (.v 6) (.v 4)) (.one (.cmp .In (.v 6) (.v 3))))
      (.cons (.asg (.v 6) (.bin .Add false (.sl false (.v 6) .nop (.neg (.int 1))) (.ix (.v 2) (.bin .Mod false (.bin .Add false (.meth .find false (.v 2) (.cons (.ix (.v 6) (.neg (.int 1))) .nil)) (.int 1)) (.int 26)))))
      .nil))
    (.cons (.expr (.meth .append false (.v 4) (.cons (.v 6) .nil)))
    .nil))
def c__law_names_1 : Ev.S :=
    (.cons (.forS (.v 7) (.rng1 (.bin .Add false (.int 1) (.frz (.call ("_law_take" : Str) (.cons (.v 0) (.cons (.bin .Sub false (.int 8) (.bi .max2 false (.cons (.int 4) (.cons (.bi .len false (.cons (.v 6) .nil)) .nil)))) .nil))))))
      (.cons (.asg (.v 6) (.bin .Add false (.v 6) (.ix (.v 2) (.frz (.call ("_law_take" : Str) (.cons (.v 0) (.cons (.int 26) .nil)))))))
      .nil))
    c__law_names_0)
def d__law_names : Dfn := ⟨[("reel" : Str), ("many" : Str)], 8,
    (.cons (.asg (.v 2) (.str ("abcdefghijklmnopqrstuvwxyz" : Str)))
    (.cons (.asg (.v 3) (.lst false (.cons (.str ("box" : Str)) (.cons (.str ("block" : Str)) (.cons (.str ("put" : Str)) (.cons (.str ("say" : Str)) (.cons (.str ("ask" : Str)) (.cons (.str ("go" : Str)) (.cons (.str ("if" : Str)) (.cons (.str ("else" : Str)) (.cons (.str ("table" : Str)) (.cons (.str ("stop" : Str)) .nil))))))))))))
    (.cons (.asg (.v 4) (.lst true .nil))
    (.cons (.forS (.v 5) (.rng1 (.v 1))
      (.cons (.asg (.v 6) (.ix (.bin .Add false (.lst false (.cons (.str ("" : Str)) (.cons (.str ("" : Str)) (.cons (.str ("zz" : Str)) (.cons (.str ("qrst" : Str)) .nil))))) (.v 3)) (.frz (.call ("_law_take" : Str) (.cons (.v 0) (.cons (.int 14) .nil))))))
      c__law_names_1))
    (.cons (.ret (.v 4))
    .nil)))))⟩
def d__law_leaf : Dfn := ⟨[("reel" : Str), ("boxes" : Str)], 3,
    (.cons (.ite (.and (.cmp .NotEq (.v 1) (.lst false .nil)) (.one (.cmp .Gt (.frz (.call ("_law_take" : Str) (.cons (.v 0) (.cons (.int 3) .nil)))) (.int 0))))
      (.cons (.ret (.tup (.cons (.str ("box" : Str)) (.cons (.ix (.ix (.v 1) (.frz (.call ("_law_take" : Str) (.cons (.v 0) (.cons (.bi .len false (.cons (.v 1) .nil)) .nil))))) (.int 0)) .nil))))
      .nil)
      .nil)
    (.cons (.asg (.v 2) (.ix (.lst false (.cons (.int 3) (.cons (.int 10) (.cons (.int 1000) .nil)))) (.frz (.call ("_law_take" : Str) (.cons (.v 0) (.cons (.int 3) .nil))))))
    (.cons (.ret (.tup (.cons (.str ("number" : Str)) (.cons (.frz (.call ("_law_take" : Str) (.cons (.v 0) (.cons (.v 2) .nil)))) .nil))))
    .nil)))⟩
def d__law_tree : Dfn := ⟨[("reel" : Str), ("boxes" : Str), ("leaves" : Str)], 7,
    (.cons (.ite (.cmp .Lt (.v 2) (.int 2))
      (.cons (.ret (.frz (.call ("_law_leaf" : Str) (.cons (.v 0) (.cons (.v 1) .nil)))))
      .nil)
      .nil)
    (.cons (.asg (.v 3) (.bin .Add false (.int 1) (.frz (.call ("_law_take" : Str) (.cons (.v 0) (.cons (.bin .Sub false (.v 2) (.int 1)) .nil))))))
    (.cons (.asg (.v 4) (.ix (.str ("+-*" : Str)) (.frz (.call ("_law_take" : Str) (.cons (.v 0) (.cons (.int 3) .nil))))))
    (.cons (.asg (.v 5) (.frz (.call ("_law_tree" : Str) (.cons (.v 0) (.cons (.v 1) (.cons (.v 3) .nil))))))
    (.cons (.asg (.v 6) (.frz (.call ("_law_tree" : Str) (.cons (.v 0) (.cons (.v 1) (.cons (.bin .Sub false (.v 2) (.v 3)) .nil))))))
    (.cons (.ret (.tup (.cons (.v 4) (.cons (.v 5) (.cons (.v 6) .nil)))))
    .nil))))))⟩
def d__law_alike : Dfn := ⟨[("found" : Str), ("due" : Str)], 3,
    (.cons (.ite (.cmp .Is (.v 1) .non)
      (.cons (.ret (.cmp .Is (.v 0) .non))
      .nil)
      .nil)
    (.cons (.ite (.isi (.v 1) ["bool"])
      (.cons (.ret (.and (.isi (.v 0) ["bool"]) (.one (.cmp .Eq (.v 0) (.v 1)))))
      .nil)
      .nil)
    (.cons (.ite (.isi (.v 1) ["int"])
      (.cons (.ret (.and (.isi (.v 0) ["int"]) (.and (.not (.isi (.v 0) ["bool"])) (.one (.cmp .Eq (.v 0) (.v 1))))))
      .nil)
      .nil)
    (.cons (.ite (.isi (.v 1) ["str"])
      (.cons (.ret (.and (.isi (.v 0) ["str"]) (.one (.cmp .Eq (.v 0) (.v 1)))))
      .nil)
      .nil)
    (.cons (.ite (.isi (.v 1) ["tuple"])
      (.cons (.ite (.not (.isi (.v 0) ["tuple"]))
        (.cons (.ret (.bl false))
        .nil)
        .nil)
      .nil)
      (.cons (.ite (.not (.isi (.v 0) ["list"]))
        (.cons (.ret (.bl false))
        .nil)
        .nil)
      .nil))
    (.cons (.ite (.cmp .NotEq (.bi .len false (.cons (.v 0) .nil)) (.bi .len false (.cons (.v 1) .nil)))
      (.cons (.ret (.bl false))
      .nil)
      .nil)
    (.cons (.forS (.v 2) (.rng1 (.bi .len false (.cons (.v 1) .nil)))
      (.cons (.ite (.not (.frz (.call ("_law_alike" : Str) (.cons (.ix (.v 0) (.v 2)) (.cons (.ix (.v 1) (.v 2)) .nil)))))
        (.cons (.ret (.bl false))
        .nil)
        .nil)
      .nil))
    (.cons (.ret (.bl true))
    .nil))))))))⟩
def d__law_copied : Dfn := ⟨[("program" : Str)], 4,
    (.cons (.ret (.tup (.cons (.bi .list false (.cons (.ix (.v 0) (.int 0)) .nil)) (.cons (.lc false (.tup (.cons (.v 1) (.cons (.bi .list false (.cons (.v 2) .nil)) (.cons (.v 3) .nil)))) (.tup (.cons (.v 1) (.cons (.v 2) (.cons (.v 3) .nil)))) (.over (.ix (.v 0) (.int 1))) .nop [1, 2, 3]) .nil))))
    .nil)⟩
def d__law_order : Dfn := ⟨[("reel" : Str), ("many" : Str)], 5,
    (.cons (.asg (.v 2) (.lc true (.v 4) (.v 4) (.rng2 (.int 1) (.v 1)) .nop [4]))
    (.cons (.asg (.v 3) (.lst true (.cons (.int 0) .nil)))
    (.cons (.whileS (.cmp .NotEq (.v 2) (.lst false .nil))
      (.cons (.expr (.meth .append false (.v 3) (.cons (.meth .popAt false (.v 2) (.cons (.frz (.call ("_law_take" : Str) (.cons (.v 0) (.cons (.bi .len false (.cons (.v 2) .nil)) .nil)))) .nil)) .nil)))
      .nil))
    (.cons (.ret (.sp .kTupL false (.v 3) .nop))
    .nil))))⟩
def d__law_jump_row : Dfn := ⟨[("blocks" : Str), ("order" : Str), ("block" : Str)], 5,
    (.cons (.asg (.v 3) (.ix (.ix (.v 0) (.v 2)) (.int 2)))
    (.cons (.asg (.v 4) (.sp .tIx false (.v 1) (.v 2)))
    (.cons (.ite (.cmp .Eq (.ix (.v 3) (.int 0)) (.str ("stop" : Str)))
      (.cons (.ret (.lst false (.cons (.tup (.cons (.str ("stop" : Str)) .nil)) .nil)))
      .nil)
      .nil)
    (.cons (.ite (.and (.cmp .Lt (.bin .Add false (.v 4) (.int 1)) (.bi .len false (.cons (.v 1) .nil))) (.one (.cmp .Eq (.ix (.v 1) (.bin .Add false (.v 4) (.int 1))) (.ix (.v 3) (.int 1)))))
      (.cons (.ret (.lst false .nil))
      .nil)
      .nil)
    (.cons (.ret (.lst false (.cons (.v 3) .nil)))
    .nil)))))⟩
def c__law_due_0 : Ev.S :=
    (.cons (.asg (.v 5) (.lst true .nil))
    (.cons (.forS (.v 6) (.over (.v 3))
      (.cons (.ite (.cmp .Eq (.ix (.v 6) (.int 0)) (.str ("go" : Str)))
        (.cons (.asg (.v 6) (.tup (.cons (.str ("jump" : Str)) (.cons (.ix (.v 2) (.ix (.v 6) (.int 1))) .nil))))
        .nil)
        .nil)
      (.cons (.expr (.meth .append false (.v 5) (.cons (.v 6) .nil)))
      .nil)))
    (.cons (.ret (.v 5))
    .nil)))
def d__law_due : Dfn := ⟨[("blocks" : Str), ("order" : Str)], 7,
    (.cons (.asg (.v 2) (.dict 0))
    (.cons (.asg (.v 3) (.lst false .nil))
    (.cons (.forS (.v 4) (.over (.v 1))
      (.cons (.asg (.ix (.v 2) (.v 4)) (.bi .len false (.cons (.v 3) .nil)))
      (.cons (.asg (.v 3) (.bin .Add false (.bin .Add false (.v 3) (.ix (.ix (.v 0) (.v 4)) (.int 1))) (.frz (.call ("_law_jump_row" : Str) (.cons (.v 0) (.cons (.v 1) (.cons (.v 4) .nil)))))))
      .nil)))
    c__law_due_0)))⟩
def c_law_0 : Ev.S :=
    (.cons (.asg (.v 12) (.call ("_law_reel" : Str) (.cons (.ix (.v 4) (.v 7)) .nil)))
    (.cons (.asg (.v 13) (.tup (.cons (.str ("go" : Str)) (.cons (.frz (.call ("_law_take" : Str) (.cons (.v 12) (.cons (.bi .len false (.cons (.v 4) .nil)) .nil)))) .nil))))
    (.cons (.ite (.cmp .Eq (.frz (.call ("_law_take" : Str) (.cons (.v 12) (.cons (.int 5) .nil)))) (.int 0))
      (.cons (.asg (.v 13) (.tup (.cons (.str ("stop" : Str)) .nil)))
      .nil)
      .nil)
    (.cons (.asg (.v 14) (.lc false (.tup (.cons (.str ("say" : Str)) (.cons (.frz (.call ("_law_tree" : Str) (.cons (.v 12) (.cons (.v 3) (.cons (.int 1) .nil))))) .nil))) (.v 15) (.rng1 (.frz (.call ("_law_take" : Str) (.cons (.v 12) (.cons (.int 4) .nil))))) .nop [15]))
    (.cons (.expr (.meth .append false (.v 6) (.cons (.tup (.cons (.ix (.v 1) (.bin .Sub false (.int 13) (.v 7))) (.cons (.v 14) (.cons (.v 13) .nil)))) .nil)))
    .nil)))))
def c_law_1 : Ev.S :=
    (.cons (.fix 6)
    (.cons (.asg (.v 8) (.tup (.cons (.v 3) (.cons (.v 6) .nil))))
    (.cons (.asg (.v 9) (.frz (.call ("_law_copied" : Str) (.cons (.v 8) .nil))))
    (.cons (.asg (.v 10) (.frz (.call ("_law_due" : Str) (.cons (.v 6) (.cons (.v 5) .nil)))))
    (.cons (.asg (.v 11) (.call ("laid" : Str) (.cons (.v 9) (.cons (.v 5) .nil))))
    (.cons (.ite (.not (.frz (.call ("_law_alike" : Str) (.cons (.v 11) (.cons (.v 10) .nil)))))
      (.cons (.ret (.bl false))
      .nil)
      .nil)
    (.cons (.expr (.meth .append false (.v 11) (.cons (.tup (.cons (.str ("stop" : Str)) .nil)) .nil)))
    (.cons (.ret (.and (.frz (.call ("_law_alike" : Str) (.cons (.call ("laid" : Str) (.cons (.v 9) (.cons (.v 5) .nil))) (.cons (.v 10) .nil)))) (.one (.frz (.call ("_law_alike" : Str) (.cons (.v 9) (.cons (.v 8) .nil)))))))
    .nil))))))))
def c_law_2 : Ev.S :=
    (.cons (.asg (.v 5) (.frz (.call ("_law_order" : Str) (.cons (.v 2) (.cons (.bi .len false (.cons (.v 4) .nil)) .nil)))))
    (.cons (.asg (.v 6) (.lst true .nil))
    (.cons (.forS (.v 7) (.rng1 (.bi .len false (.cons (.v 4) .nil)))
      c_law_0)
    c_law_1)))
def d_law : Dfn := ⟨[("script" : Str)], 16,
    (.cons (.asg (.v 1) (.frz (.call ("_law_names" : Str) (.cons (.call ("_law_reel" : Str) (.cons (.frz (.call ("_law_cell_at" : Str) (.cons (.v 0) (.cons (.int 0) .nil)))) .nil)) (.cons (.int 14) .nil)))))
    (.cons (.asg (.v 2) (.call ("_law_reel" : Str) (.cons (.frz (.call ("_law_cell_at" : Str) (.cons (.v 0) (.cons (.int 1) .nil)))) .nil)))
    (.cons (.asg (.v 3) (.lc false (.tup (.cons (.ix (.v 1) (.v 7)) (.cons (.frz (.call ("_law_take" : Str) (.cons (.v 2) (.cons (.int 1000) .nil)))) .nil))) (.v 7) (.rng1 (.frz (.call ("_law_take" : Str) (.cons (.v 2) (.cons (.int 5) .nil))))) .nop [7]))
    (.cons (.asg (.v 4) (.sl false (.v 0) (.int 2) (.int 12)))
    (.cons (.ite (.cmp .Eq (.v 4) (.lst false .nil))
      (.cons (.asg (.v 4) (.lst false (.cons (.int 0) .nil)))
      .nil)
      .nil)
    c_law_2)))))⟩
def T (f : Str) : Option Dfn :=
  if f = ("end_rows" : Str) then some d_end_rows else
  if f = ("with_places" : Str) then some d_with_places else
  if f = ("laid" : Str) then some d_laid else
  if f = ("_law_cell_at" : Str) then some d__law_cell_at else
  if f = ("_law_reel" : Str) then some d__law_reel else
  if f = ("_law_take" : Str) then some d__law_take else
  if f = ("_law_names" : Str) then some d__law_names else
  if f = ("_law_leaf" : Str) then some d__law_leaf else
  if f = ("_law_tree" : Str) then some d__law_tree else
  if f = ("_law_alike" : Str) then some d__law_alike else
  if f = ("_law_copied" : Str) then some d__law_copied else
  if f = ("_law_order" : Str) then some d__law_order else
  if f = ("_law_jump_row" : Str) then some d__law_jump_row else
  if f = ("_law_due" : Str) then some d__law_due else
  if f = ("law" : Str) then some d_law else
  none
def fs : List Str := [("end_rows" : Str), ("with_places" : Str), ("laid" : Str), ("_law_cell_at" : Str), ("_law_reel" : Str), ("_law_take" : Str), ("_law_names" : Str), ("_law_leaf" : Str), ("_law_tree" : Str), ("_law_alike" : Str), ("_law_copied" : Str), ("_law_order" : Str), ("_law_jump_row" : Str), ("_law_due" : Str), ("law" : Str)]
def cx : Cst where
  fl := []
  ms := []
  nw := []
  xs := []
  kd := []
  ca := []
  is := []
end BF
namespace BF
open PySem PySem.Spec PyProof.Rows L2 Ev
/-- p's pot alone is another -/
def potM (M : Mem) (p : Addr) (c n : Int) : Mem := mput M p (.lst [.int c, .int n])
abbrev Pot (M : Mem) (p : Addr) : Prop := ∃ c n : Int, M p = some (.lst [.int c, .int n])
theorem next_ok {k : Nat} {M : Mem} {p : Addr} {c n many : Int} {Q : VQ} {W : WQ} (hp : M p = some (.lst [.int c, .int n])) (hm : 0 < many) (hb : many.natAbs.log2 < 9000)
  (h : ∀ x c' n', 0 ≤ x → x < many → Q (.int x) (potM M p c' n')) : callK T gl (k + 1) "_law_take" [.mr p, .int many] M Q W := by
  refine callK_intro (d := d__law_take) rfl rfl ?_
  simp only [Ev.wpS, Ev.wpE, Ev.wpA, Ev.wpT, ts_cons, ts_nil, Ev.wpB, Ev.wpI, lenE, List.map_cons, List.map_nil, List.length_cons, List.length_nil, List.replicate, Nat.reduceSub, Nat.reduceAdd, List.cons_append, List.nil_append, List.getElem?_cons_zero, List.getElem?_cons_succ, List.set_cons_zero, List.set_cons_succ, Option.some.injEq, exists_eq_left', q_add, q_adds, q_addt, q_addl, q_sub, q_mul, q_rep, q_mod, q_div, q_pow, q_ixl, q_ixs, q_ixt, q_ixk, q_ixstr, c_eq, c_ne, c_lt, c_le, c_gt, c_ge, c_is, c_isn, c_isb, c_isnb, c_in, c_nin, c_ii, c_ss, c_bb, l_new0, l_new1, D.bl.injEq, D.int.injEq, wipeD, atI_lit, ixN_lit, q_ixmm, u_eqm, cm_r, cm_l, cm_mod, cd_s, cp_s, tn_lit, s1, ite_dec, ite_ndec, Nat.reduceLT, Nat.reduceLeDiff, Int.reduceLT, Int.reduceLE, Int.reduceNeg, Int.reducePow, if_true, if_false, ite_true, ite_false, true_and, and_true, Nat.reduceEqDiff, reduceIte, Int.reduceToNat, Bool.false_eq_true, qs_t, qs_str, qs_l, qs_s, qs_m, ov_l, ov_t, ov_s, ov_k, ov_m, ov_str, zp_ll, zp_tt, ex_two, ex_two0, ex_twoi, bi_lenl, bi_lent, bi_lens, bi_lenm, bi_lenstr, bi_abs, bi_max2, bi_min2, bi_sum, bi_inti, bi_intb, bi_stri, bi_listl, bi_listt, bi_lists, bi_listm, bi_tupl, bi_tups, bi_tupt, bi_tupm, r_get1, r_get2, m_get1i, m_get2i, eq_ni, eq_in, r_mm, m_append, m_extend, lst_mm, seq_mm, seq_l, seq_t, seq_s, seq_k, lst_l, lst_s, tup_t, tup_k, unp_t, unp_k, unp_l, own_l, own_mm, isNop, partE, exists_eq_left, ex_len, d__law_take, q_ixm hp, u_eq hp, cd_w hm hb, hm]
  split
  · exact h _ _ _ (Int.emod_nonneg _ (by omega)) (Int.emod_lt_of_pos _ hm)
  · exact h _ _ _ (Int.emod_nonneg _ (by omega)) (Int.emod_lt_of_pos _ hm)
theorem next_f {k : Nat} {M : Mem} {p : Addr} {many : Int} {Q : VQ} {W : WQ} (hp : Pot M p) (hm : 0 < many) (hb : many.natAbs.log2 < 9000)
  (h : ∀ x c' n', 0 ≤ x → x < many → Q (.int x) (potM M p c' n')) : callK T gl (k + 1) "_law_take" [.mr p, .int many] M (frzQ M Q) W := by
  obtain ⟨c, n, hp⟩ := hp
  exact next_ok hp hm hb fun x c' n' h0 h1 => f_refl (by unfold potM; rw [restr_old hp, restr_self]; exact h x c' n' h0 h1)
theorem Pot.put {M : Mem} {p q : Addr} {c n : Int} (h : Pot M q) : Pot (potM M p c n) q := by
  unfold potM
  by_cases e : q = p
  · subst e; exact ⟨c, n, mput_same⟩
  · obtain ⟨c', n', h⟩ := h; exact ⟨c', n', by rw [mput_ne e]; exact h⟩
theorem Pot.new {M : Mem} {p a : Addr} {o : MObj} (h : Pot M p) (ha : M a = none) : Pot (mput M a o) p := by
  obtain ⟨c, n, h⟩ := h; exact ⟨c, n, mput_get ha h⟩
theorem Pot.same {M : Mem} {p : Addr} {c n : Int} : Pot (potM M p c n) p := ⟨c, n, mput_same⟩
theorem log_s {x : Int} (h : 0 ≤ x) (h2 : x < 1000000) : x.natAbs.log2 < 9000 := by
  by_cases e : x.natAbs = 0
  · rw [e]; decide
  · exact Nat.lt_trans ((Nat.log2_lt e).2 (by omega : x.natAbs < 2 ^ 20)) (by decide)
theorem potM_potM {M : Mem} {p : Addr} {c n c' n' : Int} : potM (potM M p c n) p c' n' = potM M p c' n' := mput_mput
theorem potM_self {M : Mem} {p : Addr} {c n : Int} (h : M p = some (.lst [.int c, .int n])) : potM M p c n = M := by
  funext b; unfold potM mput
  by_cases e : b = p
  · subst e; simp [h]
  · simp [e]
theorem pot_ne {M : Mem} {p L : Addr} (hp : Pot M p) (hL : M L = none) : p ≠ L := by
  obtain ⟨c, n, hp⟩ := hp; rintro rfl; rw [hL] at hp; cases hp
theorem comp_pot {α : Type} {L : Addr} {turn : D → Mem → (Option D → Mem → Prop) → Prop} {still : Mem → Prop} {q : List D → Mem → Prop} {xs : List α} {f : α → D} {p : Addr} {M0 : Mem} (hp : Pot M0 p) (hL : M0 L = none) (G : D → Prop) (hN : xs.length ≤ sizeLine) (hs : ∀ M, still M)
    (ht : ∀ x ∈ xs, ∀ M kk, Pot M p → (∀ y c n, G y → kk (some y) (potM M p c n)) → turn (f x) M kk)
    (hq : ∀ ys c n, ys.length = xs.length → (∀ y ∈ ys, G y) → q ys (mput (potM M0 p c n) L (.lst ys))) : compQ L turn still (xs.map f) (mput M0 L (.lst [])) q := by
  have hpL := pot_ne hp hL
  obtain ⟨c0, n0, hp⟩ := hp
  refine comp_ind (L := L) f (fun i acc M' => ∃ c n, M' = mput (potM M0 p c n) L (.lst acc) ∧ acc.length = i ∧ ∀ y ∈ acc, G y) xs.length hN ?_ ?_ _ 0 [] _ (by omega) ?_ ?_
  · rintro i acc M' _ ⟨c, n, rfl, h2, _⟩
    exact ⟨hs _, mput_same, by omega⟩
  · rintro acc M' ⟨c, n, rfl, h2, h3⟩
    exact hq acc c n h2 h3
  · exact ⟨c0, n0, by rw [potM_self hp], rfl, fun _ h => by cases h⟩
  · rintro i x hx acc M' kk ⟨c, n, rfl, h2, h3⟩ hk
    refine ht x (List.mem_of_getElem? hx) _ kk ⟨c, n, by rw [mput_ne hpL]; unfold potM; exact mput_same⟩ fun y c' n' hy => hk _ _ ⟨?_, c', n', ?_, by simp; omega, ?_⟩
    · unfold potM; rw [mput_ne hpL.symm]; exact mput_same
    · unfold potM; rw [mput_comm hpL, mput_mput, mput_comm hpL.symm, mput_mput]
    · intro z hz
      rcases List.mem_append.mp hz with hz | hz
      · exact h3 z hz
      · rw [List.mem_singleton] at hz; subst hz; exact hy
theorem map_of {α : Type} (f : α → D) (P : α → Prop) : ∀ {ys : List D}, (∀ y ∈ ys, ∃ x, y = f x ∧ P x) → ∃ xs : List α, ys = xs.map f ∧ ∀ x ∈ xs, P x
  | [], _ => ⟨[], rfl, fun _ h => by cases h⟩
  | y :: ys, h => by
    obtain ⟨x, rfl, hx⟩ := h y (by simp)
    obtain ⟨xs, rfl, hxs⟩ := map_of f P (ys := ys) fun z hz => h z (List.mem_cons_of_mem _ hz)
    exact ⟨x :: xs, rfl, fun z hz => by
      rcases List.mem_cons.mp hz with e | hz
      · subst e; exact hx
      · exact hxs z hz⟩
theorem mdel_pot {M : Mem} {p L : Addr} {c n : Int} {o : MObj} (hp : Pot M p) (hL : M L = none) : mdel (mput (potM M p c n) L o) L = potM M p c n := mdel_mput (by unfold potM; rw [mput_ne (pot_ne hp hL).symm]; exact hL)
theorem rg_nat (j : Nat) : rgD 0 (j : Int) = (List.range j).map fun i : Nat => D.int i := by
  unfold rgD
  rw [show ((j : Int) - 0).toNat = j from by omega]
  exact List.map_congr_left fun i _ => by rw [Int.zero_add]
theorem restr_pot {M : Mem} {p : Addr} {c n : Int} (hp : Pot M p) : restr M (potM M p c n) = potM M p c n := by
  obtain ⟨c', n', hp⟩ := hp
  unfold potM; rw [restr_old hp, restr_self]
theorem potM_mput {M : Mem} {p a : Addr} {c n : Int} {o : MObj} (h : p ≠ a) : potM (mput M a o) p c n = mput (potM M p c n) a o := by
  unfold potM; rw [mput_comm h.symm]
theorem pot_new {M : Mem} {p a : Addr} {c n : Int} (h : p ≠ a) (ha : M a = none) : potM M p c n a = none := by
  unfold potM; rw [mput_ne h.symm]; exact ha
theorem pot_mput {M : Mem} {p a : Addr} {o : MObj} (h : p ≠ a) (hp : Pot M p) : Pot (mput M a o) p := by
  obtain ⟨c, n, hp⟩ := hp; exact ⟨c, n, by rw [mput_ne h]; exact hp⟩
theorem pot_start {M : Mem} {p : Addr} (hp : Pot M p) : ∃ c n, M = potM M p c n := by
  obtain ⟨c, n, hp⟩ := hp; exact ⟨c, n, (potM_self hp).symm⟩
theorem restr_pot_new {M : Mem} {p a : Addr} {c n : Int} {o : MObj} (hp : Pot M p) (ha : M a = none) : restr M (mput (potM M p c n) a o) = potM M p c n := by
  rw [restr_new ha, restr_pot hp]
def Pots (M : Mem) (ps : List Addr) : Prop := ∀ p ∈ ps, Pot M p
theorem Pots.put {M : Mem} {ps : List Addr} {p : Addr} {c n : Int} (h : Pots M ps) : Pots (potM M p c n) ps := fun q hq => (h q hq).put
theorem Pots.new {M : Mem} {ps : List Addr} {a : Addr} {o : MObj} (h : Pots M ps) (ha : M a = none) : Pots (mput M a o) ps := fun q hq => (h q hq).new ha
theorem Pots.restr {M M' : Mem} {ps : List Addr} (h : Pots M ps) (h' : Pots M' ps) : Pots (restr M M') ps := fun q hq => by
  obtain ⟨c, n, e⟩ := h q hq
  obtain ⟨c', n', e'⟩ := h' q hq
  exact ⟨c', n', by unfold Ev.restr; rw [e]; exact e'⟩
theorem Pots.del {M : Mem} {ps : List Addr} {L : Addr} (h : Pots M ps) (hL : ∀ p ∈ ps, p ≠ L) : Pots (mdel M L) ps := fun q hq => by
  obtain ⟨c, n, e⟩ := h q hq
  exact ⟨c, n, by unfold mdel; rw [if_neg (hL q hq)]; exact e⟩
/-- by a natural number -/
theorem next_n (many : Nat) {k : Nat} {M : Mem} {p : Addr} {m : Int} {Q : VQ} {W : WQ} (hp : Pot M p) (e : m = (many : Int)) (hm : 0 < many) (hb : many < 1000000)
  (h : ∀ (x : Nat) c' n', x < many → Q (.int (x : Int)) (potM M p c' n')) : callK T gl (k + 1) "_law_take" [.mr p, .int m] M (frzQ M Q) W := by
  subst e
  refine next_f hp (by omega) (log_s (by omega) (by omega)) fun x c n h0 h1 => ?_
  obtain ⟨x', rfl⟩ : ∃ x' : Nat, x = x' := ⟨x.toNat, by omega⟩
  exact h x' c n (by omega)
theorem dom_pots {M : Mem} {p : Addr} {c n c' n' : Int} : Dom (potM M p c n) (potM M p c' n') := by unfold potM; exact Dom.put Dom.refl

/-! blocks, laid -/
inductive En where
  | stop | go (x : Nat) | tab (e : D) (xs : List Nat) | ife (s : Str) (a b : D) (x y : Nat)
abbrev nD (x : Nat) : D := .int (x : Int)
def En.d : En → D
  | .stop => .tup [.str "stop"]
  | .go x => .tup [.str "go", nD x]
  | .tab e xs => .tup [.str "table", e, .tup (xs.map nD)]
  | .ife s a b x y => .tup [.str "if", .str s, a, b, nD x, nD y]
def En.tos : En → List Nat
  | .stop => []
  | .go x => [x]
  | .tab _ xs => xs
  | .ife _ _ _ x y => [x, y]
structure Bl where
  nm : Str
  st : List D
  e : En
def Bl.d (b : Bl) : D := .tup [.str b.nm, .lst b.st, b.e.d]
inductive Rw where
  | st (d : D) | stop | jump (x : Nat) | whn (s : Str) (a b : D) (x : Nat) | unl (s : Str) (a b : D) (x : Nat) | tab (e : D) (xs : List Nat)
def Rw.d : Rw → D
  | .st d => d
  | .stop => .tup [.str "stop"]
  | .jump x => .tup [.str "jump", nD x]
  | .whn s a b x => .tup [.str "when", .str s, a, b, nD x]
  | .unl s a b x => .tup [.str "unless", .str s, a, b, nD x]
  | .tab e xs => .tup [.str "table", e, .tup (xs.map nD)]
def Rw.tos : Rw → List Nat
  | .st _ => []
  | .stop => []
  | .jump x => [x]
  | .whn _ _ _ x => [x]
  | .unl _ _ _ x => [x]
  | .tab _ xs => xs
def Rw.mv (pl : Nat → Nat) : Rw → Rw
  | .st d => .st d
  | .stop => .stop
  | .jump x => .jump (pl x)
  | .whn s a b x => .whn s a b (pl x)
  | .unl s a b x => .unl s a b (pl x)
  | .tab e xs => .tab e (xs.map pl)
def endRows : En → Option Nat → List Rw
  | .stop, _ => [.stop]
  | .tab e xs, _ => [.tab e xs]
  | .go x, af => if af = some x then [] else [.jump x]
  | .ife s a b x y, af => if x = y then (if af = some y then [] else [.jump y]) else if af = some x then [.unl s a b y] else if af = some y then [.whn s a b x] else [.whn s a b x, .jump y]
def aD : Option Nat → D
  | none => .non
  | some x => nD x
/-- a statement's row is none of the ends' -/
def StOk (d : D) : Prop := ∃ (s : Str) (r : List D), d = .tup (.str s :: r) ∧ ¬ s = ("jump" : Str) ∧ ¬ s = ("when" : Str) ∧ ¬ s = ("unless" : Str) ∧ ¬ s = ("table" : Str)
theorem ne_stop_go : (("stop" : Str) = "go") = False := eq_false (by decide +kernel)
theorem ne_stop_if : (("stop" : Str) = "if") = False := eq_false (by decide +kernel)
theorem ne_stop_table : (("stop" : Str) = "table") = False := eq_false (by decide +kernel)
theorem ne_stop_jump : (("stop" : Str) = "jump") = False := eq_false (by decide +kernel)
theorem ne_stop_when : (("stop" : Str) = "when") = False := eq_false (by decide +kernel)
theorem ne_stop_unless : (("stop" : Str) = "unless") = False := eq_false (by decide +kernel)
theorem ne_go_stop : (("go" : Str) = "stop") = False := eq_false (by decide +kernel)
theorem ne_go_if : (("go" : Str) = "if") = False := eq_false (by decide +kernel)
theorem ne_go_table : (("go" : Str) = "table") = False := eq_false (by decide +kernel)
theorem ne_go_jump : (("go" : Str) = "jump") = False := eq_false (by decide +kernel)
theorem ne_go_when : (("go" : Str) = "when") = False := eq_false (by decide +kernel)
theorem ne_go_unless : (("go" : Str) = "unless") = False := eq_false (by decide +kernel)
theorem ne_if_stop : (("if" : Str) = "stop") = False := eq_false (by decide +kernel)
theorem ne_if_go : (("if" : Str) = "go") = False := eq_false (by decide +kernel)
theorem ne_if_table : (("if" : Str) = "table") = False := eq_false (by decide +kernel)
theorem ne_if_jump : (("if" : Str) = "jump") = False := eq_false (by decide +kernel)
theorem ne_if_when : (("if" : Str) = "when") = False := eq_false (by decide +kernel)
theorem ne_if_unless : (("if" : Str) = "unless") = False := eq_false (by decide +kernel)
theorem ne_table_stop : (("table" : Str) = "stop") = False := eq_false (by decide +kernel)
theorem ne_table_go : (("table" : Str) = "go") = False := eq_false (by decide +kernel)
theorem ne_table_if : (("table" : Str) = "if") = False := eq_false (by decide +kernel)
theorem ne_table_jump : (("table" : Str) = "jump") = False := eq_false (by decide +kernel)
theorem ne_table_when : (("table" : Str) = "when") = False := eq_false (by decide +kernel)
theorem ne_table_unless : (("table" : Str) = "unless") = False := eq_false (by decide +kernel)
theorem ne_jump_stop : (("jump" : Str) = "stop") = False := eq_false (by decide +kernel)
theorem ne_jump_go : (("jump" : Str) = "go") = False := eq_false (by decide +kernel)
theorem ne_jump_if : (("jump" : Str) = "if") = False := eq_false (by decide +kernel)
theorem ne_jump_table : (("jump" : Str) = "table") = False := eq_false (by decide +kernel)
theorem ne_jump_when : (("jump" : Str) = "when") = False := eq_false (by decide +kernel)
theorem ne_jump_unless : (("jump" : Str) = "unless") = False := eq_false (by decide +kernel)
theorem ne_when_stop : (("when" : Str) = "stop") = False := eq_false (by decide +kernel)
theorem ne_when_go : (("when" : Str) = "go") = False := eq_false (by decide +kernel)
theorem ne_when_if : (("when" : Str) = "if") = False := eq_false (by decide +kernel)
theorem ne_when_table : (("when" : Str) = "table") = False := eq_false (by decide +kernel)
theorem ne_when_jump : (("when" : Str) = "jump") = False := eq_false (by decide +kernel)
theorem ne_when_unless : (("when" : Str) = "unless") = False := eq_false (by decide +kernel)
theorem ne_unless_stop : (("unless" : Str) = "stop") = False := eq_false (by decide +kernel)
theorem ne_unless_go : (("unless" : Str) = "go") = False := eq_false (by decide +kernel)
theorem ne_unless_if : (("unless" : Str) = "if") = False := eq_false (by decide +kernel)
theorem ne_unless_table : (("unless" : Str) = "table") = False := eq_false (by decide +kernel)
theorem ne_unless_jump : (("unless" : Str) = "jump") = False := eq_false (by decide +kernel)
theorem ne_unless_when : (("unless" : Str) = "when") = False := eq_false (by decide +kernel)
theorem aD_eq {M : Mem} {x : Nat} {af : Option Nat} {k : Bool → Prop} : eqQ M (nD x) (aD af) k = k (decide (af = some x)) := by
  cases af with
  | none => exact eq_in
  | some y =>
    show k (decide ((x : Int) = (y : Int))) = _
    congr 1
    rw [decide_eq_decide]
    exact ⟨fun h => by rw [Int.ofNat.inj h], fun h => by cases h; rfl⟩
theorem atL {α : Type} {xs : List α} {x : α} (h : xs.getLast? = some x) : atI xs (-1) = some x := by
  have hne : xs ≠ [] := by rintro rfl; cases h
  rw [atI_last xs hne]
  rw [List.getLast?_eq_some_getLast hne] at h; exact h
theorem nD_eq {M : Mem} {x y : Nat} {k : Bool → Prop} : eqQ M (nD x) (nD y) k = k (decide (x = y)) := by
  show k (decide ((x : Int) = (y : Int))) = _
  congr 1
  rw [decide_eq_decide]; omega
theorem restr_keeps {M M' : Mem} (h : ∀ a o, M a = some o → M' a = some o) : restr M M' = M := by
  funext a; unfold restr
  cases e : M a with
  | none => rfl
  | some o => exact h a o e
theorem ne_of_some {M : Mem} {a b : Addr} {o : MObj} (h : M a = none) (h' : M b = some o) : b ≠ a := by rintro rfl; rw [h] at h'; cases h'
theorem idxOf_at {os : List Nat} (hn : os.Nodup) : ∀ {i x : Nat}, os[i]? = some x → os.idxOf x = i := by
  intro i x h
  induction os generalizing i with
  | nil => cases h
  | cons y r ih =>
    rw [List.nodup_cons] at hn
    cases i with
    | zero => cases h; simp
    | succ i =>
      have h : r[i]? = some x := h
      have hne : y ≠ x := fun e => hn.1 (e ▸ List.mem_of_getElem? h)
      rw [List.idxOf_cons, ih hn.2 h, beq_eq_false_iff_ne.mpr hne]; rfl

/-! types, all pairs -/
theorem ib_NoneType_bool : isB "NoneType" ["bool"] = false := by decide +kernel
theorem ib_NoneType_int : isB "NoneType" ["int"] = false := by decide +kernel
theorem ib_NoneType_str : isB "NoneType" ["str"] = false := by decide +kernel
theorem ib_NoneType_tuple : isB "NoneType" ["tuple"] = false := by decide +kernel
theorem ib_NoneType_list : isB "NoneType" ["list"] = false := by decide +kernel
theorem ib_bool_bool : isB "bool" ["bool"] = true := by decide +kernel
theorem ib_bool_int : isB "bool" ["int"] = true := by decide +kernel
theorem ib_bool_str : isB "bool" ["str"] = false := by decide +kernel
theorem ib_bool_tuple : isB "bool" ["tuple"] = false := by decide +kernel
theorem ib_bool_list : isB "bool" ["list"] = false := by decide +kernel
theorem ib_int_bool : isB "int" ["bool"] = false := by decide +kernel
theorem ib_int_int : isB "int" ["int"] = true := by decide +kernel
theorem ib_int_str : isB "int" ["str"] = false := by decide +kernel
theorem ib_int_tuple : isB "int" ["tuple"] = false := by decide +kernel
theorem ib_int_list : isB "int" ["list"] = false := by decide +kernel
theorem ib_str_bool : isB "str" ["bool"] = false := by decide +kernel
theorem ib_str_int : isB "str" ["int"] = false := by decide +kernel
theorem ib_str_str : isB "str" ["str"] = true := by decide +kernel
theorem ib_str_tuple : isB "str" ["tuple"] = false := by decide +kernel
theorem ib_str_list : isB "str" ["list"] = false := by decide +kernel
theorem ib_tuple_bool : isB "tuple" ["bool"] = false := by decide +kernel
theorem ib_tuple_int : isB "tuple" ["int"] = false := by decide +kernel
theorem ib_tuple_str : isB "tuple" ["str"] = false := by decide +kernel
theorem ib_tuple_tuple : isB "tuple" ["tuple"] = true := by decide +kernel
theorem ib_tuple_list : isB "tuple" ["list"] = false := by decide +kernel
theorem ib_list_bool : isB "list" ["bool"] = false := by decide +kernel
theorem ib_list_int : isB "list" ["int"] = false := by decide +kernel
theorem ib_list_str : isB "list" ["str"] = false := by decide +kernel
theorem ib_list_tuple : isB "list" ["tuple"] = false := by decide +kernel
theorem ib_list_list : isB "list" ["list"] = true := by decide +kernel
def Tree : Nat → D → Prop
  | _, .non => True
  | _, .bl _ => True
  | _, .int _ => True
  | _, .str _ => True
  | n + 1, .tup ds => ds.length ≤ 1000000 ∧ ∀ d ∈ ds, Tree n d
  | n + 1, .lst ds => ds.length ≤ 1000000 ∧ ∀ d ∈ ds, Tree n d
  | _, _ => False
theorem isL_ix2 {M : Mem} {d x : D} {ds : List D} {j : Nat} {Q : VQ} (h : IsL M d ds) (hx : ds[j]? = some x) : ixQ M d (.int (j : Int)) Q = Q x M := by
  rw [h.ix, Ev.atI_nat, hx]; exact ex_len (P := fun x => Q x M)

/-- the same data on both sides; the first may lie in the store -/
theorem alike_ok : ∀ (n : Nat) {k : Nat} {M : Mem} {d : D} {Q : VQ} {W : WQ}, Tree n d → Q (.bl true) M → callK T gl (k + n + 1) "_law_alike" [d, d] M Q W
  | n, k, M, d, Q, W, ht, h => by
    refine callK_intro (d := d__law_alike) rfl rfl ?_
    cases d with
    | non => simp only [Ev.wpS, Ev.wpE, Ev.wpA, Ev.wpT, ts_cons, ts_nil, Ev.wpB, Ev.wpI, lenE, List.map_cons, List.map_nil, List.length_cons, List.length_nil, List.replicate, Nat.reduceSub, Nat.reduceAdd, List.cons_append, List.nil_append, List.getElem?_cons_zero, List.getElem?_cons_succ, List.set_cons_zero, List.set_cons_succ, Option.some.injEq, exists_eq_left', q_add, q_adds, q_addt, q_addl, q_sub, q_mul, q_rep, q_mod, q_div, q_pow, q_ixl, q_ixs, q_ixt, q_ixk, q_ixstr, c_eq, c_ne, c_lt, c_le, c_gt, c_ge, c_is, c_isn, c_isb, c_isnb, c_in, c_nin, c_ii, c_ss, c_bb, l_new0, l_new1, D.bl.injEq, D.int.injEq, wipeD, atI_lit, ixN_lit, q_ixmm, u_eqm, cm_r, cm_l, cm_mod, cd_s, cp_s, tn_lit, s1, ite_dec, ite_ndec, Nat.reduceLT, Nat.reduceLeDiff, Int.reduceLT, Int.reduceLE, Int.reduceNeg, Int.reducePow, if_true, if_false, ite_true, ite_false, true_and, and_true, Nat.reduceEqDiff, reduceIte, Int.reduceToNat, Bool.false_eq_true, qs_t, qs_str, qs_l, qs_s, qs_m, ov_l, ov_t, ov_s, ov_k, ov_m, ov_str, zp_ll, zp_tt, ex_two, ex_two0, ex_twoi, bi_lenl, bi_lent, bi_lens, bi_lenm, bi_lenstr, bi_abs, bi_max2, bi_min2, bi_sum, bi_inti, bi_intb, bi_stri, bi_listl, bi_listt, bi_lists, bi_listm, bi_tupl, bi_tups, bi_tupt, bi_tupm, r_get1, r_get2, m_get1i, m_get2i, eq_ni, eq_in, r_mm, m_append, m_extend, lst_mm, seq_mm, seq_l, seq_t, seq_s, seq_k, lst_l, lst_s, tup_t, tup_k, unp_t, unp_k, unp_l, own_l, own_mm, isNop, partE, exists_eq_left, ex_len, d__law_alike, Ev.isNon]; exact h
    | bl b => simp only [Ev.wpS, Ev.wpE, Ev.wpA, Ev.wpT, ts_cons, ts_nil, Ev.wpB, Ev.wpI, lenE, List.map_cons, List.map_nil, List.length_cons, List.length_nil, List.replicate, Nat.reduceSub, Nat.reduceAdd, List.cons_append, List.nil_append, List.getElem?_cons_zero, List.getElem?_cons_succ, List.set_cons_zero, List.set_cons_succ, Option.some.injEq, exists_eq_left', q_add, q_adds, q_addt, q_addl, q_sub, q_mul, q_rep, q_mod, q_div, q_pow, q_ixl, q_ixs, q_ixt, q_ixk, q_ixstr, c_eq, c_ne, c_lt, c_le, c_gt, c_ge, c_is, c_isn, c_isb, c_isnb, c_in, c_nin, c_ii, c_ss, c_bb, l_new0, l_new1, D.bl.injEq, D.int.injEq, wipeD, atI_lit, ixN_lit, q_ixmm, u_eqm, cm_r, cm_l, cm_mod, cd_s, cp_s, tn_lit, s1, ite_dec, ite_ndec, Nat.reduceLT, Nat.reduceLeDiff, Int.reduceLT, Int.reduceLE, Int.reduceNeg, Int.reducePow, if_true, if_false, ite_true, ite_false, true_and, and_true, Nat.reduceEqDiff, reduceIte, Int.reduceToNat, Bool.false_eq_true, qs_t, qs_str, qs_l, qs_s, qs_m, ov_l, ov_t, ov_s, ov_k, ov_m, ov_str, zp_ll, zp_tt, ex_two, ex_two0, ex_twoi, bi_lenl, bi_lent, bi_lens, bi_lenm, bi_lenstr, bi_abs, bi_max2, bi_min2, bi_sum, bi_inti, bi_intb, bi_stri, bi_listl, bi_listt, bi_lists, bi_listm, bi_tupl, bi_tups, bi_tupt, bi_tupm, r_get1, r_get2, m_get1i, m_get2i, eq_ni, eq_in, r_mm, m_append, m_extend, lst_mm, seq_mm, seq_l, seq_t, seq_s, seq_k, lst_l, lst_s, tup_t, tup_k, unp_t, unp_k, unp_l, own_l, own_mm, isNop, partE, exists_eq_left, ex_len, d__law_alike, Ev.isNon, typeOfD, ib_NoneType_bool, ib_NoneType_int, ib_NoneType_str, ib_NoneType_tuple, ib_NoneType_list, ib_bool_bool, ib_bool_int, ib_bool_str, ib_bool_tuple, ib_bool_list, ib_int_bool, ib_int_int, ib_int_str, ib_int_tuple, ib_int_list, ib_str_bool, ib_str_int, ib_str_str, ib_str_tuple, ib_str_list, ib_tuple_bool, ib_tuple_int, ib_tuple_str, ib_tuple_tuple, ib_tuple_list, ib_list_bool, ib_list_int, ib_list_str, ib_list_tuple, ib_list_list, decide_true]; exact h
    | int b => simp only [Ev.wpS, Ev.wpE, Ev.wpA, Ev.wpT, ts_cons, ts_nil, Ev.wpB, Ev.wpI, lenE, List.map_cons, List.map_nil, List.length_cons, List.length_nil, List.replicate, Nat.reduceSub, Nat.reduceAdd, List.cons_append, List.nil_append, List.getElem?_cons_zero, List.getElem?_cons_succ, List.set_cons_zero, List.set_cons_succ, Option.some.injEq, exists_eq_left', q_add, q_adds, q_addt, q_addl, q_sub, q_mul, q_rep, q_mod, q_div, q_pow, q_ixl, q_ixs, q_ixt, q_ixk, q_ixstr, c_eq, c_ne, c_lt, c_le, c_gt, c_ge, c_is, c_isn, c_isb, c_isnb, c_in, c_nin, c_ii, c_ss, c_bb, l_new0, l_new1, D.bl.injEq, D.int.injEq, wipeD, atI_lit, ixN_lit, q_ixmm, u_eqm, cm_r, cm_l, cm_mod, cd_s, cp_s, tn_lit, s1, ite_dec, ite_ndec, Nat.reduceLT, Nat.reduceLeDiff, Int.reduceLT, Int.reduceLE, Int.reduceNeg, Int.reducePow, if_true, if_false, ite_true, ite_false, true_and, and_true, Nat.reduceEqDiff, reduceIte, Int.reduceToNat, Bool.false_eq_true, qs_t, qs_str, qs_l, qs_s, qs_m, ov_l, ov_t, ov_s, ov_k, ov_m, ov_str, zp_ll, zp_tt, ex_two, ex_two0, ex_twoi, bi_lenl, bi_lent, bi_lens, bi_lenm, bi_lenstr, bi_abs, bi_max2, bi_min2, bi_sum, bi_inti, bi_intb, bi_stri, bi_listl, bi_listt, bi_lists, bi_listm, bi_tupl, bi_tups, bi_tupt, bi_tupm, r_get1, r_get2, m_get1i, m_get2i, eq_ni, eq_in, r_mm, m_append, m_extend, lst_mm, seq_mm, seq_l, seq_t, seq_s, seq_k, lst_l, lst_s, tup_t, tup_k, unp_t, unp_k, unp_l, own_l, own_mm, isNop, partE, exists_eq_left, ex_len, d__law_alike, Ev.isNon, typeOfD, ib_NoneType_bool, ib_NoneType_int, ib_NoneType_str, ib_NoneType_tuple, ib_NoneType_list, ib_bool_bool, ib_bool_int, ib_bool_str, ib_bool_tuple, ib_bool_list, ib_int_bool, ib_int_int, ib_int_str, ib_int_tuple, ib_int_list, ib_str_bool, ib_str_int, ib_str_str, ib_str_tuple, ib_str_list, ib_tuple_bool, ib_tuple_int, ib_tuple_str, ib_tuple_tuple, ib_tuple_list, ib_list_bool, ib_list_int, ib_list_str, ib_list_tuple, ib_list_list, decide_true, Bool.not_false]; exact h
    | str b => simp only [Ev.wpS, Ev.wpE, Ev.wpA, Ev.wpT, ts_cons, ts_nil, Ev.wpB, Ev.wpI, lenE, List.map_cons, List.map_nil, List.length_cons, List.length_nil, List.replicate, Nat.reduceSub, Nat.reduceAdd, List.cons_append, List.nil_append, List.getElem?_cons_zero, List.getElem?_cons_succ, List.set_cons_zero, List.set_cons_succ, Option.some.injEq, exists_eq_left', q_add, q_adds, q_addt, q_addl, q_sub, q_mul, q_rep, q_mod, q_div, q_pow, q_ixl, q_ixs, q_ixt, q_ixk, q_ixstr, c_eq, c_ne, c_lt, c_le, c_gt, c_ge, c_is, c_isn, c_isb, c_isnb, c_in, c_nin, c_ii, c_ss, c_bb, l_new0, l_new1, D.bl.injEq, D.int.injEq, wipeD, atI_lit, ixN_lit, q_ixmm, u_eqm, cm_r, cm_l, cm_mod, cd_s, cp_s, tn_lit, s1, ite_dec, ite_ndec, Nat.reduceLT, Nat.reduceLeDiff, Int.reduceLT, Int.reduceLE, Int.reduceNeg, Int.reducePow, if_true, if_false, ite_true, ite_false, true_and, and_true, Nat.reduceEqDiff, reduceIte, Int.reduceToNat, Bool.false_eq_true, qs_t, qs_str, qs_l, qs_s, qs_m, ov_l, ov_t, ov_s, ov_k, ov_m, ov_str, zp_ll, zp_tt, ex_two, ex_two0, ex_twoi, bi_lenl, bi_lent, bi_lens, bi_lenm, bi_lenstr, bi_abs, bi_max2, bi_min2, bi_sum, bi_inti, bi_intb, bi_stri, bi_listl, bi_listt, bi_lists, bi_listm, bi_tupl, bi_tups, bi_tupt, bi_tupm, r_get1, r_get2, m_get1i, m_get2i, eq_ni, eq_in, r_mm, m_append, m_extend, lst_mm, seq_mm, seq_l, seq_t, seq_s, seq_k, lst_l, lst_s, tup_t, tup_k, unp_t, unp_k, unp_l, own_l, own_mm, isNop, partE, exists_eq_left, ex_len, d__law_alike, Ev.isNon, typeOfD, ib_NoneType_bool, ib_NoneType_int, ib_NoneType_str, ib_NoneType_tuple, ib_NoneType_list, ib_bool_bool, ib_bool_int, ib_bool_str, ib_bool_tuple, ib_bool_list, ib_int_bool, ib_int_int, ib_int_str, ib_int_tuple, ib_int_list, ib_str_bool, ib_str_int, ib_str_str, ib_str_tuple, ib_str_list, ib_tuple_bool, ib_tuple_int, ib_tuple_str, ib_tuple_tuple, ib_tuple_list, ib_list_bool, ib_list_int, ib_list_str, ib_list_tuple, ib_list_list, decide_true]; exact h
    | mr a => cases n <;> exact ht.elim
    | scr a => cases n <;> exact ht.elim
    | ft a => cases n <;> exact ht.elim
    | kt a => cases n <;> exact ht.elim
    | tup ds =>
      cases n with
      | zero => exact ht.elim
      | succ n =>
        obtain ⟨hl, hd⟩ := ht
        simp only [Ev.wpS, Ev.wpE, Ev.wpA, Ev.wpT, ts_cons, ts_nil, Ev.wpB, Ev.wpI, lenE, List.map_cons, List.map_nil, List.length_cons, List.length_nil, List.replicate, Nat.reduceSub, Nat.reduceAdd, List.cons_append, List.nil_append, List.getElem?_cons_zero, List.getElem?_cons_succ, List.set_cons_zero, List.set_cons_succ, Option.some.injEq, exists_eq_left', q_add, q_adds, q_addt, q_addl, q_sub, q_mul, q_rep, q_mod, q_div, q_pow, q_ixl, q_ixs, q_ixt, q_ixk, q_ixstr, c_eq, c_ne, c_lt, c_le, c_gt, c_ge, c_is, c_isn, c_isb, c_isnb, c_in, c_nin, c_ii, c_ss, c_bb, l_new0, l_new1, D.bl.injEq, D.int.injEq, wipeD, atI_lit, ixN_lit, q_ixmm, u_eqm, cm_r, cm_l, cm_mod, cd_s, cp_s, tn_lit, s1, ite_dec, ite_ndec, Nat.reduceLT, Nat.reduceLeDiff, Int.reduceLT, Int.reduceLE, Int.reduceNeg, Int.reducePow, if_true, if_false, ite_true, ite_false, true_and, and_true, Nat.reduceEqDiff, reduceIte, Int.reduceToNat, Bool.false_eq_true, qs_t, qs_str, qs_l, qs_s, qs_m, ov_l, ov_t, ov_s, ov_k, ov_m, ov_str, zp_ll, zp_tt, ex_two, ex_two0, ex_twoi, bi_lenl, bi_lent, bi_lens, bi_lenm, bi_lenstr, bi_abs, bi_max2, bi_min2, bi_sum, bi_inti, bi_intb, bi_stri, bi_listl, bi_listt, bi_lists, bi_listm, bi_tupl, bi_tups, bi_tupt, bi_tupm, r_get1, r_get2, m_get1i, m_get2i, eq_ni, eq_in, r_mm, m_append, m_extend, lst_mm, seq_mm, seq_l, seq_t, seq_s, seq_k, lst_l, lst_s, tup_t, tup_k, unp_t, unp_k, unp_l, own_l, own_mm, isNop, partE, exists_eq_left, ex_len, d__law_alike, Ev.isNon, typeOfD, ib_NoneType_bool, ib_NoneType_int, ib_NoneType_str, ib_NoneType_tuple, ib_NoneType_list, ib_bool_bool, ib_bool_int, ib_bool_str, ib_bool_tuple, ib_bool_list, ib_int_bool, ib_int_int, ib_int_str, ib_int_tuple, ib_int_list, ib_str_bool, ib_str_int, ib_str_str, ib_str_tuple, ib_str_list, ib_tuple_bool, ib_tuple_int, ib_tuple_str, ib_tuple_tuple, ib_tuple_list, ib_list_bool, ib_list_int, ib_list_str, ib_list_tuple, ib_list_list, Bool.not_true]
        refine ⟨by omega, by omega, ?_⟩
        rw [rg_nat]
        refine loop (List.range ds.length) _ (fun _ σ' M' => ∃ e, σ' = [some (.tup ds), some (.tup ds), e] ∧ M' = M) ⟨_, rfl, rfl⟩ (fun _ _ _ _ _ => trivial) ?_ ?_
        · rintro j x hx σ' M' kk ⟨e, rfl, rfl⟩ hk
          have hj : j < ds.length := by have := (List.getElem?_eq_some_iff.mp hx).1; simpa using this
          have hxj : x = j := by rw [List.getElem?_eq_getElem (by simpa using hj)] at hx; cases hx; simp
          subst hxj
          have hat : atI ds (x : Int) = some ds[x] := by rw [Ev.atI_nat, List.getElem?_eq_getElem hj]
          simp only [Ev.wpS, Ev.wpE, Ev.wpA, Ev.wpT, ts_cons, ts_nil, Ev.wpB, Ev.wpI, lenE, List.map_cons, List.map_nil, List.length_cons, List.length_nil, List.replicate, Nat.reduceSub, Nat.reduceAdd, List.cons_append, List.nil_append, List.getElem?_cons_zero, List.getElem?_cons_succ, List.set_cons_zero, List.set_cons_succ, Option.some.injEq, exists_eq_left', q_add, q_adds, q_addt, q_addl, q_sub, q_mul, q_rep, q_mod, q_div, q_pow, q_ixl, q_ixs, q_ixt, q_ixk, q_ixstr, c_eq, c_ne, c_lt, c_le, c_gt, c_ge, c_is, c_isn, c_isb, c_isnb, c_in, c_nin, c_ii, c_ss, c_bb, l_new0, l_new1, D.bl.injEq, D.int.injEq, wipeD, atI_lit, ixN_lit, q_ixmm, u_eqm, cm_r, cm_l, cm_mod, cd_s, cp_s, tn_lit, s1, ite_dec, ite_ndec, Nat.reduceLT, Nat.reduceLeDiff, Int.reduceLT, Int.reduceLE, Int.reduceNeg, Int.reducePow, if_true, if_false, ite_true, ite_false, true_and, and_true, Nat.reduceEqDiff, reduceIte, Int.reduceToNat, Bool.false_eq_true, qs_t, qs_str, qs_l, qs_s, qs_m, ov_l, ov_t, ov_s, ov_k, ov_m, ov_str, zp_ll, zp_tt, ex_two, ex_two0, ex_twoi, bi_lenl, bi_lent, bi_lens, bi_lenm, bi_lenstr, bi_abs, bi_max2, bi_min2, bi_sum, bi_inti, bi_intb, bi_stri, bi_listl, bi_listt, bi_lists, bi_listm, bi_tupl, bi_tups, bi_tupt, bi_tupm, r_get1, r_get2, m_get1i, m_get2i, eq_ni, eq_in, r_mm, m_append, m_extend, lst_mm, seq_mm, seq_l, seq_t, seq_s, seq_k, lst_l, lst_s, tup_t, tup_k, unp_t, unp_k, unp_l, own_l, own_mm, isNop, partE, exists_eq_left, ex_len, hat]
          refine alike_ok n (k := k) (hd _ (List.getElem_mem hj)) ⟨true, rfl, ?_⟩
          simp only [rsQ, restr_self, Bool.not_true, Bool.false_eq_true, if_false]
          exact hk _ _ ⟨_, rfl, rfl⟩
        · rintro σ' M' ⟨e, rfl, rfl⟩
          exact h
    | lst ds =>
      cases n with
      | zero => exact ht.elim
      | succ n =>
        obtain ⟨hl, hd⟩ := ht
        simp only [Ev.wpS, Ev.wpE, Ev.wpA, Ev.wpT, ts_cons, ts_nil, Ev.wpB, Ev.wpI, lenE, List.map_cons, List.map_nil, List.length_cons, List.length_nil, List.replicate, Nat.reduceSub, Nat.reduceAdd, List.cons_append, List.nil_append, List.getElem?_cons_zero, List.getElem?_cons_succ, List.set_cons_zero, List.set_cons_succ, Option.some.injEq, exists_eq_left', q_add, q_adds, q_addt, q_addl, q_sub, q_mul, q_rep, q_mod, q_div, q_pow, q_ixl, q_ixs, q_ixt, q_ixk, q_ixstr, c_eq, c_ne, c_lt, c_le, c_gt, c_ge, c_is, c_isn, c_isb, c_isnb, c_in, c_nin, c_ii, c_ss, c_bb, l_new0, l_new1, D.bl.injEq, D.int.injEq, wipeD, atI_lit, ixN_lit, q_ixmm, u_eqm, cm_r, cm_l, cm_mod, cd_s, cp_s, tn_lit, s1, ite_dec, ite_ndec, Nat.reduceLT, Nat.reduceLeDiff, Int.reduceLT, Int.reduceLE, Int.reduceNeg, Int.reducePow, if_true, if_false, ite_true, ite_false, true_and, and_true, Nat.reduceEqDiff, reduceIte, Int.reduceToNat, Bool.false_eq_true, qs_t, qs_str, qs_l, qs_s, qs_m, ov_l, ov_t, ov_s, ov_k, ov_m, ov_str, zp_ll, zp_tt, ex_two, ex_two0, ex_twoi, bi_lenl, bi_lent, bi_lens, bi_lenm, bi_lenstr, bi_abs, bi_max2, bi_min2, bi_sum, bi_inti, bi_intb, bi_stri, bi_listl, bi_listt, bi_lists, bi_listm, bi_tupl, bi_tups, bi_tupt, bi_tupm, r_get1, r_get2, m_get1i, m_get2i, eq_ni, eq_in, r_mm, m_append, m_extend, lst_mm, seq_mm, seq_l, seq_t, seq_s, seq_k, lst_l, lst_s, tup_t, tup_k, unp_t, unp_k, unp_l, own_l, own_mm, isNop, partE, exists_eq_left, ex_len, d__law_alike, Ev.isNon, typeOfD, ib_NoneType_bool, ib_NoneType_int, ib_NoneType_str, ib_NoneType_tuple, ib_NoneType_list, ib_bool_bool, ib_bool_int, ib_bool_str, ib_bool_tuple, ib_bool_list, ib_int_bool, ib_int_int, ib_int_str, ib_int_tuple, ib_int_list, ib_str_bool, ib_str_int, ib_str_str, ib_str_tuple, ib_str_list, ib_tuple_bool, ib_tuple_int, ib_tuple_str, ib_tuple_tuple, ib_tuple_list, ib_list_bool, ib_list_int, ib_list_str, ib_list_tuple, ib_list_list, Bool.not_true]
        refine ⟨by omega, by omega, ?_⟩
        rw [rg_nat]
        refine loop (List.range ds.length) _ (fun _ σ' M' => ∃ e, σ' = [some (.lst ds), some (.lst ds), e] ∧ M' = M) ⟨_, rfl, rfl⟩ (fun _ _ _ _ _ => trivial) ?_ ?_
        · rintro j x hx σ' M' kk ⟨e, rfl, rfl⟩ hk
          have hj : j < ds.length := by have := (List.getElem?_eq_some_iff.mp hx).1; simpa using this
          have hxj : x = j := by rw [List.getElem?_eq_getElem (by simpa using hj)] at hx; cases hx; simp
          subst hxj
          have hat : atI ds (x : Int) = some ds[x] := by rw [Ev.atI_nat, List.getElem?_eq_getElem hj]
          simp only [Ev.wpS, Ev.wpE, Ev.wpA, Ev.wpT, ts_cons, ts_nil, Ev.wpB, Ev.wpI, lenE, List.map_cons, List.map_nil, List.length_cons, List.length_nil, List.replicate, Nat.reduceSub, Nat.reduceAdd, List.cons_append, List.nil_append, List.getElem?_cons_zero, List.getElem?_cons_succ, List.set_cons_zero, List.set_cons_succ, Option.some.injEq, exists_eq_left', q_add, q_adds, q_addt, q_addl, q_sub, q_mul, q_rep, q_mod, q_div, q_pow, q_ixl, q_ixs, q_ixt, q_ixk, q_ixstr, c_eq, c_ne, c_lt, c_le, c_gt, c_ge, c_is, c_isn, c_isb, c_isnb, c_in, c_nin, c_ii, c_ss, c_bb, l_new0, l_new1, D.bl.injEq, D.int.injEq, wipeD, atI_lit, ixN_lit, q_ixmm, u_eqm, cm_r, cm_l, cm_mod, cd_s, cp_s, tn_lit, s1, ite_dec, ite_ndec, Nat.reduceLT, Nat.reduceLeDiff, Int.reduceLT, Int.reduceLE, Int.reduceNeg, Int.reducePow, if_true, if_false, ite_true, ite_false, true_and, and_true, Nat.reduceEqDiff, reduceIte, Int.reduceToNat, Bool.false_eq_true, qs_t, qs_str, qs_l, qs_s, qs_m, ov_l, ov_t, ov_s, ov_k, ov_m, ov_str, zp_ll, zp_tt, ex_two, ex_two0, ex_twoi, bi_lenl, bi_lent, bi_lens, bi_lenm, bi_lenstr, bi_abs, bi_max2, bi_min2, bi_sum, bi_inti, bi_intb, bi_stri, bi_listl, bi_listt, bi_lists, bi_listm, bi_tupl, bi_tups, bi_tupt, bi_tupm, r_get1, r_get2, m_get1i, m_get2i, eq_ni, eq_in, r_mm, m_append, m_extend, lst_mm, seq_mm, seq_l, seq_t, seq_s, seq_k, lst_l, lst_s, tup_t, tup_k, unp_t, unp_k, unp_l, own_l, own_mm, isNop, partE, exists_eq_left, ex_len, hat]
          refine alike_ok n (k := k) (hd _ (List.getElem_mem hj)) ⟨true, rfl, ?_⟩
          simp only [rsQ, restr_self, Bool.not_true, Bool.false_eq_true, if_false]
          exact hk _ _ ⟨_, rfl, rfl⟩
        · rintro σ' M' ⟨e, rfl, rfl⟩
          exact h
/-- the first a list in the store -/
theorem alike_mr {n k : Nat} {M : Mem} {a : Addr} {ds : List D} {Q : VQ} {W : WQ} (ha : M a = some (.lst ds)) (ht : Tree (n + 1) (.lst ds)) (h : Q (.bl true) M) : callK T gl (k + (n + 1) + 1) "_law_alike" [.mr a, .lst ds] M Q W := by
  refine callK_intro (d := d__law_alike) rfl rfl ?_
  obtain ⟨hl, hd⟩ := ht
  have htyp : typeOfD M (.mr a) = some "list" := by simp [typeOfD, ha]
  have htl : typeOfD M (.lst ds) = some "list" := rfl
  simp only [Ev.wpS, Ev.wpE, Ev.wpA, Ev.wpT, ts_cons, ts_nil, Ev.wpB, Ev.wpI, lenE, List.map_cons, List.map_nil, List.length_cons, List.length_nil, List.replicate, Nat.reduceSub, Nat.reduceAdd, List.cons_append, List.nil_append, List.getElem?_cons_zero, List.getElem?_cons_succ, List.set_cons_zero, List.set_cons_succ, Option.some.injEq, exists_eq_left', q_add, q_adds, q_addt, q_addl, q_sub, q_mul, q_rep, q_mod, q_div, q_pow, q_ixl, q_ixs, q_ixt, q_ixk, q_ixstr, c_eq, c_ne, c_lt, c_le, c_gt, c_ge, c_is, c_isn, c_isb, c_isnb, c_in, c_nin, c_ii, c_ss, c_bb, l_new0, l_new1, D.bl.injEq, D.int.injEq, wipeD, atI_lit, ixN_lit, q_ixmm, u_eqm, cm_r, cm_l, cm_mod, cd_s, cp_s, tn_lit, s1, ite_dec, ite_ndec, Nat.reduceLT, Nat.reduceLeDiff, Int.reduceLT, Int.reduceLE, Int.reduceNeg, Int.reducePow, if_true, if_false, ite_true, ite_false, true_and, and_true, Nat.reduceEqDiff, reduceIte, Int.reduceToNat, Bool.false_eq_true, qs_t, qs_str, qs_l, qs_s, qs_m, ov_l, ov_t, ov_s, ov_k, ov_m, ov_str, zp_ll, zp_tt, ex_two, ex_two0, ex_twoi, bi_lenl, bi_lent, bi_lens, bi_lenm, bi_lenstr, bi_abs, bi_max2, bi_min2, bi_sum, bi_inti, bi_intb, bi_stri, bi_listl, bi_listt, bi_lists, bi_listm, bi_tupl, bi_tups, bi_tupt, bi_tupm, r_get1, r_get2, m_get1i, m_get2i, eq_ni, eq_in, r_mm, m_append, m_extend, lst_mm, seq_mm, seq_l, seq_t, seq_s, seq_k, lst_l, lst_s, tup_t, tup_k, unp_t, unp_k, unp_l, own_l, own_mm, isNop, partE, exists_eq_left, ex_len, d__law_alike, Ev.isNon, htyp, htl, ib_NoneType_bool, ib_NoneType_int, ib_NoneType_str, ib_NoneType_tuple, ib_NoneType_list, ib_bool_bool, ib_bool_int, ib_bool_str, ib_bool_tuple, ib_bool_list, ib_int_bool, ib_int_int, ib_int_str, ib_int_tuple, ib_int_list, ib_str_bool, ib_str_int, ib_str_str, ib_str_tuple, ib_str_list, ib_tuple_bool, ib_tuple_int, ib_tuple_str, ib_tuple_tuple, ib_tuple_list, ib_list_bool, ib_list_int, ib_list_str, ib_list_tuple, ib_list_list, Bool.not_true, mh_len ha]
  refine ⟨by omega, by omega, ?_⟩
  rw [rg_nat]
  refine loop (List.range ds.length) _ (fun _ σ' M' => ∃ e, σ' = [some (.mr a), some (.lst ds), e] ∧ M' = M) ⟨_, rfl, rfl⟩ (fun _ _ _ _ _ => trivial) ?_ ?_
  · rintro j x hx σ' M' kk ⟨e, rfl, rfl⟩ hk
    have hj : j < ds.length := by have := (List.getElem?_eq_some_iff.mp hx).1; simpa using this
    have hxj : x = j := by rw [List.getElem?_eq_getElem (by simpa using hj)] at hx; cases hx; simp
    subst hxj
    have hat : atI ds (x : Int) = some ds[x] := by rw [Ev.atI_nat, List.getElem?_eq_getElem hj]
    simp only [Ev.wpS, Ev.wpE, Ev.wpA, Ev.wpT, ts_cons, ts_nil, Ev.wpB, Ev.wpI, lenE, List.map_cons, List.map_nil, List.length_cons, List.length_nil, List.replicate, Nat.reduceSub, Nat.reduceAdd, List.cons_append, List.nil_append, List.getElem?_cons_zero, List.getElem?_cons_succ, List.set_cons_zero, List.set_cons_succ, Option.some.injEq, exists_eq_left', q_add, q_adds, q_addt, q_addl, q_sub, q_mul, q_rep, q_mod, q_div, q_pow, q_ixl, q_ixs, q_ixt, q_ixk, q_ixstr, c_eq, c_ne, c_lt, c_le, c_gt, c_ge, c_is, c_isn, c_isb, c_isnb, c_in, c_nin, c_ii, c_ss, c_bb, l_new0, l_new1, D.bl.injEq, D.int.injEq, wipeD, atI_lit, ixN_lit, q_ixmm, u_eqm, cm_r, cm_l, cm_mod, cd_s, cp_s, tn_lit, s1, ite_dec, ite_ndec, Nat.reduceLT, Nat.reduceLeDiff, Int.reduceLT, Int.reduceLE, Int.reduceNeg, Int.reducePow, if_true, if_false, ite_true, ite_false, true_and, and_true, Nat.reduceEqDiff, reduceIte, Int.reduceToNat, Bool.false_eq_true, qs_t, qs_str, qs_l, qs_s, qs_m, ov_l, ov_t, ov_s, ov_k, ov_m, ov_str, zp_ll, zp_tt, ex_two, ex_two0, ex_twoi, bi_lenl, bi_lent, bi_lens, bi_lenm, bi_lenstr, bi_abs, bi_max2, bi_min2, bi_sum, bi_inti, bi_intb, bi_stri, bi_listl, bi_listt, bi_lists, bi_listm, bi_tupl, bi_tups, bi_tupt, bi_tupm, r_get1, r_get2, m_get1i, m_get2i, eq_ni, eq_in, r_mm, m_append, m_extend, lst_mm, seq_mm, seq_l, seq_t, seq_s, seq_k, lst_l, lst_s, tup_t, tup_k, unp_t, unp_k, unp_l, own_l, own_mm, isNop, partE, exists_eq_left, ex_len, hat, q_ixm ha]
    refine alike_ok n (k := k) (hd _ (List.getElem_mem hj)) ⟨true, rfl, ?_⟩
    simp only [rsQ, restr_self, Bool.not_true, Bool.false_eq_true, if_false]
    exact hk _ _ ⟨_, rfl, rfl⟩
  · rintro σ' M' ⟨e, rfl, rfl⟩
    exact h

/-! texts by their signs -/
def sL (l : List Nat) : Str := ⟨l.toArray⟩
theorem sL_len (l : List Nat) : (sL l).length = l.length := by show l.toArray.size = _; simp
theorem sL_app (a b : List Nat) : sL a ++ sL b = sL (a ++ b) := by
  show (⟨a.toArray ++ b.toArray⟩ : Str) = ⟨(a ++ b).toArray⟩
  simp
theorem sL_cps (l : List Nat) : (sL l).cps.toList = l := by simp [sL]
theorem sL_inj {a b : List Nat} (h : sL a = sL b) : a = b := by
  have := congrArg (fun s : Str => s.cps.toList) h
  simpa [sL] using this
theorem sL_one (c : Nat) : (⟨#[c]⟩ : Str) = sL [c] := rfl
theorem sL_init (l : List Nat) : cutS (sL l) none (some (-1)) = sL l.dropLast := by
  unfold cutS
  rw [sL_cps, sL_len]
  show sL ((l.drop 0).take ((if (-1 : Int) < 0 then ((-1 : Int) + (l.length : Int)).toNat else min (-1 : Int).toNat l.length) - 0)) = _
  rw [if_pos (by decide), List.drop_zero, Nat.sub_zero, List.dropLast_eq_take]
  congr 2; omega
abbrev abc : Str := "abcdefghijklmnopqrstuvwxyz"
theorem abc_at : ∀ i : Nat, i < 26 → abc.cps.toList[i]? = some (97 + i) := by decide +kernel
theorem abc_find : ∀ i : Nat, i < 26 → Txt.find abc ⟨#[97 + i]⟩ = (i : Int) := by decide +kernel
theorem abc_len : abc.length ≤ sizeLine := by decide +kernel
/-- of 26 last signs one is not taken, where fewer than 26 are -/
theorem pigeon : ∀ (m : Nat) (f : Nat → Str) (L : List Str), (∀ i j, i < m → j < m → f i = f j → i = j) → L.length < m → ∃ i, i < m ∧ f i ∉ L
  | 0, _, _, _, h => absurd h (Nat.not_lt_zero _)
  | m + 1, f, L, hf, h => by
    by_cases hm : f m ∈ L
    · obtain ⟨i, hi, hn⟩ := pigeon m f (L.erase (f m)) (fun i j hi hj e => hf i j (by omega) (by omega) e) (by
        rw [List.length_erase_of_mem hm]
        have := List.length_pos_of_mem hm
        omega)
      refine ⟨i, by omega, fun hL => hn ?_⟩
      refine (List.mem_erase_of_ne fun e => ?_).mpr hL
      exact absurd (hf i m (by omega) (by omega) e) (by omega)
    · exact ⟨m, by omega, hm⟩
theorem in_strL {M : Mem} {y : D} {ns : List Str} {s : Str} {k : Bool → Prop} (h : IsL M y (ns.map .str)) (hk : k (decide (s ∈ ns))) : inQ M (.str s) y k := by
  have hd : dget M y (.str s) = none := by
    rcases h with rfl | ⟨a, rfl, h⟩
    · rfl
    · simp [dget, h]
  have he : ((ns.map D.str).any fun z => deq z (.str s)) = decide (s ∈ ns) := by
    rw [Bool.eq_iff_iff, decide_eq_true_eq, List.any_eq_true]
    constructor
    · rintro ⟨z, hz, e⟩
      obtain ⟨t, ht, rfl⟩ := List.mem_map.mp hz
      have e : (t == s) = true := e
      rw [beq_iff_eq] at e
      subst e; exact ht
    · intro hs
      exact ⟨.str s, List.mem_map_of_mem hs, show (s == s) = true from beq_self_eq_true s⟩
  have hs := h.seqOf
  have hgoal : ∃ ds, seqOf M y = some ds ∧ ((flatD (.str s) = true ∧ ds.all flatD = true ∧ k (ds.any fun z => deq z (.str s))) ∨ (lstOf M y = some ds ∧ okD (.str s) ∧ okD (.lst ds) ∧ k (ds.any fun z => deq z (.str s)))) :=
    ⟨_, hs, .inl ⟨rfl, by rw [List.all_eq_true]; intro z hz; obtain ⟨t, _, rfl⟩ := List.mem_map.mp hz; rfl, by rw [he]; exact hk⟩⟩
  rcases h with rfl | ⟨a, rfl, h⟩
  · unfold inQ; simp only [hd]; exact hgoal
  · unfold inQ; simp only [hd]; exact hgoal

theorem m_find {M : Mem} {m : Bool} {z t : Str} {Q : VQ} : miQ .find m M (.str z) [.str t] Q = Q (.int (Txt.find z t)) M := rfl
def Low (l : List Nat) : Prop := ∀ c ∈ l, 97 ≤ c ∧ c < 123
def words10 : List Str := ["box", "block", "put", "say", "ask", "go", "if", "else", "table", "stop"]
theorem words10_d : [D.str "box", D.str "block", D.str "put", D.str "say", D.str "ask", D.str "go", D.str "if", D.str "else", D.str "table", D.str "stop"] = words10.map D.str := rfl
theorem loop_name {k : Nat} {M : Mem} {p a : Addr} {many : Int} {ns : List Str} {pre : List Nat} {i : Nat} {W : WQ} {kk : Ev.Env → Mem → Prop} {rt : VQ} {e5 e7 : Option D} (hi : i < 26) (hns : ns.length ≤ 15) (hlow : Low pre) (hpl : pre.length ≤ 100) (ha : M a = some (.lst (ns.map .str)))
  (hk : ∀ j, j < 26 → sL (pre ++ [97 + j]) ∉ ns → sL (pre ++ [97 + j]) ∉ words10 → kk [some (.mr p), some (.int many), some (.str abc), some (.lst (words10.map .str)), some (.mr a), e5, some (.str (sL (pre ++ [97 + j]))), e7] (mput M a (.lst ((ns ++ [sL (pre ++ [97 + j])]).map .str)))) :
  Ev.wpS ⟨callK T gl k, gl⟩ W c__law_names_0 [some (.mr p), some (.int many), some (.str abc), some (.lst (words10.map .str)), some (.mr a), e5, some (.str (sL (pre ++ [97 + i]))), e7] M ⟨kk, rt⟩ := by
  simp only [Ev.wpS, Ev.wpE, Ev.wpA, Ev.wpT, ts_cons, ts_nil, Ev.wpB, Ev.wpI, lenE, List.map_cons, List.map_nil, List.length_cons, List.length_nil, List.replicate, Nat.reduceSub, Nat.reduceAdd, List.cons_append, List.nil_append, List.getElem?_cons_zero, List.getElem?_cons_succ, List.set_cons_zero, List.set_cons_succ, Option.some.injEq, exists_eq_left', q_add, q_adds, q_addt, q_addl, q_sub, q_mul, q_rep, q_mod, q_div, q_pow, q_ixl, q_ixs, q_ixt, q_ixk, q_ixstr, c_eq, c_ne, c_lt, c_le, c_gt, c_ge, c_is, c_isn, c_isb, c_isnb, c_in, c_nin, c_ii, c_ss, c_bb, l_new0, l_new1, D.bl.injEq, D.int.injEq, wipeD, atI_lit, ixN_lit, q_ixmm, u_eqm, cm_r, cm_l, cm_mod, cd_s, cp_s, tn_lit, s1, ite_dec, ite_ndec, Nat.reduceLT, Nat.reduceLeDiff, Int.reduceLT, Int.reduceLE, Int.reduceNeg, Int.reducePow, if_true, if_false, ite_true, ite_false, true_and, and_true, Nat.reduceEqDiff, reduceIte, Int.reduceToNat, Bool.false_eq_true, qs_t, qs_str, qs_l, qs_s, qs_m, ov_l, ov_t, ov_s, ov_k, ov_m, ov_str, zp_ll, zp_tt, ex_two, ex_two0, ex_twoi, bi_lenl, bi_lent, bi_lens, bi_lenm, bi_lenstr, bi_abs, bi_max2, bi_min2, bi_sum, bi_inti, bi_intb, bi_stri, bi_listl, bi_listt, bi_lists, bi_listm, bi_tupl, bi_tups, bi_tupt, bi_tupm, r_get1, r_get2, m_get1i, m_get2i, eq_ni, eq_in, r_mm, m_append, m_extend, lst_mm, seq_mm, seq_l, seq_t, seq_s, seq_k, lst_l, lst_s, tup_t, tup_k, unp_t, unp_k, unp_l, own_l, own_mm, isNop, partE, exists_eq_left, ex_len, c__law_names_0]
  obtain ⟨f, hf, hfree⟩ := pigeon 26 (fun j => sL (pre ++ [97 + j])) (ns ++ words10) (fun x y _ _ e => by
    have := sL_inj e
    have := List.append_cancel_left this
    simp at this; exact this) (by rw [List.length_append]; show ns.length + 10 < 26; omega)
  rw [List.mem_append] at hfree
  refine ⟨(f + 26 - i) % 26 + 1, while_ind (fun n σ' M' => ∃ j, j < 26 ∧ (j + n) % 26 = f ∧ σ' = [some (.mr p), some (.int many), some (.str abc), some (.lst (words10.map .str)), some (.mr a), e5, some (.str (sL (pre ++ [97 + j]))), e7] ∧ M' = M) ?_ ((f + 26 - i) % 26) _ _ ⟨i, hi, by omega, rfl, rfl⟩⟩
  rintro n σ' M' kk' ⟨j, hj, hjn, rfl, rfl⟩ hk'
  simp only [Ev.wpS, Ev.wpE, Ev.wpA, Ev.wpT, ts_cons, ts_nil, Ev.wpB, Ev.wpI, lenE, List.map_cons, List.map_nil, List.length_cons, List.length_nil, List.replicate, Nat.reduceSub, Nat.reduceAdd, List.cons_append, List.nil_append, List.getElem?_cons_zero, List.getElem?_cons_succ, List.set_cons_zero, List.set_cons_succ, Option.some.injEq, exists_eq_left', q_add, q_adds, q_addt, q_addl, q_sub, q_mul, q_rep, q_mod, q_div, q_pow, q_ixl, q_ixs, q_ixt, q_ixk, q_ixstr, c_eq, c_ne, c_lt, c_le, c_gt, c_ge, c_is, c_isn, c_isb, c_isnb, c_in, c_nin, c_ii, c_ss, c_bb, l_new0, l_new1, D.bl.injEq, D.int.injEq, wipeD, atI_lit, ixN_lit, q_ixmm, u_eqm, cm_r, cm_l, cm_mod, cd_s, cp_s, tn_lit, s1, ite_dec, ite_ndec, Nat.reduceLT, Nat.reduceLeDiff, Int.reduceLT, Int.reduceLE, Int.reduceNeg, Int.reducePow, if_true, if_false, ite_true, ite_false, true_and, and_true, Nat.reduceEqDiff, reduceIte, Int.reduceToNat, Bool.false_eq_true, qs_t, qs_str, qs_l, qs_s, qs_m, ov_l, ov_t, ov_s, ov_k, ov_m, ov_str, zp_ll, zp_tt, ex_two, ex_two0, ex_twoi, bi_lenl, bi_lent, bi_lens, bi_lenm, bi_lenstr, bi_abs, bi_max2, bi_min2, bi_sum, bi_inti, bi_intb, bi_stri, bi_listl, bi_listt, bi_lists, bi_listm, bi_tupl, bi_tups, bi_tupt, bi_tupm, r_get1, r_get2, m_get1i, m_get2i, eq_ni, eq_in, r_mm, m_append, m_extend, lst_mm, seq_mm, seq_l, seq_t, seq_s, seq_k, lst_l, lst_s, tup_t, tup_k, unp_t, unp_k, unp_l, own_l, own_mm, isNop, partE, exists_eq_left, ex_len]
  have last : atI (sL (pre ++ [97 + j])).cps.toList (-1) = some (97 + j) := by
    rw [sL_cps, atI_last _ (by simp)]; simp
  -- one letter on
  have step : (sL (pre ++ [97 + j]) ∈ ns ∨ sL (pre ++ [97 + j]) ∈ words10) → kk' [some (.mr p), some (.int many), some (.str abc), some (.lst (words10.map .str)), some (.mr a), e5, some (.str (sL (pre ++ [97 + (j + 1) % 26]))), e7] M' := fun hin => by
    have hn0 : n ≠ 0 := by
      rintro rfl
      have : j = f := by omega
      subst this
      exact hfree hin
    exact hk' (n - 1) _ _ (by omega) ⟨(j + 1) % 26, Nat.mod_lt _ (by decide), by omega, rfl, rfl⟩
  have hw : IsL M' (.lst (words10.map .str)) (words10.map .str) := .lst
  have hlen : (sL (pre ++ [97 + j])).length ≤ sizeLine := by rw [sL_len, List.length_append]; exact len_le (by omega) (show 1 ≤ 1000 by decide)
  have hmod : ((j : Int) + 1) % 26 = (((j + 1) % 26 : Nat) : Int) := by omega
  refine in_strL (IsL.mr ha) ?_
  by_cases h1 : sL (pre ++ [97 + j]) ∈ ns
  · rw [if_pos (decide_eq_true h1)]
    refine ⟨hlen, ⟨_, rfl⟩, hlen, _, last, ?_⟩
    rw [m_find, abc_find j hj]
    simp only [Ev.wpS, Ev.wpE, Ev.wpA, Ev.wpT, ts_cons, ts_nil, Ev.wpB, Ev.wpI, lenE, List.map_cons, List.map_nil, List.length_cons, List.length_nil, List.replicate, Nat.reduceSub, Nat.reduceAdd, List.cons_append, List.nil_append, List.getElem?_cons_zero, List.getElem?_cons_succ, List.set_cons_zero, List.set_cons_succ, Option.some.injEq, exists_eq_left', q_add, q_adds, q_addt, q_addl, q_sub, q_mul, q_rep, q_mod, q_div, q_pow, q_ixl, q_ixs, q_ixt, q_ixk, q_ixstr, c_eq, c_ne, c_lt, c_le, c_gt, c_ge, c_is, c_isn, c_isb, c_isnb, c_in, c_nin, c_ii, c_ss, c_bb, l_new0, l_new1, D.bl.injEq, D.int.injEq, wipeD, atI_lit, ixN_lit, q_ixmm, u_eqm, cm_r, cm_l, cm_mod, cd_s, cp_s, tn_lit, s1, ite_dec, ite_ndec, Nat.reduceLT, Nat.reduceLeDiff, Int.reduceLT, Int.reduceLE, Int.reduceNeg, Int.reducePow, if_true, if_false, ite_true, ite_false, true_and, and_true, Nat.reduceEqDiff, reduceIte, Int.reduceToNat, Bool.false_eq_true, qs_t, qs_str, qs_l, qs_s, qs_m, ov_l, ov_t, ov_s, ov_k, ov_m, ov_str, zp_ll, zp_tt, ex_two, ex_two0, ex_twoi, bi_lenl, bi_lent, bi_lens, bi_lenm, bi_lenstr, bi_abs, bi_max2, bi_min2, bi_sum, bi_inti, bi_intb, bi_stri, bi_listl, bi_listt, bi_lists, bi_listm, bi_tupl, bi_tups, bi_tupt, bi_tupm, r_get1, r_get2, m_get1i, m_get2i, eq_ni, eq_in, r_mm, m_append, m_extend, lst_mm, seq_mm, seq_l, seq_t, seq_s, seq_k, lst_l, lst_s, tup_t, tup_k, unp_t, unp_k, unp_l, own_l, own_mm, isNop, partE, exists_eq_left, ex_len]
    rw [hmod]
    refine ⟨abc_len, _, (by rw [Ev.atI_nat]; exact abc_at _ (Nat.mod_lt _ (by decide))), ?_⟩
    rw [sL_init, List.dropLast_concat, sL_one]
    refine ⟨len_le (by rw [sL_len]; omega) (show 1 ≤ 1000 by decide), ?_⟩
    rw [sL_app]
    exact step (.inl h1)
  · rw [if_neg (by rw [decide_eq_false h1]; exact Bool.false_ne_true)]
    refine in_strL hw ?_
    by_cases h2 : sL (pre ++ [97 + j]) ∈ words10
    · rw [if_pos (decide_eq_true h2)]
      refine ⟨hlen, ⟨_, rfl⟩, hlen, _, last, ?_⟩
      rw [m_find, abc_find j hj]
      simp only [Ev.wpS, Ev.wpE, Ev.wpA, Ev.wpT, ts_cons, ts_nil, Ev.wpB, Ev.wpI, lenE, List.map_cons, List.map_nil, List.length_cons, List.length_nil, List.replicate, Nat.reduceSub, Nat.reduceAdd, List.cons_append, List.nil_append, List.getElem?_cons_zero, List.getElem?_cons_succ, List.set_cons_zero, List.set_cons_succ, Option.some.injEq, exists_eq_left', q_add, q_adds, q_addt, q_addl, q_sub, q_mul, q_rep, q_mod, q_div, q_pow, q_ixl, q_ixs, q_ixt, q_ixk, q_ixstr, c_eq, c_ne, c_lt, c_le, c_gt, c_ge, c_is, c_isn, c_isb, c_isnb, c_in, c_nin, c_ii, c_ss, c_bb, l_new0, l_new1, D.bl.injEq, D.int.injEq, wipeD, atI_lit, ixN_lit, q_ixmm, u_eqm, cm_r, cm_l, cm_mod, cd_s, cp_s, tn_lit, s1, ite_dec, ite_ndec, Nat.reduceLT, Nat.reduceLeDiff, Int.reduceLT, Int.reduceLE, Int.reduceNeg, Int.reducePow, if_true, if_false, ite_true, ite_false, true_and, and_true, Nat.reduceEqDiff, reduceIte, Int.reduceToNat, Bool.false_eq_true, qs_t, qs_str, qs_l, qs_s, qs_m, ov_l, ov_t, ov_s, ov_k, ov_m, ov_str, zp_ll, zp_tt, ex_two, ex_two0, ex_twoi, bi_lenl, bi_lent, bi_lens, bi_lenm, bi_lenstr, bi_abs, bi_max2, bi_min2, bi_sum, bi_inti, bi_intb, bi_stri, bi_listl, bi_listt, bi_lists, bi_listm, bi_tupl, bi_tups, bi_tupt, bi_tupm, r_get1, r_get2, m_get1i, m_get2i, eq_ni, eq_in, r_mm, m_append, m_extend, lst_mm, seq_mm, seq_l, seq_t, seq_s, seq_k, lst_l, lst_s, tup_t, tup_k, unp_t, unp_k, unp_l, own_l, own_mm, isNop, partE, exists_eq_left, ex_len]
      rw [hmod]
      refine ⟨abc_len, _, (by rw [Ev.atI_nat]; exact abc_at _ (Nat.mod_lt _ (by decide))), ?_⟩
      rw [sL_init, List.dropLast_concat, sL_one]
      refine ⟨len_le (by rw [sL_len]; omega) (show 1 ≤ 1000 by decide), ?_⟩
      rw [sL_app]
      exact step (.inr h2)
    · rw [if_neg (by rw [decide_eq_false h2]; exact Bool.false_ne_true)]
      refine ⟨rh ha trivial, mh_append ha (len_lt (by rw [List.length_map]; omega)) ?_⟩
      have := hk j hj h1 h2
      rw [List.map_append] at this
      exact this

def bases : List (List Nat) := [[], [], [122, 122], [113, 114, 115, 116], [98, 111, 120], [98, 108, 111, 99, 107], [112, 117, 116], [115, 97, 121], [97, 115, 107], [103, 111], [105, 102], [101, 108, 115, 101], [116, 97, 98, 108, 101], [115, 116, 111, 112]]
theorem bases_d : D.str "" :: D.str "" :: D.str "zz" :: D.str "qrst" :: words10.map D.str = bases.map fun l => D.str (sL l) := rfl
theorem bases_ok : ∀ l ∈ bases, Low l ∧ l.length ≤ 5 := by
  unfold Low
  decide +kernel
/-- names: unlike, of small letters, none of the words -/
structure NamesOk (ns : List (List Nat)) : Prop where
  low : ∀ l ∈ ns, Low l ∧ l ≠ [] ∧ l.length ≤ 20
  nd : (ns.map sL).Nodup
  nw : ∀ l ∈ ns, sL l ∉ words10
theorem names_g {k : Nat} {M M0 : Mem} {p : Addr} {many : Nat} {Q : VQ} {W : WQ} (hp : Pot M p) (hm : many ≤ 14) (h0 : ∀ a, M a = none → M0 a = none)
  (h : ∀ (ns : List (List Nat)) c n, ns.length = many → NamesOk ns → Q (.lst (ns.map fun l => .str (sL l))) (restr M0 (potM M p c n))) : callK T gl (k + 2) "_law_names" [.mr p, .int many] M (frzQ M0 Q) W := by
  refine callK_intro (d := d__law_names) rfl rfl ?_
  simp only [Ev.wpS, Ev.wpE, Ev.wpA, Ev.wpT, ts_cons, ts_nil, Ev.wpB, Ev.wpI, lenE, List.map_cons, List.map_nil, List.length_cons, List.length_nil, List.replicate, Nat.reduceSub, Nat.reduceAdd, List.cons_append, List.nil_append, List.getElem?_cons_zero, List.getElem?_cons_succ, List.set_cons_zero, List.set_cons_succ, Option.some.injEq, exists_eq_left', q_add, q_adds, q_addt, q_addl, q_sub, q_mul, q_rep, q_mod, q_div, q_pow, q_ixl, q_ixs, q_ixt, q_ixk, q_ixstr, c_eq, c_ne, c_lt, c_le, c_gt, c_ge, c_is, c_isn, c_isb, c_isnb, c_in, c_nin, c_ii, c_ss, c_bb, l_new0, l_new1, D.bl.injEq, D.int.injEq, wipeD, atI_lit, ixN_lit, q_ixmm, u_eqm, cm_r, cm_l, cm_mod, cd_s, cp_s, tn_lit, s1, ite_dec, ite_ndec, Nat.reduceLT, Nat.reduceLeDiff, Int.reduceLT, Int.reduceLE, Int.reduceNeg, Int.reducePow, if_true, if_false, ite_true, ite_false, true_and, and_true, Nat.reduceEqDiff, reduceIte, Int.reduceToNat, Bool.false_eq_true, qs_t, qs_str, qs_l, qs_s, qs_m, ov_l, ov_t, ov_s, ov_k, ov_m, ov_str, zp_ll, zp_tt, ex_two, ex_two0, ex_twoi, bi_lenl, bi_lent, bi_lens, bi_lenm, bi_lenstr, bi_abs, bi_max2, bi_min2, bi_sum, bi_inti, bi_intb, bi_stri, bi_listl, bi_listt, bi_lists, bi_listm, bi_tupl, bi_tups, bi_tupt, bi_tupm, r_get1, r_get2, m_get1i, m_get2i, eq_ni, eq_in, r_mm, m_append, m_extend, lst_mm, seq_mm, seq_l, seq_t, seq_s, seq_k, lst_l, lst_s, tup_t, tup_k, unp_t, unp_k, unp_l, own_l, own_mm, isNop, partE, exists_eq_left, ex_len, d__law_names]
  intro a ha
  have hpa := pot_ne hp ha
  obtain ⟨c0, n0, e0⟩ := pot_start hp
  refine ⟨by omega, by omega, ?_⟩
  rw [rg_nat]
  refine loop (List.range many) _ (fun j σ' M' => ∃ c n e5 e6 e7, ∃ ns : List (List Nat), σ' = [some (.mr p), some (.int many), some (.str abc), some (.lst (words10.map .str)), some (.mr a), e5, e6, e7] ∧ M' = mput (potM M p c n) a (.lst ((ns.map sL).map .str)) ∧ ns.length = j ∧ NamesOk ns)
    ⟨c0, n0, _, _, _, [], rfl, by rw [← e0]; rfl, rfl, ⟨fun _ h => (by cases h), List.nodup_nil, fun _ h => (by cases h)⟩⟩ (fun _ _ _ _ _ => trivial) ?_ ?_
  · rintro j x hx σ' M' kk ⟨c, n, e5, e6, e7, ns, rfl, rfl, hl, hN⟩ hk
    have hj : j < many := by have := (List.getElem?_eq_some_iff.mp hx).1; simpa using this
    simp only [Ev.wpS, Ev.wpE, Ev.wpA, Ev.wpT, ts_cons, ts_nil, Ev.wpB, Ev.wpI, lenE, List.map_cons, List.map_nil, List.length_cons, List.length_nil, List.replicate, Nat.reduceSub, Nat.reduceAdd, List.cons_append, List.nil_append, List.getElem?_cons_zero, List.getElem?_cons_succ, List.set_cons_zero, List.set_cons_succ, Option.some.injEq, exists_eq_left', q_add, q_adds, q_addt, q_addl, q_sub, q_mul, q_rep, q_mod, q_div, q_pow, q_ixl, q_ixs, q_ixt, q_ixk, q_ixstr, c_eq, c_ne, c_lt, c_le, c_gt, c_ge, c_is, c_isn, c_isb, c_isnb, c_in, c_nin, c_ii, c_ss, c_bb, l_new0, l_new1, D.bl.injEq, D.int.injEq, wipeD, atI_lit, ixN_lit, q_ixmm, u_eqm, cm_r, cm_l, cm_mod, cd_s, cp_s, tn_lit, s1, ite_dec, ite_ndec, Nat.reduceLT, Nat.reduceLeDiff, Int.reduceLT, Int.reduceLE, Int.reduceNeg, Int.reducePow, if_true, if_false, ite_true, ite_false, true_and, and_true, Nat.reduceEqDiff, reduceIte, Int.reduceToNat, Bool.false_eq_true, qs_t, qs_str, qs_l, qs_s, qs_m, ov_l, ov_t, ov_s, ov_k, ov_m, ov_str, zp_ll, zp_tt, ex_two, ex_two0, ex_twoi, bi_lenl, bi_lent, bi_lens, bi_lenm, bi_lenstr, bi_abs, bi_max2, bi_min2, bi_sum, bi_inti, bi_intb, bi_stri, bi_listl, bi_listt, bi_lists, bi_listm, bi_tupl, bi_tups, bi_tupt, bi_tupm, r_get1, r_get2, m_get1i, m_get2i, eq_ni, eq_in, r_mm, m_append, m_extend, lst_mm, seq_mm, seq_l, seq_t, seq_s, seq_k, lst_l, lst_s, tup_t, tup_k, unp_t, unp_k, unp_l, own_l, own_mm, isNop, partE, exists_eq_left, ex_len]
    rw [bases_d]
    refine ⟨by decide, ?_⟩
    refine next_n 14 (pot_mput hpa .same) rfl (by decide) (by decide) fun v c n hv => ?_
    rw [potM_mput hpa, potM_potM]
    have hb : bases[v]? = some bases[v] := List.getElem?_eq_getElem hv
    have hbo := bases_ok _ (List.getElem_mem hv)
    generalize bases[v]'hv = b0 at hb hbo
    simp only [Ev.wpS, Ev.wpE, Ev.wpA, Ev.wpT, ts_cons, ts_nil, Ev.wpB, Ev.wpI, lenE, List.map_cons, List.map_nil, List.length_cons, List.length_nil, List.replicate, Nat.reduceSub, Nat.reduceAdd, List.cons_append, List.nil_append, List.getElem?_cons_zero, List.getElem?_cons_succ, List.set_cons_zero, List.set_cons_succ, Option.some.injEq, exists_eq_left', q_add, q_adds, q_addt, q_addl, q_sub, q_mul, q_rep, q_mod, q_div, q_pow, q_ixl, q_ixs, q_ixt, q_ixk, q_ixstr, c_eq, c_ne, c_lt, c_le, c_gt, c_ge, c_is, c_isn, c_isb, c_isnb, c_in, c_nin, c_ii, c_ss, c_bb, l_new0, l_new1, D.bl.injEq, D.int.injEq, wipeD, atI_lit, ixN_lit, q_ixmm, u_eqm, cm_r, cm_l, cm_mod, cd_s, cp_s, tn_lit, s1, ite_dec, ite_ndec, Nat.reduceLT, Nat.reduceLeDiff, Int.reduceLT, Int.reduceLE, Int.reduceNeg, Int.reducePow, if_true, if_false, ite_true, ite_false, true_and, and_true, Nat.reduceEqDiff, reduceIte, Int.reduceToNat, Bool.false_eq_true, qs_t, qs_str, qs_l, qs_s, qs_m, ov_l, ov_t, ov_s, ov_k, ov_m, ov_str, zp_ll, zp_tt, ex_two, ex_two0, ex_twoi, bi_lenl, bi_lent, bi_lens, bi_lenm, bi_lenstr, bi_abs, bi_max2, bi_min2, bi_sum, bi_inti, bi_intb, bi_stri, bi_listl, bi_listt, bi_lists, bi_listm, bi_tupl, bi_tups, bi_tupt, bi_tupm, r_get1, r_get2, m_get1i, m_get2i, eq_ni, eq_in, r_mm, m_append, m_extend, lst_mm, seq_mm, seq_l, seq_t, seq_s, seq_k, lst_l, lst_s, tup_t, tup_k, unp_t, unp_k, unp_l, own_l, own_mm, isNop, partE, exists_eq_left, ex_len]
    refine ⟨_, by rw [Ev.atI_nat, List.getElem?_map, hb]; rfl, ?_⟩
    simp only [Ev.wpS, Ev.wpE, Ev.wpA, Ev.wpT, ts_cons, ts_nil, Ev.wpB, Ev.wpI, lenE, List.map_cons, List.map_nil, List.length_cons, List.length_nil, List.replicate, Nat.reduceSub, Nat.reduceAdd, List.cons_append, List.nil_append, List.getElem?_cons_zero, List.getElem?_cons_succ, List.set_cons_zero, List.set_cons_succ, Option.some.injEq, exists_eq_left', q_add, q_adds, q_addt, q_addl, q_sub, q_mul, q_rep, q_mod, q_div, q_pow, q_ixl, q_ixs, q_ixt, q_ixk, q_ixstr, c_eq, c_ne, c_lt, c_le, c_gt, c_ge, c_is, c_isn, c_isb, c_isnb, c_in, c_nin, c_ii, c_ss, c_bb, l_new0, l_new1, D.bl.injEq, D.int.injEq, wipeD, atI_lit, ixN_lit, q_ixmm, u_eqm, cm_r, cm_l, cm_mod, cd_s, cp_s, tn_lit, s1, ite_dec, ite_ndec, Nat.reduceLT, Nat.reduceLeDiff, Int.reduceLT, Int.reduceLE, Int.reduceNeg, Int.reducePow, if_true, if_false, ite_true, ite_false, true_and, and_true, Nat.reduceEqDiff, reduceIte, Int.reduceToNat, Bool.false_eq_true, qs_t, qs_str, qs_l, qs_s, qs_m, ov_l, ov_t, ov_s, ov_k, ov_m, ov_str, zp_ll, zp_tt, ex_two, ex_two0, ex_twoi, bi_lenl, bi_lent, bi_lens, bi_lenm, bi_lenstr, bi_abs, bi_max2, bi_min2, bi_sum, bi_inti, bi_intb, bi_stri, bi_listl, bi_listt, bi_lists, bi_listm, bi_tupl, bi_tups, bi_tupt, bi_tupm, r_get1, r_get2, m_get1i, m_get2i, eq_ni, eq_in, r_mm, m_append, m_extend, lst_mm, seq_mm, seq_l, seq_t, seq_s, seq_k, lst_l, lst_s, tup_t, tup_k, unp_t, unp_k, unp_l, own_l, own_mm, isNop, partE, exists_eq_left, ex_len, c__law_names_1]
    have hmax : (8 : Int) - (if ((sL b0).length : Int) > 4 then ((sL b0).length : Int) else 4) = ((8 - max 4 b0.length : Nat) : Int) := by
      rw [sL_len]
      split <;> omega
    refine ⟨by rw [sL_len]; exact Nat.le_of_lt (len_lt (by omega)), ?_⟩
    rw [hmax]
    refine next_n (8 - max 4 b0.length) (pot_mput hpa .same) rfl (by omega) (by omega) fun cnt c n hcnt => ?_
    rw [potM_mput hpa, potM_potM]
    simp only [Ev.wpS, Ev.wpE, Ev.wpA, Ev.wpT, ts_cons, ts_nil, Ev.wpB, Ev.wpI, lenE, List.map_cons, List.map_nil, List.length_cons, List.length_nil, List.replicate, Nat.reduceSub, Nat.reduceAdd, List.cons_append, List.nil_append, List.getElem?_cons_zero, List.getElem?_cons_succ, List.set_cons_zero, List.set_cons_succ, Option.some.injEq, exists_eq_left', q_add, q_adds, q_addt, q_addl, q_sub, q_mul, q_rep, q_mod, q_div, q_pow, q_ixl, q_ixs, q_ixt, q_ixk, q_ixstr, c_eq, c_ne, c_lt, c_le, c_gt, c_ge, c_is, c_isn, c_isb, c_isnb, c_in, c_nin, c_ii, c_ss, c_bb, l_new0, l_new1, D.bl.injEq, D.int.injEq, wipeD, atI_lit, ixN_lit, q_ixmm, u_eqm, cm_r, cm_l, cm_mod, cd_s, cp_s, tn_lit, s1, ite_dec, ite_ndec, Nat.reduceLT, Nat.reduceLeDiff, Int.reduceLT, Int.reduceLE, Int.reduceNeg, Int.reducePow, if_true, if_false, ite_true, ite_false, true_and, and_true, Nat.reduceEqDiff, reduceIte, Int.reduceToNat, Bool.false_eq_true, qs_t, qs_str, qs_l, qs_s, qs_m, ov_l, ov_t, ov_s, ov_k, ov_m, ov_str, zp_ll, zp_tt, ex_two, ex_two0, ex_twoi, bi_lenl, bi_lent, bi_lens, bi_lenm, bi_lenstr, bi_abs, bi_max2, bi_min2, bi_sum, bi_inti, bi_intb, bi_stri, bi_listl, bi_listt, bi_lists, bi_listm, bi_tupl, bi_tups, bi_tupt, bi_tupm, r_get1, r_get2, m_get1i, m_get2i, eq_ni, eq_in, r_mm, m_append, m_extend, lst_mm, seq_mm, seq_l, seq_t, seq_s, seq_k, lst_l, lst_s, tup_t, tup_k, unp_t, unp_k, unp_l, own_l, own_mm, isNop, partE, exists_eq_left, ex_len]
    rw [show (1 : Int) + (cnt : Int) = ((1 + cnt : Nat) : Int) from by omega, rg_nat]
    refine ⟨by omega, by omega, ?_⟩
    refine loop (List.range (1 + cnt)) _ (fun i σ' M' => ∃ c n e7, ∃ l : List Nat, σ' = [some (.mr p), some (.int many), some (.str abc), some (.lst (words10.map .str)), some (.mr a), some (.int x), some (.str (sL l)), e7] ∧ M' = mput (potM M p c n) a (.lst ((ns.map sL).map .str)) ∧ i ≤ l.length ∧ l.length ≤ 5 + i ∧ Low l)
      ⟨c, n, _, b0, rfl, rfl, Nat.zero_le _, by omega, hbo.1⟩ (fun _ _ _ _ _ => trivial) ?_ ?_
    · rintro i y hy σ' M' kk' ⟨c, n, e7, l, rfl, rfl, h1, h2, h3⟩ hk'
      have hi : i < 1 + cnt := by have := (List.getElem?_eq_some_iff.mp hy).1; simpa using this
      simp only [Ev.wpS, Ev.wpE, Ev.wpA, Ev.wpT, ts_cons, ts_nil, Ev.wpB, Ev.wpI, lenE, List.map_cons, List.map_nil, List.length_cons, List.length_nil, List.replicate, Nat.reduceSub, Nat.reduceAdd, List.cons_append, List.nil_append, List.getElem?_cons_zero, List.getElem?_cons_succ, List.set_cons_zero, List.set_cons_succ, Option.some.injEq, exists_eq_left', q_add, q_adds, q_addt, q_addl, q_sub, q_mul, q_rep, q_mod, q_div, q_pow, q_ixl, q_ixs, q_ixt, q_ixk, q_ixstr, c_eq, c_ne, c_lt, c_le, c_gt, c_ge, c_is, c_isn, c_isb, c_isnb, c_in, c_nin, c_ii, c_ss, c_bb, l_new0, l_new1, D.bl.injEq, D.int.injEq, wipeD, atI_lit, ixN_lit, q_ixmm, u_eqm, cm_r, cm_l, cm_mod, cd_s, cp_s, tn_lit, s1, ite_dec, ite_ndec, Nat.reduceLT, Nat.reduceLeDiff, Int.reduceLT, Int.reduceLE, Int.reduceNeg, Int.reducePow, if_true, if_false, ite_true, ite_false, true_and, and_true, Nat.reduceEqDiff, reduceIte, Int.reduceToNat, Bool.false_eq_true, qs_t, qs_str, qs_l, qs_s, qs_m, ov_l, ov_t, ov_s, ov_k, ov_m, ov_str, zp_ll, zp_tt, ex_two, ex_two0, ex_twoi, bi_lenl, bi_lent, bi_lens, bi_lenm, bi_lenstr, bi_abs, bi_max2, bi_min2, bi_sum, bi_inti, bi_intb, bi_stri, bi_listl, bi_listt, bi_lists, bi_listm, bi_tupl, bi_tups, bi_tupt, bi_tupm, r_get1, r_get2, m_get1i, m_get2i, eq_ni, eq_in, r_mm, m_append, m_extend, lst_mm, seq_mm, seq_l, seq_t, seq_s, seq_k, lst_l, lst_s, tup_t, tup_k, unp_t, unp_k, unp_l, own_l, own_mm, isNop, partE, exists_eq_left, ex_len]
      refine next_n 26 (pot_mput hpa .same) rfl (by decide) (by decide) fun u c n hu => ?_
      rw [potM_mput hpa, potM_potM]
      simp only [Ev.wpS, Ev.wpE, Ev.wpA, Ev.wpT, ts_cons, ts_nil, Ev.wpB, Ev.wpI, lenE, List.map_cons, List.map_nil, List.length_cons, List.length_nil, List.replicate, Nat.reduceSub, Nat.reduceAdd, List.cons_append, List.nil_append, List.getElem?_cons_zero, List.getElem?_cons_succ, List.set_cons_zero, List.set_cons_succ, Option.some.injEq, exists_eq_left', q_add, q_adds, q_addt, q_addl, q_sub, q_mul, q_rep, q_mod, q_div, q_pow, q_ixl, q_ixs, q_ixt, q_ixk, q_ixstr, c_eq, c_ne, c_lt, c_le, c_gt, c_ge, c_is, c_isn, c_isb, c_isnb, c_in, c_nin, c_ii, c_ss, c_bb, l_new0, l_new1, D.bl.injEq, D.int.injEq, wipeD, atI_lit, ixN_lit, q_ixmm, u_eqm, cm_r, cm_l, cm_mod, cd_s, cp_s, tn_lit, s1, ite_dec, ite_ndec, Nat.reduceLT, Nat.reduceLeDiff, Int.reduceLT, Int.reduceLE, Int.reduceNeg, Int.reducePow, if_true, if_false, ite_true, ite_false, true_and, and_true, Nat.reduceEqDiff, reduceIte, Int.reduceToNat, Bool.false_eq_true, qs_t, qs_str, qs_l, qs_s, qs_m, ov_l, ov_t, ov_s, ov_k, ov_m, ov_str, zp_ll, zp_tt, ex_two, ex_two0, ex_twoi, bi_lenl, bi_lent, bi_lens, bi_lenm, bi_lenstr, bi_abs, bi_max2, bi_min2, bi_sum, bi_inti, bi_intb, bi_stri, bi_listl, bi_listt, bi_lists, bi_listm, bi_tupl, bi_tups, bi_tupt, bi_tupm, r_get1, r_get2, m_get1i, m_get2i, eq_ni, eq_in, r_mm, m_append, m_extend, lst_mm, seq_mm, seq_l, seq_t, seq_s, seq_k, lst_l, lst_s, tup_t, tup_k, unp_t, unp_k, unp_l, own_l, own_mm, isNop, partE, exists_eq_left, ex_len]
      refine ⟨abc_len, _, (by rw [Ev.atI_nat]; exact abc_at u hu), ?_⟩
      refine ⟨len_le (by rw [sL_len]; omega) (show 1 ≤ 1000 by decide), ?_⟩
      rw [sL_one, sL_app]
      refine hk' _ _ ⟨c, n, _, l ++ [97 + u], rfl, rfl, by simp; omega, by simp; omega, fun z hz => ?_⟩
      rcases List.mem_append.mp hz with hz | hz
      · exact h3 z hz
      · rw [List.mem_singleton] at hz; omega
    · rintro σ' M' ⟨c, n, e7, l, rfl, rfl, h1, h2, h3⟩
      rw [List.length_range] at h1 h2
      have hne : l ≠ [] := by rintro rfl; simp at h1
      have hlast := h3 _ (List.getLast_mem hne)
      have hl2 : l = l.dropLast ++ [97 + (l.getLast hne - 97)] := by
        conv => lhs; rw [← List.dropLast_concat_getLast hne]
        congr 2; omega
      have hlow : Low l.dropLast := fun z hz => h3 z ((List.dropLast_sublist l).subset hz)
      have hi : l.getLast hne - 97 < 26 := by omega
      have hpl : l.dropLast.length ≤ 15 := by rw [List.length_dropLast]; omega
      generalize l.dropLast = pre at hl2 hlow hpl
      generalize l.getLast hne - 97 = i at hl2 hi
      rw [hl2]
      refine loop_name hi (by rw [List.length_map]; omega) hlow (by omega) mput_same fun f hf hf1 hf2 => ?_
      rw [mput_mput]
      refine hk _ _ ⟨c, n, _, _, _, ns ++ [pre ++ [97 + f]], rfl, by rw [List.map_append (f := sL)]; rfl, by simp; omega, ⟨fun z hz => ?_, ?_, fun z hz => ?_⟩⟩
      · rcases List.mem_append.mp hz with hz | hz
        · exact hN.low z hz
        · rw [List.mem_singleton] at hz; subst hz
          refine ⟨fun y hy => ?_, by simp, by simp; omega⟩
          rcases List.mem_append.mp hy with hy | hy
          · exact hlow y hy
          · rw [List.mem_singleton] at hy; omega
      · rw [List.map_append, List.nodup_append]
        refine ⟨hN.nd, List.nodup_cons.mpr ⟨List.not_mem_nil, List.nodup_nil⟩, fun u hu w hw e => ?_⟩
        rw [List.map_singleton, List.mem_singleton] at hw
        subst hw; subst e; exact hf1 hu
      · rcases List.mem_append.mp hz with hz | hz
        · exact hN.nw z hz
        · rw [List.mem_singleton] at hz; subst hz; exact hf2
  · rintro σ' M' ⟨c, n, e5, e6, e7, ns, rfl, rfl, hl, hN⟩
    simp only [Ev.wpS, Ev.wpE, Ev.wpA, Ev.wpT, ts_cons, ts_nil, Ev.wpB, Ev.wpI, lenE, List.map_cons, List.map_nil, List.length_cons, List.length_nil, List.replicate, Nat.reduceSub, Nat.reduceAdd, List.cons_append, List.nil_append, List.getElem?_cons_zero, List.getElem?_cons_succ, List.set_cons_zero, List.set_cons_succ, Option.some.injEq, exists_eq_left', q_add, q_adds, q_addt, q_addl, q_sub, q_mul, q_rep, q_mod, q_div, q_pow, q_ixl, q_ixs, q_ixt, q_ixk, q_ixstr, c_eq, c_ne, c_lt, c_le, c_gt, c_ge, c_is, c_isn, c_isb, c_isnb, c_in, c_nin, c_ii, c_ss, c_bb, l_new0, l_new1, D.bl.injEq, D.int.injEq, wipeD, atI_lit, ixN_lit, q_ixmm, u_eqm, cm_r, cm_l, cm_mod, cd_s, cp_s, tn_lit, s1, ite_dec, ite_ndec, Nat.reduceLT, Nat.reduceLeDiff, Int.reduceLT, Int.reduceLE, Int.reduceNeg, Int.reducePow, if_true, if_false, ite_true, ite_false, true_and, and_true, Nat.reduceEqDiff, reduceIte, Int.reduceToNat, Bool.false_eq_true, qs_t, qs_str, qs_l, qs_s, qs_m, ov_l, ov_t, ov_s, ov_k, ov_m, ov_str, zp_ll, zp_tt, ex_two, ex_two0, ex_twoi, bi_lenl, bi_lent, bi_lens, bi_lenm, bi_lenstr, bi_abs, bi_max2, bi_min2, bi_sum, bi_inti, bi_intb, bi_stri, bi_listl, bi_listt, bi_lists, bi_listm, bi_tupl, bi_tups, bi_tupt, bi_tupm, r_get1, r_get2, m_get1i, m_get2i, eq_ni, eq_in, r_mm, m_append, m_extend, lst_mm, seq_mm, seq_l, seq_t, seq_s, seq_k, lst_l, lst_s, tup_t, tup_k, unp_t, unp_k, unp_l, own_l, own_mm, isNop, partE, exists_eq_left, ex_len]
    refine f_lst (h0 a ha) mput_same ?_
    rw [restr_new (h0 a ha), List.map_map]
    exact h ns c n (by simpa using hl) hN
theorem names_f {k : Nat} {M : Mem} {p : Addr} {many : Nat} {Q : VQ} {W : WQ} (hp : Pot M p) (hm : many ≤ 14)
  (h : ∀ (ns : List (List Nat)) c n, ns.length = many → NamesOk ns → Q (.lst (ns.map fun l => .str (sL l))) (potM M p c n)) : callK T gl (k + 2) "_law_names" [.mr p, .int many] M (frzQ M Q) W :=
  names_g hp hm (fun _ h => h) fun ns c n h1 h2 => by rw [restr_pot hp]; exact h ns c n h1 h2
theorem restr_none (M : Mem) : restr (fun _ => none) M = fun _ => none := rfl

theorem reel_ok {k : Nat} {M : Mem} {cell : Int} {Q : VQ} {W : WQ} (h : ∀ a c n, M a = none → Q (.mr a) (potM M a c n)) : callK T gl (k + 1) "_law_reel" [.int cell] M Q W := by
  refine callK_intro (d := d__law_reel) rfl rfl ?_
  simp only [Ev.wpS, Ev.wpE, Ev.wpA, Ev.wpT, ts_cons, ts_nil, Ev.wpB, Ev.wpI, lenE, List.map_cons, List.map_nil, List.length_cons, List.length_nil, List.replicate, Nat.reduceSub, Nat.reduceAdd, List.cons_append, List.nil_append, List.getElem?_cons_zero, List.getElem?_cons_succ, List.set_cons_zero, List.set_cons_succ, Option.some.injEq, exists_eq_left', q_add, q_adds, q_addt, q_addl, q_sub, q_mul, q_rep, q_mod, q_div, q_pow, q_ixl, q_ixs, q_ixt, q_ixk, q_ixstr, c_eq, c_ne, c_lt, c_le, c_gt, c_ge, c_is, c_isn, c_isb, c_isnb, c_in, c_nin, c_ii, c_ss, c_bb, l_new0, l_new1, D.bl.injEq, D.int.injEq, wipeD, atI_lit, ixN_lit, q_ixmm, u_eqm, cm_r, cm_l, cm_mod, cd_s, cp_s, tn_lit, s1, ite_dec, ite_ndec, Nat.reduceLT, Nat.reduceLeDiff, Int.reduceLT, Int.reduceLE, Int.reduceNeg, Int.reducePow, if_true, if_false, ite_true, ite_false, true_and, and_true, Nat.reduceEqDiff, reduceIte, Int.reduceToNat, Bool.false_eq_true, qs_t, qs_str, qs_l, qs_s, qs_m, ov_l, ov_t, ov_s, ov_k, ov_m, ov_str, zp_ll, zp_tt, ex_two, ex_two0, ex_twoi, bi_lenl, bi_lent, bi_lens, bi_lenm, bi_lenstr, bi_abs, bi_max2, bi_min2, bi_sum, bi_inti, bi_intb, bi_stri, bi_listl, bi_listt, bi_lists, bi_listm, bi_tupl, bi_tups, bi_tupt, bi_tupm, r_get1, r_get2, m_get1i, m_get2i, eq_ni, eq_in, r_mm, m_append, m_extend, lst_mm, seq_mm, seq_l, seq_t, seq_s, seq_k, lst_l, lst_s, tup_t, tup_k, unp_t, unp_k, unp_l, own_l, own_mm, isNop, partE, exists_eq_left, ex_len, d__law_reel]
  intro a ha
  exact h a _ _ ha
theorem cell_at_f {k : Nat} {M : Mem} {ns : List Int} {i : Nat} {Q : VQ} {W : WQ} (h : ∀ x, Q (.int x) M) : callK T gl (k + 1) "_law_cell_at" [.scr (ns.map .int), nD i] M (frzQ M Q) W := by
  refine callK_intro (d := d__law_cell_at) rfl rfl ?_
  simp only [Ev.wpS, Ev.wpE, Ev.wpA, Ev.wpT, ts_cons, ts_nil, Ev.wpB, Ev.wpI, lenE, List.map_cons, List.map_nil, List.length_cons, List.length_nil, List.replicate, Nat.reduceSub, Nat.reduceAdd, List.cons_append, List.nil_append, List.getElem?_cons_zero, List.getElem?_cons_succ, List.set_cons_zero, List.set_cons_succ, Option.some.injEq, exists_eq_left', q_add, q_adds, q_addt, q_addl, q_sub, q_mul, q_rep, q_mod, q_div, q_pow, q_ixl, q_ixs, q_ixt, q_ixk, q_ixstr, c_eq, c_ne, c_lt, c_le, c_gt, c_ge, c_is, c_isn, c_isb, c_isnb, c_in, c_nin, c_ii, c_ss, c_bb, l_new0, l_new1, D.bl.injEq, D.int.injEq, wipeD, atI_lit, ixN_lit, q_ixmm, u_eqm, cm_r, cm_l, cm_mod, cd_s, cp_s, tn_lit, s1, ite_dec, ite_ndec, Nat.reduceLT, Nat.reduceLeDiff, Int.reduceLT, Int.reduceLE, Int.reduceNeg, Int.reducePow, if_true, if_false, ite_true, ite_false, true_and, and_true, Nat.reduceEqDiff, reduceIte, Int.reduceToNat, Bool.false_eq_true, qs_t, qs_str, qs_l, qs_s, qs_m, ov_l, ov_t, ov_s, ov_k, ov_m, ov_str, zp_ll, zp_tt, ex_two, ex_two0, ex_twoi, bi_lenl, bi_lent, bi_lens, bi_lenm, bi_lenstr, bi_abs, bi_max2, bi_min2, bi_sum, bi_inti, bi_intb, bi_stri, bi_listl, bi_listt, bi_lists, bi_listm, bi_tupl, bi_tups, bi_tupt, bi_tupm, r_get1, r_get2, m_get1i, m_get2i, eq_ni, eq_in, r_mm, m_append, m_extend, lst_mm, seq_mm, seq_l, seq_t, seq_s, seq_k, lst_l, lst_s, tup_t, tup_k, unp_t, unp_k, unp_l, own_l, own_mm, isNop, partE, exists_eq_left, ex_len, d__law_cell_at, List.length_map]
  by_cases hi : (i : Int) < (ns.length : Int)
  · rw [if_pos hi]
    have hi' : i < ns.length := by omega
    refine ⟨.int ns[i], by rw [Ev.atI_nat, List.getElem?_map, List.getElem?_eq_getElem hi']; rfl, f_refl (by rw [restr_self]; exact h _)⟩
  · rw [if_neg hi]
    exact f_refl (by rw [restr_self]; exact h _)

/-! expressions -/
inductive Ex where
  | num (n : Nat) | box (x : Str) | op (s : Str) (a b : Ex)
def Ex.d : Ex → D
  | .num n => .tup [.str "number", nD n]
  | .box x => .tup [.str "box", .str x]
  | .op s a b => .tup [.str s, a.d, b.d]
def bxD (b : Str × Int) : D := .tup [.str b.1, .int b.2]
/-- a leaf: a number below 1000, or a box that there is -/
def Leaf (bx : List (Str × Int)) (e : Ex) : Prop := (∃ n, n < 1000 ∧ e = .num n) ∨ ∃ b ∈ bx, e = .box b.1
theorem fineL_bx {bx : List (Str × Int)} (h : ∀ b ∈ bx, PySem.PyData.strOk b.1 = true) : fineL 1 (bx.map bxD) := fineL_map fun b hb => fine_tup (fineL_cons (fine_str (h b hb)) (fineL_cons (fine_int _) fineL_nil))

theorem leaf_f {k : Nat} {M : Mem} {p : Addr} {bx : List (Str × Int)} {Q : VQ} {W : WQ} (hp : Pot M p) (hbl : bx.length ≤ 100) (hs : ∀ b ∈ bx, PySem.PyData.strOk b.1 = true)
  (h : ∀ (e : Ex) c n, Leaf bx e → Q e.d (potM M p c n)) : callK T gl (k + 2) "_law_leaf" [.mr p, .lst (bx.map bxD)] M (frzQ M Q) W := by
  refine callK_intro (d := d__law_leaf) rfl rfl ?_
  simp only [Ev.wpS, Ev.wpE, Ev.wpA, Ev.wpT, ts_cons, ts_nil, Ev.wpB, Ev.wpI, lenE, List.map_cons, List.map_nil, List.length_cons, List.length_nil, List.replicate, Nat.reduceSub, Nat.reduceAdd, List.cons_append, List.nil_append, List.getElem?_cons_zero, List.getElem?_cons_succ, List.set_cons_zero, List.set_cons_succ, Option.some.injEq, exists_eq_left', q_add, q_adds, q_addt, q_addl, q_sub, q_mul, q_rep, q_mod, q_div, q_pow, q_ixl, q_ixs, q_ixt, q_ixk, q_ixstr, c_eq, c_ne, c_lt, c_le, c_gt, c_ge, c_is, c_isn, c_isb, c_isnb, c_in, c_nin, c_ii, c_ss, c_bb, l_new0, l_new1, D.bl.injEq, D.int.injEq, wipeD, atI_lit, ixN_lit, q_ixmm, u_eqm, cm_r, cm_l, cm_mod, cd_s, cp_s, tn_lit, s1, ite_dec, ite_ndec, Nat.reduceLT, Nat.reduceLeDiff, Int.reduceLT, Int.reduceLE, Int.reduceNeg, Int.reducePow, if_true, if_false, ite_true, ite_false, true_and, and_true, Nat.reduceEqDiff, reduceIte, Int.reduceToNat, Bool.false_eq_true, qs_t, qs_str, qs_l, qs_s, qs_m, ov_l, ov_t, ov_s, ov_k, ov_m, ov_str, zp_ll, zp_tt, ex_two, ex_two0, ex_twoi, bi_lenl, bi_lent, bi_lens, bi_lenm, bi_lenstr, bi_abs, bi_max2, bi_min2, bi_sum, bi_inti, bi_intb, bi_stri, bi_listl, bi_listt, bi_lists, bi_listm, bi_tupl, bi_tups, bi_tupt, bi_tupm, r_get1, r_get2, m_get1i, m_get2i, eq_ni, eq_in, r_mm, m_append, m_extend, lst_mm, seq_mm, seq_l, seq_t, seq_s, seq_k, lst_l, lst_s, tup_t, tup_k, unp_t, unp_k, unp_l, own_l, own_mm, isNop, partE, exists_eq_left, ex_len, d__law_leaf]
  refine eq_nil_l (fineL_bx hs) (by decide) ?_
  have num : ∀ M', Pot M' p → (∀ c n, potM M' p c n = potM M p c n) → callK T gl (k + 1) "_law_take" [.mr p, .int 3] M' (frzQ M' fun y M2 => ixQ M2 (.lst [.int 3, .int 10, .int 1000]) y fun d M1 =>
      callK T gl (k + 1) "_law_take" [.mr p, d] M1 (frzQ M1 fun x M1 => frzQ M Q (.tup [.str "number", x]) M1) W) W := by
    intro M' hp' he
    refine next_n 3 hp' rfl (by decide) (by decide) fun v c n hv => ?_
    rw [he]
    have fin : ∀ m : Nat, 0 < m → m ≤ 1000 → callK T gl (k + 1) "_law_take" [.mr p, nD m] (potM M p c n) (frzQ (potM M p c n) fun x M1 => frzQ M Q (.tup [.str "number", x]) M1) W := fun m h1 h2 =>
      next_n m .same rfl h1 (by omega) fun x c n hx => by
        rw [potM_potM]
        exact f_refl (by rw [restr_pot hp]; exact h (.num x) c n (.inl ⟨x, by omega, rfl⟩))
    have : v = 0 ∨ v = 1 ∨ v = 2 := by omega
    rcases this with rfl | rfl | rfl
    · simp only [Ev.wpS, Ev.wpE, Ev.wpA, Ev.wpT, ts_cons, ts_nil, Ev.wpB, Ev.wpI, lenE, List.map_cons, List.map_nil, List.length_cons, List.length_nil, List.replicate, Nat.reduceSub, Nat.reduceAdd, List.cons_append, List.nil_append, List.getElem?_cons_zero, List.getElem?_cons_succ, List.set_cons_zero, List.set_cons_succ, Option.some.injEq, exists_eq_left', q_add, q_adds, q_addt, q_addl, q_sub, q_mul, q_rep, q_mod, q_div, q_pow, q_ixl, q_ixs, q_ixt, q_ixk, q_ixstr, c_eq, c_ne, c_lt, c_le, c_gt, c_ge, c_is, c_isn, c_isb, c_isnb, c_in, c_nin, c_ii, c_ss, c_bb, l_new0, l_new1, D.bl.injEq, D.int.injEq, wipeD, atI_lit, ixN_lit, q_ixmm, u_eqm, cm_r, cm_l, cm_mod, cd_s, cp_s, tn_lit, s1, ite_dec, ite_ndec, Nat.reduceLT, Nat.reduceLeDiff, Int.reduceLT, Int.reduceLE, Int.reduceNeg, Int.reducePow, if_true, if_false, ite_true, ite_false, true_and, and_true, Nat.reduceEqDiff, reduceIte, Int.reduceToNat, Bool.false_eq_true, qs_t, qs_str, qs_l, qs_s, qs_m, ov_l, ov_t, ov_s, ov_k, ov_m, ov_str, zp_ll, zp_tt, ex_two, ex_two0, ex_twoi, bi_lenl, bi_lent, bi_lens, bi_lenm, bi_lenstr, bi_abs, bi_max2, bi_min2, bi_sum, bi_inti, bi_intb, bi_stri, bi_listl, bi_listt, bi_lists, bi_listm, bi_tupl, bi_tups, bi_tupt, bi_tupm, r_get1, r_get2, m_get1i, m_get2i, eq_ni, eq_in, r_mm, m_append, m_extend, lst_mm, seq_mm, seq_l, seq_t, seq_s, seq_k, lst_l, lst_s, tup_t, tup_k, unp_t, unp_k, unp_l, own_l, own_mm, isNop, partE, exists_eq_left, ex_len, Ev.atI_nat]
      exact fin 3 (by decide) (by decide)
    · simp only [Ev.wpS, Ev.wpE, Ev.wpA, Ev.wpT, ts_cons, ts_nil, Ev.wpB, Ev.wpI, lenE, List.map_cons, List.map_nil, List.length_cons, List.length_nil, List.replicate, Nat.reduceSub, Nat.reduceAdd, List.cons_append, List.nil_append, List.getElem?_cons_zero, List.getElem?_cons_succ, List.set_cons_zero, List.set_cons_succ, Option.some.injEq, exists_eq_left', q_add, q_adds, q_addt, q_addl, q_sub, q_mul, q_rep, q_mod, q_div, q_pow, q_ixl, q_ixs, q_ixt, q_ixk, q_ixstr, c_eq, c_ne, c_lt, c_le, c_gt, c_ge, c_is, c_isn, c_isb, c_isnb, c_in, c_nin, c_ii, c_ss, c_bb, l_new0, l_new1, D.bl.injEq, D.int.injEq, wipeD, atI_lit, ixN_lit, q_ixmm, u_eqm, cm_r, cm_l, cm_mod, cd_s, cp_s, tn_lit, s1, ite_dec, ite_ndec, Nat.reduceLT, Nat.reduceLeDiff, Int.reduceLT, Int.reduceLE, Int.reduceNeg, Int.reducePow, if_true, if_false, ite_true, ite_false, true_and, and_true, Nat.reduceEqDiff, reduceIte, Int.reduceToNat, Bool.false_eq_true, qs_t, qs_str, qs_l, qs_s, qs_m, ov_l, ov_t, ov_s, ov_k, ov_m, ov_str, zp_ll, zp_tt, ex_two, ex_two0, ex_twoi, bi_lenl, bi_lent, bi_lens, bi_lenm, bi_lenstr, bi_abs, bi_max2, bi_min2, bi_sum, bi_inti, bi_intb, bi_stri, bi_listl, bi_listt, bi_lists, bi_listm, bi_tupl, bi_tups, bi_tupt, bi_tupm, r_get1, r_get2, m_get1i, m_get2i, eq_ni, eq_in, r_mm, m_append, m_extend, lst_mm, seq_mm, seq_l, seq_t, seq_s, seq_k, lst_l, lst_s, tup_t, tup_k, unp_t, unp_k, unp_l, own_l, own_mm, isNop, partE, exists_eq_left, ex_len, Ev.atI_nat]
      exact fin 10 (by decide) (by decide)
    · simp only [Ev.wpS, Ev.wpE, Ev.wpA, Ev.wpT, ts_cons, ts_nil, Ev.wpB, Ev.wpI, lenE, List.map_cons, List.map_nil, List.length_cons, List.length_nil, List.replicate, Nat.reduceSub, Nat.reduceAdd, List.cons_append, List.nil_append, List.getElem?_cons_zero, List.getElem?_cons_succ, List.set_cons_zero, List.set_cons_succ, Option.some.injEq, exists_eq_left', q_add, q_adds, q_addt, q_addl, q_sub, q_mul, q_rep, q_mod, q_div, q_pow, q_ixl, q_ixs, q_ixt, q_ixk, q_ixstr, c_eq, c_ne, c_lt, c_le, c_gt, c_ge, c_is, c_isn, c_isb, c_isnb, c_in, c_nin, c_ii, c_ss, c_bb, l_new0, l_new1, D.bl.injEq, D.int.injEq, wipeD, atI_lit, ixN_lit, q_ixmm, u_eqm, cm_r, cm_l, cm_mod, cd_s, cp_s, tn_lit, s1, ite_dec, ite_ndec, Nat.reduceLT, Nat.reduceLeDiff, Int.reduceLT, Int.reduceLE, Int.reduceNeg, Int.reducePow, if_true, if_false, ite_true, ite_false, true_and, and_true, Nat.reduceEqDiff, reduceIte, Int.reduceToNat, Bool.false_eq_true, qs_t, qs_str, qs_l, qs_s, qs_m, ov_l, ov_t, ov_s, ov_k, ov_m, ov_str, zp_ll, zp_tt, ex_two, ex_two0, ex_twoi, bi_lenl, bi_lent, bi_lens, bi_lenm, bi_lenstr, bi_abs, bi_max2, bi_min2, bi_sum, bi_inti, bi_intb, bi_stri, bi_listl, bi_listt, bi_lists, bi_listm, bi_tupl, bi_tups, bi_tupt, bi_tupm, r_get1, r_get2, m_get1i, m_get2i, eq_ni, eq_in, r_mm, m_append, m_extend, lst_mm, seq_mm, seq_l, seq_t, seq_s, seq_k, lst_l, lst_s, tup_t, tup_k, unp_t, unp_k, unp_l, own_l, own_mm, isNop, partE, exists_eq_left, ex_len, Ev.atI_nat]
      exact fin 1000 (by decide) (by decide)
  by_cases hn : bx.map bxD = []
  · simp only [hn, decide_true, Bool.not_true, Bool.false_eq_true, if_false]
    exact num M hp fun _ _ => rfl
  · simp only [hn, decide_false, Bool.not_false, if_true]
    have hpos : 0 < bx.length := List.length_pos_iff.mpr fun e => hn (by rw [e]; rfl)
    refine next_n 3 hp rfl (by decide) (by decide) fun u c n _ => ?_
    simp only [Ev.wpS, Ev.wpE, Ev.wpA, Ev.wpT, ts_cons, ts_nil, Ev.wpB, Ev.wpI, lenE, List.map_cons, List.map_nil, List.length_cons, List.length_nil, List.replicate, Nat.reduceSub, Nat.reduceAdd, List.cons_append, List.nil_append, List.getElem?_cons_zero, List.getElem?_cons_succ, List.set_cons_zero, List.set_cons_succ, Option.some.injEq, exists_eq_left', q_add, q_adds, q_addt, q_addl, q_sub, q_mul, q_rep, q_mod, q_div, q_pow, q_ixl, q_ixs, q_ixt, q_ixk, q_ixstr, c_eq, c_ne, c_lt, c_le, c_gt, c_ge, c_is, c_isn, c_isb, c_isnb, c_in, c_nin, c_ii, c_ss, c_bb, l_new0, l_new1, D.bl.injEq, D.int.injEq, wipeD, atI_lit, ixN_lit, q_ixmm, u_eqm, cm_r, cm_l, cm_mod, cd_s, cp_s, tn_lit, s1, ite_dec, ite_ndec, Nat.reduceLT, Nat.reduceLeDiff, Int.reduceLT, Int.reduceLE, Int.reduceNeg, Int.reducePow, if_true, if_false, ite_true, ite_false, true_and, and_true, Nat.reduceEqDiff, reduceIte, Int.reduceToNat, Bool.false_eq_true, qs_t, qs_str, qs_l, qs_s, qs_m, ov_l, ov_t, ov_s, ov_k, ov_m, ov_str, zp_ll, zp_tt, ex_two, ex_two0, ex_twoi, bi_lenl, bi_lent, bi_lens, bi_lenm, bi_lenstr, bi_abs, bi_max2, bi_min2, bi_sum, bi_inti, bi_intb, bi_stri, bi_listl, bi_listt, bi_lists, bi_listm, bi_tupl, bi_tups, bi_tupt, bi_tupm, r_get1, r_get2, m_get1i, m_get2i, eq_ni, eq_in, r_mm, m_append, m_extend, lst_mm, seq_mm, seq_l, seq_t, seq_s, seq_k, lst_l, lst_s, tup_t, tup_k, unp_t, unp_k, unp_l, own_l, own_mm, isNop, partE, exists_eq_left, ex_len]
    by_cases hu : (0 : Int) < (u : Int)
    · rw [if_pos hu]
      refine next_n bx.length .same (by rw [List.length_map]) hpos (by omega) fun i c n hi => ?_
      rw [potM_potM]
      simp only [Ev.wpS, Ev.wpE, Ev.wpA, Ev.wpT, ts_cons, ts_nil, Ev.wpB, Ev.wpI, lenE, List.map_cons, List.map_nil, List.length_cons, List.length_nil, List.replicate, Nat.reduceSub, Nat.reduceAdd, List.cons_append, List.nil_append, List.getElem?_cons_zero, List.getElem?_cons_succ, List.set_cons_zero, List.set_cons_succ, Option.some.injEq, exists_eq_left', q_add, q_adds, q_addt, q_addl, q_sub, q_mul, q_rep, q_mod, q_div, q_pow, q_ixl, q_ixs, q_ixt, q_ixk, q_ixstr, c_eq, c_ne, c_lt, c_le, c_gt, c_ge, c_is, c_isn, c_isb, c_isnb, c_in, c_nin, c_ii, c_ss, c_bb, l_new0, l_new1, D.bl.injEq, D.int.injEq, wipeD, atI_lit, ixN_lit, q_ixmm, u_eqm, cm_r, cm_l, cm_mod, cd_s, cp_s, tn_lit, s1, ite_dec, ite_ndec, Nat.reduceLT, Nat.reduceLeDiff, Int.reduceLT, Int.reduceLE, Int.reduceNeg, Int.reducePow, if_true, if_false, ite_true, ite_false, true_and, and_true, Nat.reduceEqDiff, reduceIte, Int.reduceToNat, Bool.false_eq_true, qs_t, qs_str, qs_l, qs_s, qs_m, ov_l, ov_t, ov_s, ov_k, ov_m, ov_str, zp_ll, zp_tt, ex_two, ex_two0, ex_twoi, bi_lenl, bi_lent, bi_lens, bi_lenm, bi_lenstr, bi_abs, bi_max2, bi_min2, bi_sum, bi_inti, bi_intb, bi_stri, bi_listl, bi_listt, bi_lists, bi_listm, bi_tupl, bi_tups, bi_tupt, bi_tupm, r_get1, r_get2, m_get1i, m_get2i, eq_ni, eq_in, r_mm, m_append, m_extend, lst_mm, seq_mm, seq_l, seq_t, seq_s, seq_k, lst_l, lst_s, tup_t, tup_k, unp_t, unp_k, unp_l, own_l, own_mm, isNop, partE, exists_eq_left, ex_len]
      refine ⟨bxD bx[i], by rw [Ev.atI_nat, List.getElem?_map, List.getElem?_eq_getElem hi]; rfl, ?_⟩
      simp only [Ev.wpS, Ev.wpE, Ev.wpA, Ev.wpT, ts_cons, ts_nil, Ev.wpB, Ev.wpI, lenE, List.map_cons, List.map_nil, List.length_cons, List.length_nil, List.replicate, Nat.reduceSub, Nat.reduceAdd, List.cons_append, List.nil_append, List.getElem?_cons_zero, List.getElem?_cons_succ, List.set_cons_zero, List.set_cons_succ, Option.some.injEq, exists_eq_left', q_add, q_adds, q_addt, q_addl, q_sub, q_mul, q_rep, q_mod, q_div, q_pow, q_ixl, q_ixs, q_ixt, q_ixk, q_ixstr, c_eq, c_ne, c_lt, c_le, c_gt, c_ge, c_is, c_isn, c_isb, c_isnb, c_in, c_nin, c_ii, c_ss, c_bb, l_new0, l_new1, D.bl.injEq, D.int.injEq, wipeD, atI_lit, ixN_lit, q_ixmm, u_eqm, cm_r, cm_l, cm_mod, cd_s, cp_s, tn_lit, s1, ite_dec, ite_ndec, Nat.reduceLT, Nat.reduceLeDiff, Int.reduceLT, Int.reduceLE, Int.reduceNeg, Int.reducePow, if_true, if_false, ite_true, ite_false, true_and, and_true, Nat.reduceEqDiff, reduceIte, Int.reduceToNat, Bool.false_eq_true, qs_t, qs_str, qs_l, qs_s, qs_m, ov_l, ov_t, ov_s, ov_k, ov_m, ov_str, zp_ll, zp_tt, ex_two, ex_two0, ex_twoi, bi_lenl, bi_lent, bi_lens, bi_lenm, bi_lenstr, bi_abs, bi_max2, bi_min2, bi_sum, bi_inti, bi_intb, bi_stri, bi_listl, bi_listt, bi_lists, bi_listm, bi_tupl, bi_tups, bi_tupt, bi_tupm, r_get1, r_get2, m_get1i, m_get2i, eq_ni, eq_in, r_mm, m_append, m_extend, lst_mm, seq_mm, seq_l, seq_t, seq_s, seq_k, lst_l, lst_s, tup_t, tup_k, unp_t, unp_k, unp_l, own_l, own_mm, isNop, partE, exists_eq_left, ex_len, bxD]
      exact f_refl (by rw [restr_pot hp]; exact h (.box (bx[i]).1) c n (.inr ⟨bx[i], List.getElem_mem hi, rfl⟩))
    · rw [if_neg hu]
      exact num _ .same fun _ _ => potM_potM

inductive Tr (bx : List (Str × Int)) : Nat → Ex → Prop
  | leaf {n : Nat} {e : Ex} : Leaf bx e → Tr bx n e
  | op {n : Nat} {s : Str} {a b : Ex} : s ∈ [("+" : Str), "-", "*"] → Tr bx n a → Tr bx n b → Tr bx (n + 1) (.op s a b)

theorem tree_f : ∀ (L : Nat) {k : Nat} {M : Mem} {p : Addr} {bx : List (Str × Int)} {leaves : Nat} {Q : VQ} {W : WQ}, leaves ≤ L + 1 → Pot M p → bx.length ≤ 100 → (∀ b ∈ bx, PySem.PyData.strOk b.1 = true) → leaves ≤ 100 →
    (∀ (e : Ex) c n, Tr bx L e → Q e.d (potM M p c n)) → callK T gl (k + L + 3) "_law_tree" [.mr p, .lst (bx.map bxD), nD leaves] M (frzQ M Q) W
  | L, k, M, p, bx, leaves, Q, W, hL, hp, hbl, hs, h100, h => by
    refine callK_intro (d := d__law_tree) rfl rfl ?_
    simp only [Ev.wpS, Ev.wpE, Ev.wpA, Ev.wpT, ts_cons, ts_nil, Ev.wpB, Ev.wpI, lenE, List.map_cons, List.map_nil, List.length_cons, List.length_nil, List.replicate, Nat.reduceSub, Nat.reduceAdd, List.cons_append, List.nil_append, List.getElem?_cons_zero, List.getElem?_cons_succ, List.set_cons_zero, List.set_cons_succ, Option.some.injEq, exists_eq_left', q_add, q_adds, q_addt, q_addl, q_sub, q_mul, q_rep, q_mod, q_div, q_pow, q_ixl, q_ixs, q_ixt, q_ixk, q_ixstr, c_eq, c_ne, c_lt, c_le, c_gt, c_ge, c_is, c_isn, c_isb, c_isnb, c_in, c_nin, c_ii, c_ss, c_bb, l_new0, l_new1, D.bl.injEq, D.int.injEq, wipeD, atI_lit, ixN_lit, q_ixmm, u_eqm, cm_r, cm_l, cm_mod, cd_s, cp_s, tn_lit, s1, ite_dec, ite_ndec, Nat.reduceLT, Nat.reduceLeDiff, Int.reduceLT, Int.reduceLE, Int.reduceNeg, Int.reducePow, if_true, if_false, ite_true, ite_false, true_and, and_true, Nat.reduceEqDiff, reduceIte, Int.reduceToNat, Bool.false_eq_true, qs_t, qs_str, qs_l, qs_s, qs_m, ov_l, ov_t, ov_s, ov_k, ov_m, ov_str, zp_ll, zp_tt, ex_two, ex_two0, ex_twoi, bi_lenl, bi_lent, bi_lens, bi_lenm, bi_lenstr, bi_abs, bi_max2, bi_min2, bi_sum, bi_inti, bi_intb, bi_stri, bi_listl, bi_listt, bi_lists, bi_listm, bi_tupl, bi_tups, bi_tupt, bi_tupm, r_get1, r_get2, m_get1i, m_get2i, eq_ni, eq_in, r_mm, m_append, m_extend, lst_mm, seq_mm, seq_l, seq_t, seq_s, seq_k, lst_l, lst_s, tup_t, tup_k, unp_t, unp_k, unp_l, own_l, own_mm, isNop, partE, exists_eq_left, ex_len, d__law_tree]
    by_cases h2 : (leaves : Int) < 2
    · rw [if_pos h2]
      exact leaf_f hp hbl hs fun e c n he => f_refl (by rw [restr_pot hp]; exact h e c n (.leaf he))
    · rw [if_neg h2]
      cases L with
      | zero => omega
      | succ L =>
        refine next_n (leaves - 1) hp (by omega) (by omega) (by omega) fun v c n hv => ?_
        simp only [Ev.wpS, Ev.wpE, Ev.wpA, Ev.wpT, ts_cons, ts_nil, Ev.wpB, Ev.wpI, lenE, List.map_cons, List.map_nil, List.length_cons, List.length_nil, List.replicate, Nat.reduceSub, Nat.reduceAdd, List.cons_append, List.nil_append, List.getElem?_cons_zero, List.getElem?_cons_succ, List.set_cons_zero, List.set_cons_succ, Option.some.injEq, exists_eq_left', q_add, q_adds, q_addt, q_addl, q_sub, q_mul, q_rep, q_mod, q_div, q_pow, q_ixl, q_ixs, q_ixt, q_ixk, q_ixstr, c_eq, c_ne, c_lt, c_le, c_gt, c_ge, c_is, c_isn, c_isb, c_isnb, c_in, c_nin, c_ii, c_ss, c_bb, l_new0, l_new1, D.bl.injEq, D.int.injEq, wipeD, atI_lit, ixN_lit, q_ixmm, u_eqm, cm_r, cm_l, cm_mod, cd_s, cp_s, tn_lit, s1, ite_dec, ite_ndec, Nat.reduceLT, Nat.reduceLeDiff, Int.reduceLT, Int.reduceLE, Int.reduceNeg, Int.reducePow, if_true, if_false, ite_true, ite_false, true_and, and_true, Nat.reduceEqDiff, reduceIte, Int.reduceToNat, Bool.false_eq_true, qs_t, qs_str, qs_l, qs_s, qs_m, ov_l, ov_t, ov_s, ov_k, ov_m, ov_str, zp_ll, zp_tt, ex_two, ex_two0, ex_twoi, bi_lenl, bi_lent, bi_lens, bi_lenm, bi_lenstr, bi_abs, bi_max2, bi_min2, bi_sum, bi_inti, bi_intb, bi_stri, bi_listl, bi_listt, bi_lists, bi_listm, bi_tupl, bi_tups, bi_tupt, bi_tupm, r_get1, r_get2, m_get1i, m_get2i, eq_ni, eq_in, r_mm, m_append, m_extend, lst_mm, seq_mm, seq_l, seq_t, seq_s, seq_k, lst_l, lst_s, tup_t, tup_k, unp_t, unp_k, unp_l, own_l, own_mm, isNop, partE, exists_eq_left, ex_len]
        refine next_n 3 .same rfl (by decide) (by decide) fun u c n hu => ?_
        rw [potM_potM]
        have hsg : ∃ ch, ("+-*" : Str).cps.toList[u]? = some ch ∧ (⟨#[ch]⟩ : Str) ∈ [("+" : Str), "-", "*"] := by
          have : u = 0 ∨ u = 1 ∨ u = 2 := by omega
          rcases this with rfl | rfl | rfl
          · exact ⟨43, by decide +kernel, by decide +kernel⟩
          · exact ⟨45, by decide +kernel, by decide +kernel⟩
          · exact ⟨42, by decide +kernel, by decide +kernel⟩
        obtain ⟨ch, hch, hin⟩ := hsg
        simp only [Ev.wpS, Ev.wpE, Ev.wpA, Ev.wpT, ts_cons, ts_nil, Ev.wpB, Ev.wpI, lenE, List.map_cons, List.map_nil, List.length_cons, List.length_nil, List.replicate, Nat.reduceSub, Nat.reduceAdd, List.cons_append, List.nil_append, List.getElem?_cons_zero, List.getElem?_cons_succ, List.set_cons_zero, List.set_cons_succ, Option.some.injEq, exists_eq_left', q_add, q_adds, q_addt, q_addl, q_sub, q_mul, q_rep, q_mod, q_div, q_pow, q_ixl, q_ixs, q_ixt, q_ixk, q_ixstr, c_eq, c_ne, c_lt, c_le, c_gt, c_ge, c_is, c_isn, c_isb, c_isnb, c_in, c_nin, c_ii, c_ss, c_bb, l_new0, l_new1, D.bl.injEq, D.int.injEq, wipeD, atI_lit, ixN_lit, q_ixmm, u_eqm, cm_r, cm_l, cm_mod, cd_s, cp_s, tn_lit, s1, ite_dec, ite_ndec, Nat.reduceLT, Nat.reduceLeDiff, Int.reduceLT, Int.reduceLE, Int.reduceNeg, Int.reducePow, if_true, if_false, ite_true, ite_false, true_and, and_true, Nat.reduceEqDiff, reduceIte, Int.reduceToNat, Bool.false_eq_true, qs_t, qs_str, qs_l, qs_s, qs_m, ov_l, ov_t, ov_s, ov_k, ov_m, ov_str, zp_ll, zp_tt, ex_two, ex_two0, ex_twoi, bi_lenl, bi_lent, bi_lens, bi_lenm, bi_lenstr, bi_abs, bi_max2, bi_min2, bi_sum, bi_inti, bi_intb, bi_stri, bi_listl, bi_listt, bi_lists, bi_listm, bi_tupl, bi_tups, bi_tupt, bi_tupm, r_get1, r_get2, m_get1i, m_get2i, eq_ni, eq_in, r_mm, m_append, m_extend, lst_mm, seq_mm, seq_l, seq_t, seq_s, seq_k, lst_l, lst_s, tup_t, tup_k, unp_t, unp_k, unp_l, own_l, own_mm, isNop, partE, exists_eq_left, ex_len, Ev.atI_nat, hch]
        refine ⟨by decide +kernel, ?_⟩
        rw [show (1 : Int) + (v : Int) = ((1 + v : Nat) : Int) from by omega]
        refine tree_f L (k := k) (leaves := 1 + v) (by omega) .same hbl hs (by omega) fun e1 c n h1 => ?_
        rw [potM_potM]
        rw [show (leaves : Int) - ((1 + v : Nat) : Int) = ((leaves - (1 + v) : Nat) : Int) from by omega]
        refine tree_f L (k := k) (leaves := leaves - (1 + v)) (by omega) .same hbl hs (by omega) fun e2 c n h2 => ?_
        rw [potM_potM]
        exact f_refl (by rw [restr_pot hp]; exact h (.op _ e1 e2) c n (.op hin h1 h2))

theorem rng_at {n j x : Nat} (h : (List.range n)[j]? = some x) : j < n ∧ x = j := by
  have := List.getElem?_eq_some_iff.mp h
  simp at this; exact ⟨this.1, this.2.symm⟩
theorem sz_le {n : Nat} (h : n ≤ 1000) : n ≤ sizeLine := Nat.le_trans h (by decide)
/-! statements, ends -/
inductive Stm where
  | say (e : Ex) | ask (x : Str) | put (x : Str) (e : Ex)
def Stm.d : Stm → D
  | .say e => .tup [.str "say", e.d]
  | .ask x => .tup [.str "ask", .str x]
  | .put x e => .tup [.str "put", .str x, e.d]
def Stm.ok (bx : List (Str × Int)) : Stm → Prop
  | .say e => Tr bx 4 e
  | .ask x => ∃ b ∈ bx, x = b.1
  | .put x e => (∃ b ∈ bx, x = b.1) ∧ Tr bx 4 e
theorem Tr.mono {bx : List (Str × Int)} {n : Nat} {e : Ex} (h : Tr bx n e) : ∀ m, n ≤ m → Tr bx m e := by
  induction h with
  | leaf h => exact fun m _ => .leaf h
  | op h _ _ ih1 ih2 =>
    intro m hm
    obtain ⟨m, rfl⟩ : ∃ m', m = m' + 1 := ⟨m - 1, by omega⟩
    exact .op h (ih1 m (by omega)) (ih2 m (by omega))
theorem two {v : Nat} (h : v < 2) : v = 0 ∨ v = 1 := by omega
def EnT (bx : List (Str × Int)) (many : Nat) : En → Prop
  | .stop => True
  | .go x => x < many
  | .tab d xs => (∃ e, d = Ex.d e ∧ Tr bx 4 e) ∧ 0 < xs.length ∧ xs.length ≤ 6 ∧ ∀ x ∈ xs, x < many
  | .ife s a b x y => (s = ("<" : Str) ∨ s = ("=" : Str)) ∧ (∃ e, a = Ex.d e ∧ Tr bx 4 e) ∧ (∃ e, b = Ex.d e ∧ Tr bx 4 e) ∧ x < many ∧ y < many

structure BlT (bx : List (Str × Int)) (many : Nat) (b : Bl) : Prop where
  st : ∃ ss : List Stm, b.st = ss.map Stm.d ∧ ∀ s ∈ ss, s.ok bx
  len : b.st.length ≤ 8
  e : EnT bx many b.e
def prD (bx : List (Str × Int)) (bs : List Bl) : D := .tup [.lst (bx.map bxD), .lst (bs.map Bl.d)]

/-! programs as data -/
theorem comp_poti {α : Type} {L : Addr} {turn : D → Mem → (Option D → Mem → Prop) → Prop} {still : Mem → Prop} {q : List D → Mem → Prop} {xs : List α} {f : α → D} {p : Addr} {M0 : Mem} (hp : Pot M0 p) (hL : M0 L = none) (G : Nat → D → Prop) (hN : xs.length ≤ sizeLine) (hs : ∀ M, still M)
    (ht : ∀ i x, xs[i]? = some x → ∀ M kk, Pot M p → (∀ y c n, G i y → kk (some y) (potM M p c n)) → turn (f x) M kk)
    (hq : ∀ ys c n, ys.length = xs.length → (∀ i y, ys[i]? = some y → G i y) → q ys (mput (potM M0 p c n) L (.lst ys))) : compQ L turn still (xs.map f) (mput M0 L (.lst [])) q := by
  have hpL := pot_ne hp hL
  obtain ⟨c0, n0, hp⟩ := hp
  refine comp_ind (L := L) f (fun i acc M' => ∃ c n, M' = mput (potM M0 p c n) L (.lst acc) ∧ acc.length = i ∧ ∀ i y, acc[i]? = some y → G i y) xs.length hN ?_ ?_ _ 0 [] _ (by omega) ?_ ?_
  · rintro i acc M' _ ⟨c, n, rfl, h2, _⟩
    exact ⟨hs _, mput_same, by omega⟩
  · rintro acc M' ⟨c, n, rfl, h2, h3⟩
    exact hq acc c n h2 h3
  · exact ⟨c0, n0, by rw [potM_self hp], rfl, fun _ _ h => by cases h⟩
  · rintro i x hx acc M' kk ⟨c, n, rfl, h2, h3⟩ hk
    refine ht i x hx _ kk ⟨c, n, by rw [mput_ne hpL]; unfold potM; exact mput_same⟩ fun y c' n' hy => hk _ _ ⟨?_, c', n', ?_, by simp; omega, ?_⟩
    · unfold potM; rw [mput_ne hpL.symm]; exact mput_same
    · unfold potM; rw [mput_comm hpL, mput_mput, mput_comm hpL.symm, mput_mput]
    · intro j z hz
      rw [Nat.zero_add] at h2
      rw [List.getElem?_append] at hz
      split at hz
      · exact h3 j z hz
      · rename_i hj
        have : j - acc.length = 0 := by
          have := (List.getElem?_eq_some_iff.mp hz).1
          simp at this; omega
        rw [this] at hz
        cases hz
        rw [show j = i from by omega]; exact hy
/-! what may be held alike -/
theorem Tree.mono : ∀ {n : Nat} {d : D} (m : Nat), Tree n d → n ≤ m → Tree m d
  | n, .non, m, _, _ => by cases m <;> trivial
  | n, .bl _, m, _, _ => by cases m <;> trivial
  | n, .int _, m, _, _ => by cases m <;> trivial
  | n, .str _, m, _, _ => by cases m <;> trivial
  | 0, .tup _, _, h, _ => h.elim
  | 0, .lst _, _, h, _ => h.elim
  | 0, .scr _, _, h, _ => h.elim
  | 0, .kt _, _, h, _ => h.elim
  | 0, .ft _, _, h, _ => h.elim
  | 0, .mr _, _, h, _ => h.elim
  | n + 1, .scr _, _, h, _ => h.elim
  | n + 1, .kt _, _, h, _ => h.elim
  | n + 1, .ft _, _, h, _ => h.elim
  | n + 1, .mr _, _, h, _ => h.elim
  | n + 1, .tup ds, m, h, hm => by
    obtain ⟨m, rfl⟩ : ∃ m', m = m' + 1 := ⟨m - 1, by omega⟩
    exact ⟨h.1, fun d hd => Tree.mono m (h.2 d hd) (by omega)⟩
  | n + 1, .lst ds, m, h, hm => by
    obtain ⟨m, rfl⟩ : ∃ m', m = m' + 1 := ⟨m - 1, by omega⟩
    exact ⟨h.1, fun d hd => Tree.mono m (h.2 d hd) (by omega)⟩
theorem tree_int (n : Nat) (i : Int) : Tree n (.int i) := by cases n <;> trivial
theorem tree_str (n : Nat) (i : Str) : Tree n (.str i) := by cases n <;> trivial
theorem tree_ints {n : Nat} {xs : List Nat} : ∀ d ∈ xs.map nD, Tree n d := fun d hd => by
  obtain ⟨x, _, rfl⟩ := List.mem_map.mp hd; exact tree_int n _
theorem tree_ex {bx : List (Str × Int)} {L : Nat} {e : Ex} (h : Tr bx L e) : Tree (L + 1) e.d := by
  induction h with
  | leaf h =>
    rcases h with ⟨n, _, rfl⟩ | ⟨b, _, rfl⟩
    · exact ⟨(by decide : 2 ≤ 1000000), by simp [tree_int, tree_str]⟩
    · exact ⟨(by decide : 2 ≤ 1000000), by simp [tree_str]⟩
  | op hs _ _ ih1 ih2 => exact ⟨(by decide : 3 ≤ 1000000), by simp [tree_str, ih1, ih2]⟩
theorem tree_stm {bx : List (Str × Int)} {s : Stm} (h : s.ok bx) : Tree 6 s.d := by
  cases s with
  | say e => exact ⟨(by decide : 2 ≤ 1000000), by simp [tree_str, tree_ex (show Tr bx 4 e from h)]⟩
  | ask x => exact ⟨(by decide : 2 ≤ 1000000), by simp [tree_str]⟩
  | put x e => exact ⟨(by decide : 3 ≤ 1000000), by simp [tree_str, tree_ex (show Tr bx 4 e from h.2)]⟩
theorem tree_en {bx : List (Str × Int)} {many : Nat} {e : En} (h : EnT bx many e) : Tree 6 e.d := by
  cases e with
  | stop => exact ⟨(by decide : 1 ≤ 1000000), by simp [tree_str]⟩
  | go x => exact ⟨(by decide : 2 ≤ 1000000), by simp [tree_str, tree_int]⟩
  | tab d xs =>
    obtain ⟨⟨e, rfl, he⟩, h1, h2, _⟩ := h
    exact ⟨(by decide : 3 ≤ 1000000), by simp only [List.mem_cons, List.not_mem_nil, or_false, forall_eq_or_imp, forall_eq]; exact ⟨tree_str _ _, tree_ex he, by rw [List.length_map]; omega, tree_ints⟩⟩
  | ife s a b x y =>
    obtain ⟨_, ⟨e, rfl, he⟩, ⟨e', rfl, he'⟩, _⟩ := h
    exact ⟨(by decide : 6 ≤ 1000000), by simp [tree_str, tree_int, tree_ex he, tree_ex he']⟩
theorem tree_bl {bx : List (Str × Int)} {many : Nat} {b : Bl} (h : BlT bx many b) : Tree 8 b.d := by
  obtain ⟨ss, hs, hss⟩ := h.st
  have hl := h.len
  refine ⟨(by decide : 3 ≤ 1000000), ?_⟩
  simp only [List.mem_cons, List.not_mem_nil, or_false, forall_eq_or_imp, forall_eq]
  refine ⟨tree_str _ _, ⟨by omega, ?_⟩, Tree.mono 7 (tree_en h.e) (by decide)⟩
  intro d hd
  rw [hs] at hd
  obtain ⟨s, h1, rfl⟩ := List.mem_map.mp hd
  exact tree_stm (hss s h1)
theorem tree_bx {bx : List (Str × Int)} : ∀ d ∈ bx.map bxD, Tree 2 d := fun d hd => by
  obtain ⟨x, _, rfl⟩ := List.mem_map.mp hd; exact ⟨(by decide : 2 ≤ 1000000), by simp [tree_str, tree_int]⟩
theorem tree_pr {bx : List (Str × Int)} {many : Nat} {bs : List Bl} (hx : bx.length ≤ 1000) (hb : bs.length ≤ 1000) (h : ∀ b ∈ bs, BlT bx many b) : Tree 10 (prD bx bs) := by
  refine ⟨(by decide : 2 ≤ 1000000), ?_⟩
  simp only [List.mem_cons, List.not_mem_nil, or_false, forall_eq_or_imp, forall_eq]
  refine ⟨⟨by rw [List.length_map]; omega, fun d hd => Tree.mono 8 (tree_bx d hd) (by decide)⟩, by rw [List.length_map]; omega, fun d hd => ?_⟩
  obtain ⟨b, h1, rfl⟩ := List.mem_map.mp hd
  exact tree_bl (h b h1)

theorem copied_f {k : Nat} {M : Mem} {bx : List (Str × Int)} {bs : List Bl} {Q : VQ} {W : WQ} (hx : bx.length ≤ 1000) (hb : bs.length ≤ 1000) (hs : ∀ b ∈ bs, b.st.length ≤ 8) (h : Q (prD bx bs) M) : callK T gl (k + 1) "_law_copied" [prD bx bs] M (frzQ M Q) W := by
  refine callK_intro (d := d__law_copied) rfl rfl ?_
  simp only [Ev.wpS, Ev.wpE, Ev.wpA, Ev.wpT, ts_cons, ts_nil, Ev.wpB, Ev.wpI, lenE, List.map_cons, List.map_nil, List.length_cons, List.length_nil, List.replicate, Nat.reduceSub, Nat.reduceAdd, List.cons_append, List.nil_append, List.getElem?_cons_zero, List.getElem?_cons_succ, List.set_cons_zero, List.set_cons_succ, Option.some.injEq, exists_eq_left', q_add, q_adds, q_addt, q_addl, q_sub, q_mul, q_rep, q_mod, q_div, q_pow, q_ixl, q_ixs, q_ixt, q_ixk, q_ixstr, c_eq, c_ne, c_lt, c_le, c_gt, c_ge, c_is, c_isn, c_isb, c_isnb, c_in, c_nin, c_ii, c_ss, c_bb, l_new0, l_new1, D.bl.injEq, D.int.injEq, wipeD, atI_lit, ixN_lit, q_ixmm, u_eqm, cm_r, cm_l, cm_mod, cd_s, cp_s, tn_lit, s1, ite_dec, ite_ndec, Nat.reduceLT, Nat.reduceLeDiff, Int.reduceLT, Int.reduceLE, Int.reduceNeg, Int.reducePow, if_true, if_false, ite_true, ite_false, true_and, and_true, Nat.reduceEqDiff, reduceIte, Int.reduceToNat, Bool.false_eq_true, qs_t, qs_str, qs_l, qs_s, qs_m, ov_l, ov_t, ov_s, ov_k, ov_m, ov_str, zp_ll, zp_tt, ex_two, ex_two0, ex_twoi, bi_lenl, bi_lent, bi_lens, bi_lenm, bi_lenstr, bi_abs, bi_max2, bi_min2, bi_sum, bi_inti, bi_intb, bi_stri, bi_listl, bi_listt, bi_lists, bi_listm, bi_tupl, bi_tups, bi_tupt, bi_tupm, r_get1, r_get2, m_get1i, m_get2i, eq_ni, eq_in, r_mm, m_append, m_extend, lst_mm, seq_mm, seq_l, seq_t, seq_s, seq_k, lst_l, lst_s, tup_t, tup_k, unp_t, unp_k, unp_l, own_l, own_mm, isNop, partE, exists_eq_left, ex_len, d__law_copied, prD]
  refine ⟨sz_le (by rw [List.length_map]; omega), fun L hL => ?_⟩
  refine cmap bs Bl.d Bl.d (sz_le hb) (fun _ => trivial) (fun b hb' acc kk hkk => ?_) ?_
  · simp only [Ev.wpS, Ev.wpE, Ev.wpA, Ev.wpT, ts_cons, ts_nil, Ev.wpB, Ev.wpI, lenE, List.map_cons, List.map_nil, List.length_cons, List.length_nil, List.replicate, Nat.reduceSub, Nat.reduceAdd, List.cons_append, List.nil_append, List.getElem?_cons_zero, List.getElem?_cons_succ, List.set_cons_zero, List.set_cons_succ, Option.some.injEq, exists_eq_left', q_add, q_adds, q_addt, q_addl, q_sub, q_mul, q_rep, q_mod, q_div, q_pow, q_ixl, q_ixs, q_ixt, q_ixk, q_ixstr, c_eq, c_ne, c_lt, c_le, c_gt, c_ge, c_is, c_isn, c_isb, c_isnb, c_in, c_nin, c_ii, c_ss, c_bb, l_new0, l_new1, D.bl.injEq, D.int.injEq, wipeD, atI_lit, ixN_lit, q_ixmm, u_eqm, cm_r, cm_l, cm_mod, cd_s, cp_s, tn_lit, s1, ite_dec, ite_ndec, Nat.reduceLT, Nat.reduceLeDiff, Int.reduceLT, Int.reduceLE, Int.reduceNeg, Int.reducePow, if_true, if_false, ite_true, ite_false, true_and, and_true, Nat.reduceEqDiff, reduceIte, Int.reduceToNat, Bool.false_eq_true, qs_t, qs_str, qs_l, qs_s, qs_m, ov_l, ov_t, ov_s, ov_k, ov_m, ov_str, zp_ll, zp_tt, ex_two, ex_two0, ex_twoi, bi_lenl, bi_lent, bi_lens, bi_lenm, bi_lenstr, bi_abs, bi_max2, bi_min2, bi_sum, bi_inti, bi_intb, bi_stri, bi_listl, bi_listt, bi_lists, bi_listm, bi_tupl, bi_tups, bi_tupt, bi_tupm, r_get1, r_get2, m_get1i, m_get2i, eq_ni, eq_in, r_mm, m_append, m_extend, lst_mm, seq_mm, seq_l, seq_t, seq_s, seq_k, lst_l, lst_s, tup_t, tup_k, unp_t, unp_k, unp_l, own_l, own_mm, isNop, partE, exists_eq_left, ex_len, Bl.d]
    exact ⟨sz_le (by have := hs b hb'; omega), hkk⟩
  · rw [mdel_mput hL]
    exact f_refl (by rw [restr_self]; exact h)

theorem EnT.tos {bx : List (Str × Int)} {many : Nat} {e : En} (h : EnT bx many e) : e.tos.length ≤ 6 ∧ ∀ x ∈ e.tos, x < many := by
  cases e with
  | stop => simp [En.tos]
  | go x => exact ⟨by simp [En.tos], fun z hz => by rw [show z = x from by simpa [En.tos] using hz]; exact h⟩
  | tab d xs => exact ⟨h.2.2.1, h.2.2.2⟩
  | ife s a b x y => exact ⟨by simp [En.tos], fun z hz => by
    have : z = x ∨ z = y := by simpa [En.tos] using hz
    rcases this with rfl | rfl
    · exact h.2.2.2.1
    · exact h.2.2.2.2⟩

section
variable {M : Mem} {Q : VQ} {bx : List (Str × Int)} {bs : List Bl} {b : Bl}
theorem prD_ix0 : ixQ M (prD bx bs) (.int 0) Q = Q (.lst (bx.map bxD)) M := by unfold prD; rw [q_ixt]; exact ex_len (P := fun x => Q x M)
theorem prD_ix1 : ixQ M (prD bx bs) (.int 1) Q = Q (.lst (bs.map Bl.d)) M := by unfold prD; rw [q_ixt]; exact ex_len (P := fun x => Q x M)
theorem Bl_ix0 : ixQ M b.d (.int 0) Q = Q (.str b.nm) M := by unfold Bl.d; rw [q_ixt]; exact ex_len (P := fun x => Q x M)
theorem Bl_ix1 : ixQ M b.d (.int 1) Q = Q (.lst b.st) M := by unfold Bl.d; rw [q_ixt]; exact ex_len (P := fun x => Q x M)
theorem Bl_ix2 : ixQ M b.d (.int 2) Q = Q b.e.d M := by unfold Bl.d; rw [q_ixt]; exact ex_len (P := fun x => Q x M)
end

theorem strOk_sL {l : List Nat} (h : Low l) : PySem.PyData.strOk (sL l) = true := by
  unfold PySem.PyData.strOk
  rw [← Array.all_toList]
  refine List.all_eq_true.mpr fun c hc => ?_
  rw [sL_cps] at hc
  have := h c hc
  simp; omega
def nmD (l : List Nat) : D := .str (sL l)
theorem nm_at {ns : List (List Nat)} {i : Nat} (h : i < ns.length) : atI (ns.map nmD) (i : Int) = some (.str (sL ns[i])) := by rw [Ev.atI_nat, List.getElem?_map, List.getElem?_eq_getElem h]; rfl
theorem cut_map {α : Type} (f : α → D) (xs : List α) (lo hi : Option Int) : Ev.cutD (xs.map f) lo hi = (Ev.cutD xs lo hi).map f := by
  unfold Ev.cutD
  rw [List.length_map, List.map_take, List.map_drop]
theorem cut_len (xs : List Int) (a b : Nat) : (Ev.cutD xs (some (a : Int)) (some (b : Int))).length ≤ b - a := by
  unfold Ev.cutD
  rw [HT.sIx_nat, HT.sIx_nat, List.length_take, List.length_drop]
  omega
theorem cut_drop {α : Type} {xs : List α} {k : Nat} : Ev.cutD xs (some (k : Int)) none = xs.drop k := by
  unfold Ev.cutD
  rw [HT.sIx_nat, HT.sIx_none]
  by_cases h : k ≤ xs.length
  · rw [Nat.min_eq_left h, List.take_of_length_le (by simp)]
  · rw [Nat.min_eq_right (by omega), List.drop_eq_nil_of_le (by omega : xs.length ≤ k)]
    simp
theorem potM_ne {M : Mem} {p a : Addr} {c n : Int} (h : a ≠ p) : potM M p c n a = M a := mput_ne h
theorem cut_le {α : Type} (xs : List α) (lo hi : Option Int) : (Ev.cutD xs lo hi).length ≤ xs.length := by
  unfold Ev.cutD
  rw [List.length_take, List.length_drop]; omega
theorem cut_mem {α : Type} {xs : List α} {lo hi : Option Int} {x : α} (h : x ∈ Ev.cutD xs lo hi) : x ∈ xs := by
  unfold Ev.cutD at h
  exact List.mem_of_mem_drop (List.mem_of_mem_take h)
/-- a drawn number, the reel dropped behind it -/
theorem next_g (many : Nat) {k : Nat} {M M0 : Mem} {p : Addr} {m : Int} {Q : VQ} {W : WQ} (hp : Pot M p) (e : m = (many : Int)) (hm : 0 < many) (hb : many < 1000000)
  (h : ∀ (x : Nat) c' n', x < many → Q (.int (x : Int)) (restr M0 (potM M p c' n'))) : callK T gl (k + 1) "_law_take" [.mr p, .int m] M (frzQ M0 Q) W := by
  subst e
  obtain ⟨c, n, hp⟩ := hp
  refine next_ok hp (by omega) (log_s (by omega) (by omega)) fun x c' n' h0 h1 => ?_
  obtain ⟨x', rfl⟩ : ∃ x' : Nat, x = x' := ⟨x.toNat, by omega⟩
  exact f_refl (h x' c' n' (by omega))
theorem pot_sub {M : Mem} {p a : Addr} {c n : Int} (h : potM M p c n a = none) : M a = none := by
  by_cases e : a = p
  · subst e; unfold potM at h; rw [mput_same] at h; cases h
  · rw [potM_ne e] at h; exact h

theorem order_f {k : Nat} {M : Mem} {p : Addr} {many : Nat} {Q : VQ} {W : WQ} (hp : Pot M p) (hm : 0 < many) (hm2 : many ≤ 10)
  (h : ∀ (os : List Nat) c n, os.Perm (List.range many) → os.head? = some 0 → Q (.ft (os.map nD)) (potM M p c n)) : callK T gl (k + 2) "_law_order" [.mr p, .int many] M (frzQ M Q) W := by
  refine callK_intro (d := d__law_order) rfl rfl ?_
  simp only [Ev.wpS, Ev.wpE, Ev.wpA, Ev.wpT, ts_cons, ts_nil, Ev.wpB, Ev.wpI, lenE, List.map_cons, List.map_nil, List.length_cons, List.length_nil, List.replicate, Nat.reduceSub, Nat.reduceAdd, List.cons_append, List.nil_append, List.getElem?_cons_zero, List.getElem?_cons_succ, List.set_cons_zero, List.set_cons_succ, Option.some.injEq, exists_eq_left', q_add, q_adds, q_addt, q_addl, q_sub, q_mul, q_rep, q_mod, q_div, q_pow, q_ixl, q_ixs, q_ixt, q_ixk, q_ixstr, c_eq, c_ne, c_lt, c_le, c_gt, c_ge, c_is, c_isn, c_isb, c_isnb, c_in, c_nin, c_ii, c_ss, c_bb, l_new0, l_new1, D.bl.injEq, D.int.injEq, wipeD, atI_lit, ixN_lit, q_ixmm, u_eqm, cm_r, cm_l, cm_mod, cd_s, cp_s, tn_lit, s1, ite_dec, ite_ndec, Nat.reduceLT, Nat.reduceLeDiff, Int.reduceLT, Int.reduceLE, Int.reduceNeg, Int.reducePow, if_true, if_false, ite_true, ite_false, true_and, and_true, Nat.reduceEqDiff, reduceIte, Int.reduceToNat, Bool.false_eq_true, qs_t, qs_str, qs_l, qs_s, qs_m, ov_l, ov_t, ov_s, ov_k, ov_m, ov_str, zp_ll, zp_tt, ex_two, ex_two0, ex_twoi, bi_lenl, bi_lent, bi_lens, bi_lenm, bi_lenstr, bi_abs, bi_max2, bi_min2, bi_sum, bi_inti, bi_intb, bi_stri, bi_listl, bi_listt, bi_lists, bi_listm, bi_tupl, bi_tups, bi_tupt, bi_tupm, r_get1, r_get2, m_get1i, m_get2i, eq_ni, eq_in, r_mm, m_append, m_extend, lst_mm, seq_mm, seq_l, seq_t, seq_s, seq_k, lst_l, lst_s, tup_t, tup_k, unp_t, unp_k, unp_l, own_l, own_mm, isNop, partE, exists_eq_left, ex_len, q_ixf, ov_f, seq_f, tup_f, unp_f, bi_lenf, qs_f, d__law_order]
  refine ⟨by omega, fun L hL => ?_⟩
  have hr : rgD 1 (many : Int) = ((List.range (many - 1)).map fun i => i + 1).map nD := by
    unfold rgD
    rw [List.map_map, show ((many : Int) - 1).toNat = many - 1 from by omega]
    exact List.map_congr_left fun i _ => by show D.int (1 + (i : Int)) = D.int ((i + 1 : Nat) : Int); congr 1; omega
  rw [hr]
  generalize hls : (List.range (many - 1)).map (fun i => i + 1) = ls0
  have hperm0 : ([0] ++ ls0).Perm (List.range many) := by
    obtain ⟨m', rfl⟩ : ∃ m', many = m' + 1 := ⟨many - 1, by omega⟩
    rw [List.range_succ_eq_map, ← hls, Nat.add_sub_cancel]
    exact List.Perm.refl _
  have hl0 : ls0.length = many - 1 := by rw [← hls]; simp
  refine cmap ls0 nD nD (Nat.le_of_lt (len_lt (by omega))) (fun _ => trivial) (fun x _ acc kk hk => hk) ?_
  intro b hb
  have hpL := pot_ne hp hL
  have hpb : p ≠ b := pot_ne (hp.new hL) hb
  have hLb : L ≠ b := by rintro rfl; rw [mput_same] at hb; cases hb
  have hbM : M b = none := by rw [mput_ne hLb.symm] at hb; exact hb
  obtain ⟨c0, n0, e0⟩ := pot_start hp
  rw [mput_comm hLb]
  refine ⟨many - 1 + 1, while_ind (fun j σ' M' => ∃ c n, ∃ ls os : List Nat, σ' = [some (.mr p), some (.int many), some (.mr L), some (.mr b), none] ∧ M' = mput (mput (potM M p c n) b (.lst (os.map nD))) L (.lst (ls.map nD)) ∧ ls.length = j ∧ os.length + ls.length = many ∧ (os ++ ls).Perm (List.range many) ∧ os.head? = some 0)
    ?_ (many - 1) _ _ ⟨c0, n0, ls0, [0], rfl, by rw [← e0]; rfl, hl0, by simp; omega, hperm0, rfl⟩⟩
  rintro j σ' M' kk ⟨c, n, ls, os, rfl, rfl, hl, hlen, hperm, hhd⟩ hk
  have hMb : ∀ c n (x y : List Nat), (mput (mput (potM M p c n) b (.lst (y.map nD))) L (.lst (x.map nD))) b = some (.lst (y.map nD)) := fun c n x y => by rw [mput_ne hLb.symm]; exact mput_same
  simp only [Ev.wpS, Ev.wpE, Ev.wpA, Ev.wpT, ts_cons, ts_nil, Ev.wpB, Ev.wpI, lenE, List.map_cons, List.map_nil, List.length_cons, List.length_nil, List.replicate, Nat.reduceSub, Nat.reduceAdd, List.cons_append, List.nil_append, List.getElem?_cons_zero, List.getElem?_cons_succ, List.set_cons_zero, List.set_cons_succ, Option.some.injEq, exists_eq_left', q_add, q_adds, q_addt, q_addl, q_sub, q_mul, q_rep, q_mod, q_div, q_pow, q_ixl, q_ixs, q_ixt, q_ixk, q_ixstr, c_eq, c_ne, c_lt, c_le, c_gt, c_ge, c_is, c_isn, c_isb, c_isnb, c_in, c_nin, c_ii, c_ss, c_bb, l_new0, l_new1, D.bl.injEq, D.int.injEq, wipeD, atI_lit, ixN_lit, q_ixmm, u_eqm, cm_r, cm_l, cm_mod, cd_s, cp_s, tn_lit, s1, ite_dec, ite_ndec, Nat.reduceLT, Nat.reduceLeDiff, Int.reduceLT, Int.reduceLE, Int.reduceNeg, Int.reducePow, if_true, if_false, ite_true, ite_false, true_and, and_true, Nat.reduceEqDiff, reduceIte, Int.reduceToNat, Bool.false_eq_true, qs_t, qs_str, qs_l, qs_s, qs_m, ov_l, ov_t, ov_s, ov_k, ov_m, ov_str, zp_ll, zp_tt, ex_two, ex_two0, ex_twoi, bi_lenl, bi_lent, bi_lens, bi_lenm, bi_lenstr, bi_abs, bi_max2, bi_min2, bi_sum, bi_inti, bi_intb, bi_stri, bi_listl, bi_listt, bi_lists, bi_listm, bi_tupl, bi_tups, bi_tupt, bi_tupm, r_get1, r_get2, m_get1i, m_get2i, eq_ni, eq_in, r_mm, m_append, m_extend, lst_mm, seq_mm, seq_l, seq_t, seq_s, seq_k, lst_l, lst_s, tup_t, tup_k, unp_t, unp_k, unp_l, own_l, own_mm, isNop, partE, exists_eq_left, ex_len, q_ixf, ov_f, seq_f, tup_f, unp_f, bi_lenf, qs_f]
  refine eq_nil (n := 0) (fineL_map fun x _ => fine_int _) (by decide) ?_
  by_cases hnil : ls.map nD = []
  · simp only [hnil, decide_true, Bool.not_true, Bool.false_eq_true, if_false]
    have hls : ls = [] := by simpa using hnil
    subst hls
    show ∃ es, lstOf _ (.mr b) = some es ∧ frzQ M Q (.ft es) _
    refine ⟨os.map nD, (IsL.mr (hMb c n [] os)).lstOf, f_refl ?_⟩
    rw [restr_new hL, restr_new hbM, restr_pot hp]
    exact h os c n (by simpa using hperm) hhd
  · simp only [hnil, decide_false, Bool.not_false, if_true]
    have hlp : 0 < ls.length := List.length_pos_iff.mpr fun e => hnil (by rw [e]; rfl)
    refine ⟨rh (hMb c n ls os) trivial, ?_⟩
    simp only [Ev.wpS, Ev.wpE, Ev.wpA, Ev.wpT, ts_cons, ts_nil, Ev.wpB, Ev.wpI, lenE, List.map_cons, List.map_nil, List.length_cons, List.length_nil, List.replicate, Nat.reduceSub, Nat.reduceAdd, List.cons_append, List.nil_append, List.getElem?_cons_zero, List.getElem?_cons_succ, List.set_cons_zero, List.set_cons_succ, Option.some.injEq, exists_eq_left', q_add, q_adds, q_addt, q_addl, q_sub, q_mul, q_rep, q_mod, q_div, q_pow, q_ixl, q_ixs, q_ixt, q_ixk, q_ixstr, c_eq, c_ne, c_lt, c_le, c_gt, c_ge, c_is, c_isn, c_isb, c_isnb, c_in, c_nin, c_ii, c_ss, c_bb, l_new0, l_new1, D.bl.injEq, D.int.injEq, wipeD, atI_lit, ixN_lit, q_ixmm, u_eqm, cm_r, cm_l, cm_mod, cd_s, cp_s, tn_lit, s1, ite_dec, ite_ndec, Nat.reduceLT, Nat.reduceLeDiff, Int.reduceLT, Int.reduceLE, Int.reduceNeg, Int.reducePow, if_true, if_false, ite_true, ite_false, true_and, and_true, Nat.reduceEqDiff, reduceIte, Int.reduceToNat, Bool.false_eq_true, qs_t, qs_str, qs_l, qs_s, qs_m, ov_l, ov_t, ov_s, ov_k, ov_m, ov_str, zp_ll, zp_tt, ex_two, ex_two0, ex_twoi, bi_lenl, bi_lent, bi_lens, bi_lenm, bi_lenstr, bi_abs, bi_max2, bi_min2, bi_sum, bi_inti, bi_intb, bi_stri, bi_listl, bi_listt, bi_lists, bi_listm, bi_tupl, bi_tups, bi_tupt, bi_tupm, r_get1, r_get2, m_get1i, m_get2i, eq_ni, eq_in, r_mm, m_append, m_extend, lst_mm, seq_mm, seq_l, seq_t, seq_s, seq_k, lst_l, lst_s, tup_t, tup_k, unp_t, unp_k, unp_l, own_l, own_mm, isNop, partE, exists_eq_left, ex_len, q_ixf, ov_f, seq_f, tup_f, unp_f, bi_lenf, qs_f, List.length_map]
    refine next_n ls.length (pot_mput hpL (pot_mput hpb .same)) rfl hlp (by omega) fun v c n hv => ?_
    rw [potM_mput hpL, potM_mput hpb, potM_potM]
    refine m_popAt (y := nD ls[v]) (by rw [List.getElem?_map, List.getElem?_eq_getElem hv]; rfl) (by omega) ?_
    rw [erase_map]
    refine mh_append (hMb c n _ os) (len_lt (by rw [List.length_map]; omega)) ?_
    rw [mput_comm hLb, mput_mput]
    refine hk (j - 1) _ _ (by omega) ⟨c, n, ls.eraseIdx v, os ++ [ls[v]], rfl, by rw [List.map_append]; rfl, by rw [List.length_eraseIdx_of_lt hv]; omega, by rw [List.length_eraseIdx_of_lt hv]; simp; omega, ?_, by cases os with | nil => cases hhd | cons x r => exact hhd⟩
    rw [List.append_assoc]
    exact List.Perm.trans (List.Perm.append_left os (erase_perm hv)) hperm

theorem endrows_f {k : Nat} {M : Mem} {e : En} {af : Option Nat} {Q : VQ} {W : WQ} (h : Q (.lst ((endRows e af).map Rw.d)) M) : callK T gl (k + 1) "end_rows" [e.d, aD af] M (frzQ M Q) W := by
  refine callK_intro (d := d_end_rows) rfl rfl ?_
  have fin : ∀ l : List Rw, endRows e af = l → frzQ M Q (.lst (l.map Rw.d)) M := fun l e => f_refl (by rw [restr_self, ← e]; exact h)
  cases e with
  | stop =>
    simp only [Ev.wpS, Ev.wpE, Ev.wpA, Ev.wpT, ts_cons, ts_nil, Ev.wpB, Ev.wpI, lenE, List.map_cons, List.map_nil, List.length_cons, List.length_nil, List.replicate, Nat.reduceSub, Nat.reduceAdd, List.cons_append, List.nil_append, List.getElem?_cons_zero, List.getElem?_cons_succ, List.set_cons_zero, List.set_cons_succ, Option.some.injEq, exists_eq_left', q_add, q_adds, q_addt, q_addl, q_sub, q_mul, q_rep, q_mod, q_div, q_pow, q_ixl, q_ixs, q_ixt, q_ixk, q_ixstr, c_eq, c_ne, c_lt, c_le, c_gt, c_ge, c_is, c_isn, c_isb, c_isnb, c_in, c_nin, c_ii, c_ss, c_bb, l_new0, l_new1, D.bl.injEq, D.int.injEq, wipeD, atI_lit, ixN_lit, q_ixmm, u_eqm, cm_r, cm_l, cm_mod, cd_s, cp_s, tn_lit, s1, ite_dec, ite_ndec, Nat.reduceLT, Nat.reduceLeDiff, Int.reduceLT, Int.reduceLE, Int.reduceNeg, Int.reducePow, if_true, if_false, ite_true, ite_false, true_and, and_true, Nat.reduceEqDiff, reduceIte, Int.reduceToNat, Bool.false_eq_true, qs_t, qs_str, qs_l, qs_s, qs_m, ov_l, ov_t, ov_s, ov_k, ov_m, ov_str, zp_ll, zp_tt, ex_two, ex_two0, ex_twoi, bi_lenl, bi_lent, bi_lens, bi_lenm, bi_lenstr, bi_abs, bi_max2, bi_min2, bi_sum, bi_inti, bi_intb, bi_stri, bi_listl, bi_listt, bi_lists, bi_listm, bi_tupl, bi_tups, bi_tupt, bi_tupm, r_get1, r_get2, m_get1i, m_get2i, eq_ni, eq_in, r_mm, m_append, m_extend, lst_mm, seq_mm, seq_l, seq_t, seq_s, seq_k, lst_l, lst_s, tup_t, tup_k, unp_t, unp_k, unp_l, own_l, own_mm, isNop, partE, exists_eq_left, ex_len, ne_stop_go, ne_stop_if, ne_stop_table, ne_stop_jump, ne_stop_when, ne_stop_unless, ne_go_stop, ne_go_if, ne_go_table, ne_go_jump, ne_go_when, ne_go_unless, ne_if_stop, ne_if_go, ne_if_table, ne_if_jump, ne_if_when, ne_if_unless, ne_table_stop, ne_table_go, ne_table_if, ne_table_jump, ne_table_when, ne_table_unless, ne_jump_stop, ne_jump_go, ne_jump_if, ne_jump_table, ne_jump_when, ne_jump_unless, ne_when_stop, ne_when_go, ne_when_if, ne_when_table, ne_when_jump, ne_when_unless, ne_unless_stop, ne_unless_go, ne_unless_if, ne_unless_table, ne_unless_jump, ne_unless_when, d_end_rows, En.d]
    exact fin _ rfl
  | tab e xs =>
    simp only [Ev.wpS, Ev.wpE, Ev.wpA, Ev.wpT, ts_cons, ts_nil, Ev.wpB, Ev.wpI, lenE, List.map_cons, List.map_nil, List.length_cons, List.length_nil, List.replicate, Nat.reduceSub, Nat.reduceAdd, List.cons_append, List.nil_append, List.getElem?_cons_zero, List.getElem?_cons_succ, List.set_cons_zero, List.set_cons_succ, Option.some.injEq, exists_eq_left', q_add, q_adds, q_addt, q_addl, q_sub, q_mul, q_rep, q_mod, q_div, q_pow, q_ixl, q_ixs, q_ixt, q_ixk, q_ixstr, c_eq, c_ne, c_lt, c_le, c_gt, c_ge, c_is, c_isn, c_isb, c_isnb, c_in, c_nin, c_ii, c_ss, c_bb, l_new0, l_new1, D.bl.injEq, D.int.injEq, wipeD, atI_lit, ixN_lit, q_ixmm, u_eqm, cm_r, cm_l, cm_mod, cd_s, cp_s, tn_lit, s1, ite_dec, ite_ndec, Nat.reduceLT, Nat.reduceLeDiff, Int.reduceLT, Int.reduceLE, Int.reduceNeg, Int.reducePow, if_true, if_false, ite_true, ite_false, true_and, and_true, Nat.reduceEqDiff, reduceIte, Int.reduceToNat, Bool.false_eq_true, qs_t, qs_str, qs_l, qs_s, qs_m, ov_l, ov_t, ov_s, ov_k, ov_m, ov_str, zp_ll, zp_tt, ex_two, ex_two0, ex_twoi, bi_lenl, bi_lent, bi_lens, bi_lenm, bi_lenstr, bi_abs, bi_max2, bi_min2, bi_sum, bi_inti, bi_intb, bi_stri, bi_listl, bi_listt, bi_lists, bi_listm, bi_tupl, bi_tups, bi_tupt, bi_tupm, r_get1, r_get2, m_get1i, m_get2i, eq_ni, eq_in, r_mm, m_append, m_extend, lst_mm, seq_mm, seq_l, seq_t, seq_s, seq_k, lst_l, lst_s, tup_t, tup_k, unp_t, unp_k, unp_l, own_l, own_mm, isNop, partE, exists_eq_left, ex_len, ne_stop_go, ne_stop_if, ne_stop_table, ne_stop_jump, ne_stop_when, ne_stop_unless, ne_go_stop, ne_go_if, ne_go_table, ne_go_jump, ne_go_when, ne_go_unless, ne_if_stop, ne_if_go, ne_if_table, ne_if_jump, ne_if_when, ne_if_unless, ne_table_stop, ne_table_go, ne_table_if, ne_table_jump, ne_table_when, ne_table_unless, ne_jump_stop, ne_jump_go, ne_jump_if, ne_jump_table, ne_jump_when, ne_jump_unless, ne_when_stop, ne_when_go, ne_when_if, ne_when_table, ne_when_jump, ne_when_unless, ne_unless_stop, ne_unless_go, ne_unless_if, ne_unless_table, ne_unless_jump, ne_unless_when, d_end_rows, En.d]
    exact fin _ rfl
  | go x =>
    simp only [Ev.wpS, Ev.wpE, Ev.wpA, Ev.wpT, ts_cons, ts_nil, Ev.wpB, Ev.wpI, lenE, List.map_cons, List.map_nil, List.length_cons, List.length_nil, List.replicate, Nat.reduceSub, Nat.reduceAdd, List.cons_append, List.nil_append, List.getElem?_cons_zero, List.getElem?_cons_succ, List.set_cons_zero, List.set_cons_succ, Option.some.injEq, exists_eq_left', q_add, q_adds, q_addt, q_addl, q_sub, q_mul, q_rep, q_mod, q_div, q_pow, q_ixl, q_ixs, q_ixt, q_ixk, q_ixstr, c_eq, c_ne, c_lt, c_le, c_gt, c_ge, c_is, c_isn, c_isb, c_isnb, c_in, c_nin, c_ii, c_ss, c_bb, l_new0, l_new1, D.bl.injEq, D.int.injEq, wipeD, atI_lit, ixN_lit, q_ixmm, u_eqm, cm_r, cm_l, cm_mod, cd_s, cp_s, tn_lit, s1, ite_dec, ite_ndec, Nat.reduceLT, Nat.reduceLeDiff, Int.reduceLT, Int.reduceLE, Int.reduceNeg, Int.reducePow, if_true, if_false, ite_true, ite_false, true_and, and_true, Nat.reduceEqDiff, reduceIte, Int.reduceToNat, Bool.false_eq_true, qs_t, qs_str, qs_l, qs_s, qs_m, ov_l, ov_t, ov_s, ov_k, ov_m, ov_str, zp_ll, zp_tt, ex_two, ex_two0, ex_twoi, bi_lenl, bi_lent, bi_lens, bi_lenm, bi_lenstr, bi_abs, bi_max2, bi_min2, bi_sum, bi_inti, bi_intb, bi_stri, bi_listl, bi_listt, bi_lists, bi_listm, bi_tupl, bi_tups, bi_tupt, bi_tupm, r_get1, r_get2, m_get1i, m_get2i, eq_ni, eq_in, r_mm, m_append, m_extend, lst_mm, seq_mm, seq_l, seq_t, seq_s, seq_k, lst_l, lst_s, tup_t, tup_k, unp_t, unp_k, unp_l, own_l, own_mm, isNop, partE, exists_eq_left, ex_len, ne_stop_go, ne_stop_if, ne_stop_table, ne_stop_jump, ne_stop_when, ne_stop_unless, ne_go_stop, ne_go_if, ne_go_table, ne_go_jump, ne_go_when, ne_go_unless, ne_if_stop, ne_if_go, ne_if_table, ne_if_jump, ne_if_when, ne_if_unless, ne_table_stop, ne_table_go, ne_table_if, ne_table_jump, ne_table_when, ne_table_unless, ne_jump_stop, ne_jump_go, ne_jump_if, ne_jump_table, ne_jump_when, ne_jump_unless, ne_when_stop, ne_when_go, ne_when_if, ne_when_table, ne_when_jump, ne_when_unless, ne_unless_stop, ne_unless_go, ne_unless_if, ne_unless_table, ne_unless_jump, ne_unless_when, d_end_rows, En.d, aD_eq, atL (xs := [D.str "go", nD x]) (x := nD x) rfl]
    by_cases e : af = some x
    · rw [if_pos e]; exact fin [] (by simp [endRows, e])
    · rw [if_neg e]; exact fin [.jump x] (by simp [endRows, e])
  | ife s a b x y =>
    simp only [Ev.wpS, Ev.wpE, Ev.wpA, Ev.wpT, ts_cons, ts_nil, Ev.wpB, Ev.wpI, lenE, List.map_cons, List.map_nil, List.length_cons, List.length_nil, List.replicate, Nat.reduceSub, Nat.reduceAdd, List.cons_append, List.nil_append, List.getElem?_cons_zero, List.getElem?_cons_succ, List.set_cons_zero, List.set_cons_succ, Option.some.injEq, exists_eq_left', q_add, q_adds, q_addt, q_addl, q_sub, q_mul, q_rep, q_mod, q_div, q_pow, q_ixl, q_ixs, q_ixt, q_ixk, q_ixstr, c_eq, c_ne, c_lt, c_le, c_gt, c_ge, c_is, c_isn, c_isb, c_isnb, c_in, c_nin, c_ii, c_ss, c_bb, l_new0, l_new1, D.bl.injEq, D.int.injEq, wipeD, atI_lit, ixN_lit, q_ixmm, u_eqm, cm_r, cm_l, cm_mod, cd_s, cp_s, tn_lit, s1, ite_dec, ite_ndec, Nat.reduceLT, Nat.reduceLeDiff, Int.reduceLT, Int.reduceLE, Int.reduceNeg, Int.reducePow, if_true, if_false, ite_true, ite_false, true_and, and_true, Nat.reduceEqDiff, reduceIte, Int.reduceToNat, Bool.false_eq_true, qs_t, qs_str, qs_l, qs_s, qs_m, ov_l, ov_t, ov_s, ov_k, ov_m, ov_str, zp_ll, zp_tt, ex_two, ex_two0, ex_twoi, bi_lenl, bi_lent, bi_lens, bi_lenm, bi_lenstr, bi_abs, bi_max2, bi_min2, bi_sum, bi_inti, bi_intb, bi_stri, bi_listl, bi_listt, bi_lists, bi_listm, bi_tupl, bi_tups, bi_tupt, bi_tupm, r_get1, r_get2, m_get1i, m_get2i, eq_ni, eq_in, r_mm, m_append, m_extend, lst_mm, seq_mm, seq_l, seq_t, seq_s, seq_k, lst_l, lst_s, tup_t, tup_k, unp_t, unp_k, unp_l, own_l, own_mm, isNop, partE, exists_eq_left, ex_len, ne_stop_go, ne_stop_if, ne_stop_table, ne_stop_jump, ne_stop_when, ne_stop_unless, ne_go_stop, ne_go_if, ne_go_table, ne_go_jump, ne_go_when, ne_go_unless, ne_if_stop, ne_if_go, ne_if_table, ne_if_jump, ne_if_when, ne_if_unless, ne_table_stop, ne_table_go, ne_table_if, ne_table_jump, ne_table_when, ne_table_unless, ne_jump_stop, ne_jump_go, ne_jump_if, ne_jump_table, ne_jump_when, ne_jump_unless, ne_when_stop, ne_when_go, ne_when_if, ne_when_table, ne_when_jump, ne_when_unless, ne_unless_stop, ne_unless_go, ne_unless_if, ne_unless_table, ne_unless_jump, ne_unless_when, d_end_rows, En.d, aD_eq, Int.natCast_inj, atL (xs := [D.str "if", D.str s, a, b, nD x, nD y]) (x := nD y) rfl]
    by_cases e0 : x = y
    · rw [if_pos e0]
      by_cases e : af = some y
      · rw [if_pos e]; exact fin [] (by simp [endRows, e, e0])
      · rw [if_neg e]; exact fin [.jump y] (by simp [endRows, e, e0])
    · rw [if_neg e0]
      by_cases e : af = some x
      · rw [if_pos e]; exact fin [.unl s a b y] (by simp [endRows, e, e0])
      · rw [if_neg e]
        by_cases e2 : af = some y
        · rw [if_pos e2]; exact fin [.whn s a b x] (by simp [endRows, e0, e2]; intro h; exact absurd h.symm e0)
        · rw [if_neg e2]; exact fin [.whn s a b x, .jump y] (by simp [endRows, e, e0, e2])
theorem places_f {k : Nat} {M : Mem} {a : Addr} {kvs : List (Key × D)} {pl : Nat → Nat} {r : Rw} {Q : VQ} {W : WQ} (ha : M a = some (.dK kvs)) (hk : ∀ x ∈ r.tos, getK kvs (.inl (x : Int)) = some (nD (pl x))) (hr : ∀ d, r = .st d → StOk d) (hl : r.tos.length ≤ 1000)
  (h : Q (r.mv pl).d M) : callK T gl (k + 1) "with_places" [r.d, .mr a] M (frzQ M Q) W := by
  refine callK_intro (d := d_with_places) rfl rfl ?_
  cases r with
  | st d =>
    obtain ⟨s, r, rfl, h1, h2, h3, h4⟩ := hr d rfl
    simp only [Ev.wpS, Ev.wpE, Ev.wpA, Ev.wpT, ts_cons, ts_nil, Ev.wpB, Ev.wpI, lenE, List.map_cons, List.map_nil, List.length_cons, List.length_nil, List.replicate, Nat.reduceSub, Nat.reduceAdd, List.cons_append, List.nil_append, List.getElem?_cons_zero, List.getElem?_cons_succ, List.set_cons_zero, List.set_cons_succ, Option.some.injEq, exists_eq_left', q_add, q_adds, q_addt, q_addl, q_sub, q_mul, q_rep, q_mod, q_div, q_pow, q_ixl, q_ixs, q_ixt, q_ixk, q_ixstr, c_eq, c_ne, c_lt, c_le, c_gt, c_ge, c_is, c_isn, c_isb, c_isnb, c_in, c_nin, c_ii, c_ss, c_bb, l_new0, l_new1, D.bl.injEq, D.int.injEq, wipeD, atI_lit, ixN_lit, q_ixmm, u_eqm, cm_r, cm_l, cm_mod, cd_s, cp_s, tn_lit, s1, ite_dec, ite_ndec, Nat.reduceLT, Nat.reduceLeDiff, Int.reduceLT, Int.reduceLE, Int.reduceNeg, Int.reducePow, if_true, if_false, ite_true, ite_false, true_and, and_true, Nat.reduceEqDiff, reduceIte, Int.reduceToNat, Bool.false_eq_true, qs_t, qs_str, qs_l, qs_s, qs_m, ov_l, ov_t, ov_s, ov_k, ov_m, ov_str, zp_ll, zp_tt, ex_two, ex_two0, ex_twoi, bi_lenl, bi_lent, bi_lens, bi_lenm, bi_lenstr, bi_abs, bi_max2, bi_min2, bi_sum, bi_inti, bi_intb, bi_stri, bi_listl, bi_listt, bi_lists, bi_listm, bi_tupl, bi_tups, bi_tupt, bi_tupm, r_get1, r_get2, m_get1i, m_get2i, eq_ni, eq_in, r_mm, m_append, m_extend, lst_mm, seq_mm, seq_l, seq_t, seq_s, seq_k, lst_l, lst_s, tup_t, tup_k, unp_t, unp_k, unp_l, own_l, own_mm, isNop, partE, exists_eq_left, ex_len, ne_stop_go, ne_stop_if, ne_stop_table, ne_stop_jump, ne_stop_when, ne_stop_unless, ne_go_stop, ne_go_if, ne_go_table, ne_go_jump, ne_go_when, ne_go_unless, ne_if_stop, ne_if_go, ne_if_table, ne_if_jump, ne_if_when, ne_if_unless, ne_table_stop, ne_table_go, ne_table_if, ne_table_jump, ne_table_when, ne_table_unless, ne_jump_stop, ne_jump_go, ne_jump_if, ne_jump_table, ne_jump_when, ne_jump_unless, ne_when_stop, ne_when_go, ne_when_if, ne_when_table, ne_when_jump, ne_when_unless, ne_unless_stop, ne_unless_go, ne_unless_if, ne_unless_table, ne_unless_jump, ne_unless_when, d_with_places, Rw.d, in3t, h1, h2, h3, h4, or_self, Ev.atI_lit, atI_lit]
    exact f_refl (by rw [restr_self]; exact h)
  | stop =>
    simp only [Ev.wpS, Ev.wpE, Ev.wpA, Ev.wpT, ts_cons, ts_nil, Ev.wpB, Ev.wpI, lenE, List.map_cons, List.map_nil, List.length_cons, List.length_nil, List.replicate, Nat.reduceSub, Nat.reduceAdd, List.cons_append, List.nil_append, List.getElem?_cons_zero, List.getElem?_cons_succ, List.set_cons_zero, List.set_cons_succ, Option.some.injEq, exists_eq_left', q_add, q_adds, q_addt, q_addl, q_sub, q_mul, q_rep, q_mod, q_div, q_pow, q_ixl, q_ixs, q_ixt, q_ixk, q_ixstr, c_eq, c_ne, c_lt, c_le, c_gt, c_ge, c_is, c_isn, c_isb, c_isnb, c_in, c_nin, c_ii, c_ss, c_bb, l_new0, l_new1, D.bl.injEq, D.int.injEq, wipeD, atI_lit, ixN_lit, q_ixmm, u_eqm, cm_r, cm_l, cm_mod, cd_s, cp_s, tn_lit, s1, ite_dec, ite_ndec, Nat.reduceLT, Nat.reduceLeDiff, Int.reduceLT, Int.reduceLE, Int.reduceNeg, Int.reducePow, if_true, if_false, ite_true, ite_false, true_and, and_true, Nat.reduceEqDiff, reduceIte, Int.reduceToNat, Bool.false_eq_true, qs_t, qs_str, qs_l, qs_s, qs_m, ov_l, ov_t, ov_s, ov_k, ov_m, ov_str, zp_ll, zp_tt, ex_two, ex_two0, ex_twoi, bi_lenl, bi_lent, bi_lens, bi_lenm, bi_lenstr, bi_abs, bi_max2, bi_min2, bi_sum, bi_inti, bi_intb, bi_stri, bi_listl, bi_listt, bi_lists, bi_listm, bi_tupl, bi_tups, bi_tupt, bi_tupm, r_get1, r_get2, m_get1i, m_get2i, eq_ni, eq_in, r_mm, m_append, m_extend, lst_mm, seq_mm, seq_l, seq_t, seq_s, seq_k, lst_l, lst_s, tup_t, tup_k, unp_t, unp_k, unp_l, own_l, own_mm, isNop, partE, exists_eq_left, ex_len, ne_stop_go, ne_stop_if, ne_stop_table, ne_stop_jump, ne_stop_when, ne_stop_unless, ne_go_stop, ne_go_if, ne_go_table, ne_go_jump, ne_go_when, ne_go_unless, ne_if_stop, ne_if_go, ne_if_table, ne_if_jump, ne_if_when, ne_if_unless, ne_table_stop, ne_table_go, ne_table_if, ne_table_jump, ne_table_when, ne_table_unless, ne_jump_stop, ne_jump_go, ne_jump_if, ne_jump_table, ne_jump_when, ne_jump_unless, ne_when_stop, ne_when_go, ne_when_if, ne_when_table, ne_when_jump, ne_when_unless, ne_unless_stop, ne_unless_go, ne_unless_if, ne_unless_table, ne_unless_jump, ne_unless_when, d_with_places, Rw.d, in3t, or_self]
    exact f_refl (by rw [restr_self]; exact h)
  | jump x =>
    simp only [Ev.wpS, Ev.wpE, Ev.wpA, Ev.wpT, ts_cons, ts_nil, Ev.wpB, Ev.wpI, lenE, List.map_cons, List.map_nil, List.length_cons, List.length_nil, List.replicate, Nat.reduceSub, Nat.reduceAdd, List.cons_append, List.nil_append, List.getElem?_cons_zero, List.getElem?_cons_succ, List.set_cons_zero, List.set_cons_succ, Option.some.injEq, exists_eq_left', q_add, q_adds, q_addt, q_addl, q_sub, q_mul, q_rep, q_mod, q_div, q_pow, q_ixl, q_ixs, q_ixt, q_ixk, q_ixstr, c_eq, c_ne, c_lt, c_le, c_gt, c_ge, c_is, c_isn, c_isb, c_isnb, c_in, c_nin, c_ii, c_ss, c_bb, l_new0, l_new1, D.bl.injEq, D.int.injEq, wipeD, atI_lit, ixN_lit, q_ixmm, u_eqm, cm_r, cm_l, cm_mod, cd_s, cp_s, tn_lit, s1, ite_dec, ite_ndec, Nat.reduceLT, Nat.reduceLeDiff, Int.reduceLT, Int.reduceLE, Int.reduceNeg, Int.reducePow, if_true, if_false, ite_true, ite_false, true_and, and_true, Nat.reduceEqDiff, reduceIte, Int.reduceToNat, Bool.false_eq_true, qs_t, qs_str, qs_l, qs_s, qs_m, ov_l, ov_t, ov_s, ov_k, ov_m, ov_str, zp_ll, zp_tt, ex_two, ex_two0, ex_twoi, bi_lenl, bi_lent, bi_lens, bi_lenm, bi_lenstr, bi_abs, bi_max2, bi_min2, bi_sum, bi_inti, bi_intb, bi_stri, bi_listl, bi_listt, bi_lists, bi_listm, bi_tupl, bi_tups, bi_tupt, bi_tupm, r_get1, r_get2, m_get1i, m_get2i, eq_ni, eq_in, r_mm, m_append, m_extend, lst_mm, seq_mm, seq_l, seq_t, seq_s, seq_k, lst_l, lst_s, tup_t, tup_k, unp_t, unp_k, unp_l, own_l, own_mm, isNop, partE, exists_eq_left, ex_len, ne_stop_go, ne_stop_if, ne_stop_table, ne_stop_jump, ne_stop_when, ne_stop_unless, ne_go_stop, ne_go_if, ne_go_table, ne_go_jump, ne_go_when, ne_go_unless, ne_if_stop, ne_if_go, ne_if_table, ne_if_jump, ne_if_when, ne_if_unless, ne_table_stop, ne_table_go, ne_table_if, ne_table_jump, ne_table_when, ne_table_unless, ne_jump_stop, ne_jump_go, ne_jump_if, ne_jump_table, ne_jump_when, ne_jump_unless, ne_when_stop, ne_when_go, ne_when_if, ne_when_table, ne_when_jump, ne_when_unless, ne_unless_stop, ne_unless_go, ne_unless_if, ne_unless_table, ne_unless_jump, ne_unless_when, d_with_places, Rw.d, in3t, or_true, or_false, false_or, true_or, eq_self, atL (xs := [D.str "jump", nD x]) (x := nD x) rfl, cut_init, q_ixd ha, hk x (by simp [Rw.tos])]
    exact ⟨(by decide : 2 ≤ sizeLine), f_refl (by rw [restr_self]; exact h)⟩
  | whn s p q x =>
    simp only [Ev.wpS, Ev.wpE, Ev.wpA, Ev.wpT, ts_cons, ts_nil, Ev.wpB, Ev.wpI, lenE, List.map_cons, List.map_nil, List.length_cons, List.length_nil, List.replicate, Nat.reduceSub, Nat.reduceAdd, List.cons_append, List.nil_append, List.getElem?_cons_zero, List.getElem?_cons_succ, List.set_cons_zero, List.set_cons_succ, Option.some.injEq, exists_eq_left', q_add, q_adds, q_addt, q_addl, q_sub, q_mul, q_rep, q_mod, q_div, q_pow, q_ixl, q_ixs, q_ixt, q_ixk, q_ixstr, c_eq, c_ne, c_lt, c_le, c_gt, c_ge, c_is, c_isn, c_isb, c_isnb, c_in, c_nin, c_ii, c_ss, c_bb, l_new0, l_new1, D.bl.injEq, D.int.injEq, wipeD, atI_lit, ixN_lit, q_ixmm, u_eqm, cm_r, cm_l, cm_mod, cd_s, cp_s, tn_lit, s1, ite_dec, ite_ndec, Nat.reduceLT, Nat.reduceLeDiff, Int.reduceLT, Int.reduceLE, Int.reduceNeg, Int.reducePow, if_true, if_false, ite_true, ite_false, true_and, and_true, Nat.reduceEqDiff, reduceIte, Int.reduceToNat, Bool.false_eq_true, qs_t, qs_str, qs_l, qs_s, qs_m, ov_l, ov_t, ov_s, ov_k, ov_m, ov_str, zp_ll, zp_tt, ex_two, ex_two0, ex_twoi, bi_lenl, bi_lent, bi_lens, bi_lenm, bi_lenstr, bi_abs, bi_max2, bi_min2, bi_sum, bi_inti, bi_intb, bi_stri, bi_listl, bi_listt, bi_lists, bi_listm, bi_tupl, bi_tups, bi_tupt, bi_tupm, r_get1, r_get2, m_get1i, m_get2i, eq_ni, eq_in, r_mm, m_append, m_extend, lst_mm, seq_mm, seq_l, seq_t, seq_s, seq_k, lst_l, lst_s, tup_t, tup_k, unp_t, unp_k, unp_l, own_l, own_mm, isNop, partE, exists_eq_left, ex_len, ne_stop_go, ne_stop_if, ne_stop_table, ne_stop_jump, ne_stop_when, ne_stop_unless, ne_go_stop, ne_go_if, ne_go_table, ne_go_jump, ne_go_when, ne_go_unless, ne_if_stop, ne_if_go, ne_if_table, ne_if_jump, ne_if_when, ne_if_unless, ne_table_stop, ne_table_go, ne_table_if, ne_table_jump, ne_table_when, ne_table_unless, ne_jump_stop, ne_jump_go, ne_jump_if, ne_jump_table, ne_jump_when, ne_jump_unless, ne_when_stop, ne_when_go, ne_when_if, ne_when_table, ne_when_jump, ne_when_unless, ne_unless_stop, ne_unless_go, ne_unless_if, ne_unless_table, ne_unless_jump, ne_unless_when, d_with_places, Rw.d, in3t, or_true, or_false, false_or, true_or, eq_self, atL (xs := [D.str "when", D.str s, p, q, nD x]) (x := nD x) rfl, cut_init, q_ixd ha, hk x (by simp [Rw.tos])]
    exact ⟨(by decide : 5 ≤ sizeLine), f_refl (by rw [restr_self]; exact h)⟩
  | unl s p q x =>
    simp only [Ev.wpS, Ev.wpE, Ev.wpA, Ev.wpT, ts_cons, ts_nil, Ev.wpB, Ev.wpI, lenE, List.map_cons, List.map_nil, List.length_cons, List.length_nil, List.replicate, Nat.reduceSub, Nat.reduceAdd, List.cons_append, List.nil_append, List.getElem?_cons_zero, List.getElem?_cons_succ, List.set_cons_zero, List.set_cons_succ, Option.some.injEq, exists_eq_left', q_add, q_adds, q_addt, q_addl, q_sub, q_mul, q_rep, q_mod, q_div, q_pow, q_ixl, q_ixs, q_ixt, q_ixk, q_ixstr, c_eq, c_ne, c_lt, c_le, c_gt, c_ge, c_is, c_isn, c_isb, c_isnb, c_in, c_nin, c_ii, c_ss, c_bb, l_new0, l_new1, D.bl.injEq, D.int.injEq, wipeD, atI_lit, ixN_lit, q_ixmm, u_eqm, cm_r, cm_l, cm_mod, cd_s, cp_s, tn_lit, s1, ite_dec, ite_ndec, Nat.reduceLT, Nat.reduceLeDiff, Int.reduceLT, Int.reduceLE, Int.reduceNeg, Int.reducePow, if_true, if_false, ite_true, ite_false, true_and, and_true, Nat.reduceEqDiff, reduceIte, Int.reduceToNat, Bool.false_eq_true, qs_t, qs_str, qs_l, qs_s, qs_m, ov_l, ov_t, ov_s, ov_k, ov_m, ov_str, zp_ll, zp_tt, ex_two, ex_two0, ex_twoi, bi_lenl, bi_lent, bi_lens, bi_lenm, bi_lenstr, bi_abs, bi_max2, bi_min2, bi_sum, bi_inti, bi_intb, bi_stri, bi_listl, bi_listt, bi_lists, bi_listm, bi_tupl, bi_tups, bi_tupt, bi_tupm, r_get1, r_get2, m_get1i, m_get2i, eq_ni, eq_in, r_mm, m_append, m_extend, lst_mm, seq_mm, seq_l, seq_t, seq_s, seq_k, lst_l, lst_s, tup_t, tup_k, unp_t, unp_k, unp_l, own_l, own_mm, isNop, partE, exists_eq_left, ex_len, ne_stop_go, ne_stop_if, ne_stop_table, ne_stop_jump, ne_stop_when, ne_stop_unless, ne_go_stop, ne_go_if, ne_go_table, ne_go_jump, ne_go_when, ne_go_unless, ne_if_stop, ne_if_go, ne_if_table, ne_if_jump, ne_if_when, ne_if_unless, ne_table_stop, ne_table_go, ne_table_if, ne_table_jump, ne_table_when, ne_table_unless, ne_jump_stop, ne_jump_go, ne_jump_if, ne_jump_table, ne_jump_when, ne_jump_unless, ne_when_stop, ne_when_go, ne_when_if, ne_when_table, ne_when_jump, ne_when_unless, ne_unless_stop, ne_unless_go, ne_unless_if, ne_unless_table, ne_unless_jump, ne_unless_when, d_with_places, Rw.d, in3t, or_true, or_false, false_or, true_or, eq_self, atL (xs := [D.str "unless", D.str s, p, q, nD x]) (x := nD x) rfl, cut_init, q_ixd ha, hk x (by simp [Rw.tos])]
    exact ⟨(by decide : 5 ≤ sizeLine), f_refl (by rw [restr_self]; exact h)⟩
  | tab e xs =>
    simp only [Ev.wpS, Ev.wpE, Ev.wpA, Ev.wpT, ts_cons, ts_nil, Ev.wpB, Ev.wpI, lenE, List.map_cons, List.map_nil, List.length_cons, List.length_nil, List.replicate, Nat.reduceSub, Nat.reduceAdd, List.cons_append, List.nil_append, List.getElem?_cons_zero, List.getElem?_cons_succ, List.set_cons_zero, List.set_cons_succ, Option.some.injEq, exists_eq_left', q_add, q_adds, q_addt, q_addl, q_sub, q_mul, q_rep, q_mod, q_div, q_pow, q_ixl, q_ixs, q_ixt, q_ixk, q_ixstr, c_eq, c_ne, c_lt, c_le, c_gt, c_ge, c_is, c_isn, c_isb, c_isnb, c_in, c_nin, c_ii, c_ss, c_bb, l_new0, l_new1, D.bl.injEq, D.int.injEq, wipeD, atI_lit, ixN_lit, q_ixmm, u_eqm, cm_r, cm_l, cm_mod, cd_s, cp_s, tn_lit, s1, ite_dec, ite_ndec, Nat.reduceLT, Nat.reduceLeDiff, Int.reduceLT, Int.reduceLE, Int.reduceNeg, Int.reducePow, if_true, if_false, ite_true, ite_false, true_and, and_true, Nat.reduceEqDiff, reduceIte, Int.reduceToNat, Bool.false_eq_true, qs_t, qs_str, qs_l, qs_s, qs_m, ov_l, ov_t, ov_s, ov_k, ov_m, ov_str, zp_ll, zp_tt, ex_two, ex_two0, ex_twoi, bi_lenl, bi_lent, bi_lens, bi_lenm, bi_lenstr, bi_abs, bi_max2, bi_min2, bi_sum, bi_inti, bi_intb, bi_stri, bi_listl, bi_listt, bi_lists, bi_listm, bi_tupl, bi_tups, bi_tupt, bi_tupm, r_get1, r_get2, m_get1i, m_get2i, eq_ni, eq_in, r_mm, m_append, m_extend, lst_mm, seq_mm, seq_l, seq_t, seq_s, seq_k, lst_l, lst_s, tup_t, tup_k, unp_t, unp_k, unp_l, own_l, own_mm, isNop, partE, exists_eq_left, ex_len, ne_stop_go, ne_stop_if, ne_stop_table, ne_stop_jump, ne_stop_when, ne_stop_unless, ne_go_stop, ne_go_if, ne_go_table, ne_go_jump, ne_go_when, ne_go_unless, ne_if_stop, ne_if_go, ne_if_table, ne_if_jump, ne_if_when, ne_if_unless, ne_table_stop, ne_table_go, ne_table_if, ne_table_jump, ne_table_when, ne_table_unless, ne_jump_stop, ne_jump_go, ne_jump_if, ne_jump_table, ne_jump_when, ne_jump_unless, ne_when_stop, ne_when_go, ne_when_if, ne_when_table, ne_when_jump, ne_when_unless, ne_unless_stop, ne_unless_go, ne_unless_if, ne_unless_table, ne_unless_jump, ne_unless_when, d_with_places, Rw.d, in3t, or_self]
    intro L hL
    refine cmap xs _ (fun x => nD (pl x)) (Nat.le_trans hl (by decide)) (fun _ => trivial) (fun x hx acc kk hkk => ?_) ?_
    · simp only [Ev.wpS, Ev.wpE, Ev.wpA, Ev.wpT, ts_cons, ts_nil, Ev.wpB, Ev.wpI, lenE, List.map_cons, List.map_nil, List.length_cons, List.length_nil, List.replicate, Nat.reduceSub, Nat.reduceAdd, List.cons_append, List.nil_append, List.getElem?_cons_zero, List.getElem?_cons_succ, List.set_cons_zero, List.set_cons_succ, Option.some.injEq, exists_eq_left', q_add, q_adds, q_addt, q_addl, q_sub, q_mul, q_rep, q_mod, q_div, q_pow, q_ixl, q_ixs, q_ixt, q_ixk, q_ixstr, c_eq, c_ne, c_lt, c_le, c_gt, c_ge, c_is, c_isn, c_isb, c_isnb, c_in, c_nin, c_ii, c_ss, c_bb, l_new0, l_new1, D.bl.injEq, D.int.injEq, wipeD, atI_lit, ixN_lit, q_ixmm, u_eqm, cm_r, cm_l, cm_mod, cd_s, cp_s, tn_lit, s1, ite_dec, ite_ndec, Nat.reduceLT, Nat.reduceLeDiff, Int.reduceLT, Int.reduceLE, Int.reduceNeg, Int.reducePow, if_true, if_false, ite_true, ite_false, true_and, and_true, Nat.reduceEqDiff, reduceIte, Int.reduceToNat, Bool.false_eq_true, qs_t, qs_str, qs_l, qs_s, qs_m, ov_l, ov_t, ov_s, ov_k, ov_m, ov_str, zp_ll, zp_tt, ex_two, ex_two0, ex_twoi, bi_lenl, bi_lent, bi_lens, bi_lenm, bi_lenstr, bi_abs, bi_max2, bi_min2, bi_sum, bi_inti, bi_intb, bi_stri, bi_listl, bi_listt, bi_lists, bi_listm, bi_tupl, bi_tups, bi_tupt, bi_tupm, r_get1, r_get2, m_get1i, m_get2i, eq_ni, eq_in, r_mm, m_append, m_extend, lst_mm, seq_mm, seq_l, seq_t, seq_s, seq_k, lst_l, lst_s, tup_t, tup_k, unp_t, unp_k, unp_l, own_l, own_mm, isNop, partE, exists_eq_left, ex_len, q_ixd (mput_get hL ha), hk x hx]
      exact hkk
    · rw [mdel_mput hL]
      refine f_refl ?_
      rw [restr_self, show xs.map (fun x => nD (pl x)) = (xs.map pl).map nD from by rw [List.map_map]; rfl]
      exact h

def seg (bs : List Bl) (os : List Nat) (j : Nat) : List Rw := match os[j]? with
  | none => []
  | some x => match bs[x]? with
    | none => []
    | some b => b.st.map Rw.st ++ endRows b.e os[j + 1]?
def rowsTo (bs : List Bl) (os : List Nat) (j : Nat) : List Rw := ((List.range j).map (seg bs os)).flatten
theorem rowsTo_succ (bs : List Bl) (os : List Nat) (j : Nat) : rowsTo bs os (j + 1) = rowsTo bs os j ++ seg bs os j := by
  unfold rowsTo
  rw [List.range_succ, List.map_append, List.flatten_append]; simp
/-- where a block's rows begin -/
def placeOf (bs : List Bl) (os : List Nat) (x : Nat) : Nat := (rowsTo bs os (os.idxOf x)).length
def laidF (bs : List Bl) (os : List Nat) : List Rw := (rowsTo bs os os.length).map (Rw.mv (placeOf bs os))
structure BlOk (many : Nat) (b : Bl) : Prop where
  st : ∀ d ∈ b.st, StOk d
  len : b.st.length ≤ 9
  tl : b.e.tos.length ≤ 6
  to : ∀ x ∈ b.e.tos, x < many
theorem endRows_len (e : En) (af : Option Nat) : (endRows e af).length ≤ 2 := by
  cases e <;> simp only [endRows] <;> repeat' split
  all_goals simp
theorem endRows_tos {e : En} {af : Option Nat} {r : Rw} (h : r ∈ endRows e af) : (∀ x ∈ r.tos, x ∈ e.tos) ∧ (r.tos.length ≤ e.tos.length ∨ r.tos.length ≤ 1) ∧ ∀ d, r ≠ .st d := by
  cases e with
  | stop => simp [endRows] at h; subst h; simp [Rw.tos]
  | tab e xs => simp [endRows] at h; subst h; simp [Rw.tos, En.tos]
  | go x =>
    simp only [endRows] at h
    split at h
    · cases h
    · simp at h; subst h; simp [Rw.tos, En.tos]
  | ife s a b x y =>
    simp only [endRows] at h
    repeat' split at h
    all_goals first | (cases h; done) | skip
    · simp at h; subst h; simp [Rw.tos, En.tos]
    · simp at h; subst h; simp [Rw.tos, En.tos]
    · simp at h; subst h; simp [Rw.tos, En.tos]
    · simp at h; rcases h with rfl | rfl <;> simp [Rw.tos, En.tos]
theorem seg_len {many : Nat} {bs : List Bl} (hb : ∀ b ∈ bs, BlOk many b) (os : List Nat) (j : Nat) : (seg bs os j).length ≤ 11 := by
  unfold seg
  split
  · simp
  · split
    · simp
    · rename_i b hb'
      have h1 := (hb b (List.mem_of_getElem? hb')).len
      have h2 := endRows_len b.e os[j + 1]?
      simp only [List.length_append, List.length_map]; omega
theorem rowsTo_len {many : Nat} {bs : List Bl} (hb : ∀ b ∈ bs, BlOk many b) (os : List Nat) (j : Nat) : (rowsTo bs os j).length ≤ 11 * j := by
  induction j with
  | zero => simp [rowsTo]
  | succ j ih =>
    have := seg_len hb os j
    rw [rowsTo_succ, List.length_append]; omega
theorem rowsTo_mem {many : Nat} {bs : List Bl} (hb : ∀ b ∈ bs, BlOk many b) (os : List Nat) {j : Nat} {r : Rw} (h : r ∈ rowsTo bs os j) : (∀ x ∈ r.tos, x < many) ∧ r.tos.length ≤ 6 ∧ ∀ d, r = .st d → StOk d := by
  induction j with
  | zero => simp [rowsTo] at h
  | succ j ih =>
    rw [rowsTo_succ] at h
    rcases List.mem_append.mp h with h | h
    · exact ih h
    · unfold seg at h
      split at h
      · cases h
      · split at h
        · cases h
        · rename_i b hb'
          have hB := hb b (List.mem_of_getElem? hb')
          rcases List.mem_append.mp h with h | h
          · obtain ⟨d, hd, rfl⟩ := List.mem_map.mp h
            exact ⟨fun _ h => (by cases h), by simp [Rw.tos], fun d' e => by cases e; exact hB.st d hd⟩
          · obtain ⟨h1, h2, h3⟩ := endRows_tos h
            refine ⟨fun x hx => hB.to x (h1 x hx), ?_, fun d e => absurd e (h3 d)⟩
            have := hB.tl
            rcases h2 with h2 | h2 <;> omega

theorem laid_ok {k : Nat} {M : Mem} {bs : List Bl} {os : List Nat} {x : D} {Q : VQ} {W : WQ} (hb : ∀ b ∈ bs, BlOk bs.length b) (hl : bs.length ≤ 10) (hn : os.Nodup) (ho : ∀ y ∈ os, y < bs.length) (ha : ∀ y, y < bs.length → y ∈ os) (hol : os.length ≤ 10)
  (h : ∀ L M', M L = none → M' L = some (.lst ((laidF bs os).map Rw.d)) → (∀ c o, M c = some o → M' c = some o) → Q (.mr L) M') : callK T gl (k + 2) "laid" [.tup [x, .lst (bs.map Bl.d)], .ft (os.map nD)] M Q W := by
  refine callK_intro (d := d_laid) rfl rfl ?_
  simp only [Ev.wpS, Ev.wpE, Ev.wpA, Ev.wpT, ts_cons, ts_nil, Ev.wpB, Ev.wpI, lenE, List.map_cons, List.map_nil, List.length_cons, List.length_nil, List.replicate, Nat.reduceSub, Nat.reduceAdd, List.cons_append, List.nil_append, List.getElem?_cons_zero, List.getElem?_cons_succ, List.set_cons_zero, List.set_cons_succ, Option.some.injEq, exists_eq_left', q_add, q_adds, q_addt, q_addl, q_sub, q_mul, q_rep, q_mod, q_div, q_pow, q_ixl, q_ixs, q_ixt, q_ixk, q_ixstr, c_eq, c_ne, c_lt, c_le, c_gt, c_ge, c_is, c_isn, c_isb, c_isnb, c_in, c_nin, c_ii, c_ss, c_bb, l_new0, l_new1, D.bl.injEq, D.int.injEq, wipeD, atI_lit, ixN_lit, q_ixmm, u_eqm, cm_r, cm_l, cm_mod, cd_s, cp_s, tn_lit, s1, ite_dec, ite_ndec, Nat.reduceLT, Nat.reduceLeDiff, Int.reduceLT, Int.reduceLE, Int.reduceNeg, Int.reducePow, if_true, if_false, ite_true, ite_false, true_and, and_true, Nat.reduceEqDiff, reduceIte, Int.reduceToNat, Bool.false_eq_true, qs_t, qs_str, qs_l, qs_s, qs_m, ov_l, ov_t, ov_s, ov_k, ov_m, ov_str, zp_ll, zp_tt, ex_two, ex_two0, ex_twoi, bi_lenl, bi_lent, bi_lens, bi_lenm, bi_lenstr, bi_abs, bi_max2, bi_min2, bi_sum, bi_inti, bi_intb, bi_stri, bi_listl, bi_listt, bi_lists, bi_listm, bi_tupl, bi_tups, bi_tupt, bi_tupm, r_get1, r_get2, m_get1i, m_get2i, eq_ni, eq_in, r_mm, m_append, m_extend, lst_mm, seq_mm, seq_l, seq_t, seq_s, seq_k, lst_l, lst_s, tup_t, tup_k, unp_t, unp_k, unp_l, own_l, own_mm, isNop, partE, exists_eq_left, ex_len, q_ixf, ov_f, seq_f, tup_f, unp_f, bi_lenf, qs_f, d_laid]
  intro a haM b hbM
  have hab : a ≠ b := by rintro rfl; rw [mput_same] at hbM; cases hbM
  have hbM : M b = none := by rw [mput_ne hab.symm] at hbM; exact hbM
  rw [enum_map]
  refine loop os.zipIdx _ (fun j σ' M' => ∃ e4 e5 e6 e7 e8 e9 kvs, σ' = [some (.tup [x, .lst (bs.map Bl.d)]), some (.ft (os.map nD)), some (.mr a), some (.mr b), e4, e5, e6, e7, e8, e9, none] ∧
      M' a = some (.lst ((rowsTo bs os j).map Rw.d)) ∧ M' b = some (.dK kvs) ∧ kvs.length ≤ j ∧ (∀ (i y : Nat), i < j → os[i]? = some y → getK kvs (.inl (y : Int)) = some (nD (rowsTo bs os i).length)) ∧ ∀ c o, M c = some o → M' c = some o)
    ⟨_, _, _, _, _, _, [], rfl, by rw [mput_ne hab]; exact mput_same, mput_same, Nat.le_refl _, fun _ _ h => absurd h (Nat.not_lt_zero _), fun c o hc => by rw [mput_ne (ne_of_some hbM hc), mput_ne (ne_of_some haM hc)]; exact hc⟩ ?_ ?_ ?_
  · intro n σ M _ _; trivial
  · rintro j ⟨y, j'⟩ hx σ' M' kk ⟨e4, e5, e6, e7, e8, e9, kvs, rfl, h1, h2, h3, h4, h5⟩ hk
    have hj : j' = j := by
      have := (List.getElem?_eq_some_iff.mp hx).2
      rw [List.getElem_zipIdx] at this; have e := congrArg Prod.snd this; simp at e; omega
    have hy : os[j]? = some y := by
      have := List.mem_zipIdx_iff_getElem?.mp (List.mem_of_getElem? hx)
      rw [← hj]; exact this
    subst hj
    have hyb := ho y (List.mem_of_getElem? hy)
    obtain ⟨bl, hbl⟩ : ∃ bl, bs[y]? = some bl := ⟨_, List.getElem?_eq_getElem hyb⟩
    have hB := hb bl (List.mem_of_getElem? hbl)
    have hjl : j' < os.length := (List.getElem?_eq_some_iff.mp hy).1
    have hrl := rowsTo_len hb os j'
    have tail : ∀ e7 e8 e9, Ev.wpS ⟨callK T gl (k + 1), gl⟩ W c_laid_0 [some (.tup [x, .lst (bs.map Bl.d)]), some (.ft (os.map nD)), some (.mr a), some (.mr b), some (nD j'), some (nD y), some (aD os[j' + 1]?), e7, e8, e9, none] M' ⟨kk, Q⟩ := by
      intro e7 e8 e9
      simp only [Ev.wpS, Ev.wpE, Ev.wpA, Ev.wpT, ts_cons, ts_nil, Ev.wpB, Ev.wpI, lenE, List.map_cons, List.map_nil, List.length_cons, List.length_nil, List.replicate, Nat.reduceSub, Nat.reduceAdd, List.cons_append, List.nil_append, List.getElem?_cons_zero, List.getElem?_cons_succ, List.set_cons_zero, List.set_cons_succ, Option.some.injEq, exists_eq_left', q_add, q_adds, q_addt, q_addl, q_sub, q_mul, q_rep, q_mod, q_div, q_pow, q_ixl, q_ixs, q_ixt, q_ixk, q_ixstr, c_eq, c_ne, c_lt, c_le, c_gt, c_ge, c_is, c_isn, c_isb, c_isnb, c_in, c_nin, c_ii, c_ss, c_bb, l_new0, l_new1, D.bl.injEq, D.int.injEq, wipeD, atI_lit, ixN_lit, q_ixmm, u_eqm, cm_r, cm_l, cm_mod, cd_s, cp_s, tn_lit, s1, ite_dec, ite_ndec, Nat.reduceLT, Nat.reduceLeDiff, Int.reduceLT, Int.reduceLE, Int.reduceNeg, Int.reducePow, if_true, if_false, ite_true, ite_false, true_and, and_true, Nat.reduceEqDiff, reduceIte, Int.reduceToNat, Bool.false_eq_true, qs_t, qs_str, qs_l, qs_s, qs_m, ov_l, ov_t, ov_s, ov_k, ov_m, ov_str, zp_ll, zp_tt, ex_two, ex_two0, ex_twoi, bi_lenl, bi_lent, bi_lens, bi_lenm, bi_lenstr, bi_abs, bi_max2, bi_min2, bi_sum, bi_inti, bi_intb, bi_stri, bi_listl, bi_listt, bi_lists, bi_listm, bi_tupl, bi_tups, bi_tupt, bi_tupm, r_get1, r_get2, m_get1i, m_get2i, eq_ni, eq_in, r_mm, m_append, m_extend, lst_mm, seq_mm, seq_l, seq_t, seq_s, seq_k, lst_l, lst_s, tup_t, tup_k, unp_t, unp_k, unp_l, own_l, own_mm, isNop, partE, exists_eq_left, ex_len, q_ixf, ov_f, seq_f, tup_f, unp_f, bi_lenf, qs_f, c_laid_0]
      refine ⟨bl.d, by rw [Ev.atI_nat, List.getElem?_map, hbl]; rfl, ?_⟩
      simp only [Ev.wpS, Ev.wpE, Ev.wpA, Ev.wpT, ts_cons, ts_nil, Ev.wpB, Ev.wpI, lenE, List.map_cons, List.map_nil, List.length_cons, List.length_nil, List.replicate, Nat.reduceSub, Nat.reduceAdd, List.cons_append, List.nil_append, List.getElem?_cons_zero, List.getElem?_cons_succ, List.set_cons_zero, List.set_cons_succ, Option.some.injEq, exists_eq_left', q_add, q_adds, q_addt, q_addl, q_sub, q_mul, q_rep, q_mod, q_div, q_pow, q_ixl, q_ixs, q_ixt, q_ixk, q_ixstr, c_eq, c_ne, c_lt, c_le, c_gt, c_ge, c_is, c_isn, c_isb, c_isnb, c_in, c_nin, c_ii, c_ss, c_bb, l_new0, l_new1, D.bl.injEq, D.int.injEq, wipeD, atI_lit, ixN_lit, q_ixmm, u_eqm, cm_r, cm_l, cm_mod, cd_s, cp_s, tn_lit, s1, ite_dec, ite_ndec, Nat.reduceLT, Nat.reduceLeDiff, Int.reduceLT, Int.reduceLE, Int.reduceNeg, Int.reducePow, if_true, if_false, ite_true, ite_false, true_and, and_true, Nat.reduceEqDiff, reduceIte, Int.reduceToNat, Bool.false_eq_true, qs_t, qs_str, qs_l, qs_s, qs_m, ov_l, ov_t, ov_s, ov_k, ov_m, ov_str, zp_ll, zp_tt, ex_two, ex_two0, ex_twoi, bi_lenl, bi_lent, bi_lens, bi_lenm, bi_lenstr, bi_abs, bi_max2, bi_min2, bi_sum, bi_inti, bi_intb, bi_stri, bi_listl, bi_listt, bi_lists, bi_listm, bi_tupl, bi_tups, bi_tupt, bi_tupm, r_get1, r_get2, m_get1i, m_get2i, eq_ni, eq_in, r_mm, m_append, m_extend, lst_mm, seq_mm, seq_l, seq_t, seq_s, seq_k, lst_l, lst_s, tup_t, tup_k, unp_t, unp_k, unp_l, own_l, own_mm, isNop, partE, exists_eq_left, ex_len, q_ixf, ov_f, seq_f, tup_f, unp_f, bi_lenf, qs_f, Bl.d, mh_len h1, List.length_map]
      refine u_dic h2 (len_lt (by omega)) ?_
      have hA : ∀ o, mput M' b o a = some (.lst ((rowsTo bs os j').map Rw.d)) := fun o => by rw [mput_ne hab]; exact h1
      refine ⟨rh (hA _) trivial, mh_extend (hA _) (len_le (by rw [List.length_map]; omega) (by have := hB.len; omega)) ⟨rh mput_same trivial, endrows_f ?_⟩⟩
      refine mh_extend mput_same (len_le (by rw [List.length_append, List.length_map]; have := hB.len; omega) (by rw [List.length_map]; have := endRows_len bl.e os[j' + 1]?; omega)) ?_
      rw [mput_mput]
      refine hk _ _ ⟨_, _, _, _, _, _, setK kvs (.inl (y : Int)) (nD (rowsTo bs os j').length), rfl, ?_, by rw [mput_ne hab.symm]; exact mput_same, Nat.le_trans (setK_len _ _ _) (by omega), ?_, ?_⟩
      · rw [mput_same, rowsTo_succ]
        congr 2
        unfold seg
        rw [hy]
        simp only [hbl, List.map_append, List.map_map, List.append_assoc]
        congr 2
        exact (List.map_id' _).symm
      · intro i z hi hz
        rw [getK_setK]
        by_cases e : i = j'
        · subst e
          rw [hy] at hz; cases hz
          rw [if_pos rfl]
        · rw [if_neg, h4 i z (by omega) hz]
          intro he
          have hyz : y = z := by cases he; rfl
          subst hyz
          have := (idxOf_at hn hz).symm.trans (idxOf_at hn hy)
          exact e this
      · intro c o hc
        rw [mput_ne (ne_of_some haM hc), mput_ne (ne_of_some hbM hc)]; exact h5 c o hc
    simp only [Ev.wpS, Ev.wpE, Ev.wpA, Ev.wpT, ts_cons, ts_nil, Ev.wpB, Ev.wpI, lenE, List.map_cons, List.map_nil, List.length_cons, List.length_nil, List.replicate, Nat.reduceSub, Nat.reduceAdd, List.cons_append, List.nil_append, List.getElem?_cons_zero, List.getElem?_cons_succ, List.set_cons_zero, List.set_cons_succ, Option.some.injEq, exists_eq_left', q_add, q_adds, q_addt, q_addl, q_sub, q_mul, q_rep, q_mod, q_div, q_pow, q_ixl, q_ixs, q_ixt, q_ixk, q_ixstr, c_eq, c_ne, c_lt, c_le, c_gt, c_ge, c_is, c_isn, c_isb, c_isnb, c_in, c_nin, c_ii, c_ss, c_bb, l_new0, l_new1, D.bl.injEq, D.int.injEq, wipeD, atI_lit, ixN_lit, q_ixmm, u_eqm, cm_r, cm_l, cm_mod, cd_s, cp_s, tn_lit, s1, ite_dec, ite_ndec, Nat.reduceLT, Nat.reduceLeDiff, Int.reduceLT, Int.reduceLE, Int.reduceNeg, Int.reducePow, if_true, if_false, ite_true, ite_false, true_and, and_true, Nat.reduceEqDiff, reduceIte, Int.reduceToNat, Bool.false_eq_true, qs_t, qs_str, qs_l, qs_s, qs_m, ov_l, ov_t, ov_s, ov_k, ov_m, ov_str, zp_ll, zp_tt, ex_two, ex_two0, ex_twoi, bi_lenl, bi_lent, bi_lens, bi_lenm, bi_lenstr, bi_abs, bi_max2, bi_min2, bi_sum, bi_inti, bi_intb, bi_stri, bi_listl, bi_listt, bi_lists, bi_listm, bi_tupl, bi_tups, bi_tupt, bi_tupm, r_get1, r_get2, m_get1i, m_get2i, eq_ni, eq_in, r_mm, m_append, m_extend, lst_mm, seq_mm, seq_l, seq_t, seq_s, seq_k, lst_l, lst_s, tup_t, tup_k, unp_t, unp_k, unp_l, own_l, own_mm, isNop, partE, exists_eq_left, ex_len, q_ixf, ov_f, seq_f, tup_f, unp_f, bi_lenf, qs_f, List.length_map]
    by_cases hlast : (j' : Int) + 1 < (os.length : Int)
    · rw [if_pos hlast]
      have hl1 : j' + 1 < os.length := by omega
      refine ⟨nD os[j' + 1], ?_, ?_⟩
      · rw [show (j' : Int) + 1 = ((j' + 1 : Nat) : Int) from by omega, Ev.atI_nat, List.getElem?_map, List.getElem?_eq_getElem hl1]; rfl
      · have := tail e7 e8 e9
        rw [List.getElem?_eq_getElem hl1] at this
        exact this
    · rw [if_neg hlast]
      have := tail e7 e8 e9
      rw [List.getElem?_eq_none (by omega)] at this
      exact this
  · rintro σ' M' ⟨e4, e5, e6, e7, e8, e9, kvs, rfl, h1, h2, h3, h4, h5⟩
    rw [List.length_zipIdx] at h1 h4
    simp only [Ev.wpS, Ev.wpE, Ev.wpA, Ev.wpT, ts_cons, ts_nil, Ev.wpB, Ev.wpI, lenE, List.map_cons, List.map_nil, List.length_cons, List.length_nil, List.replicate, Nat.reduceSub, Nat.reduceAdd, List.cons_append, List.nil_append, List.getElem?_cons_zero, List.getElem?_cons_succ, List.set_cons_zero, List.set_cons_succ, Option.some.injEq, exists_eq_left', q_add, q_adds, q_addt, q_addl, q_sub, q_mul, q_rep, q_mod, q_div, q_pow, q_ixl, q_ixs, q_ixt, q_ixk, q_ixstr, c_eq, c_ne, c_lt, c_le, c_gt, c_ge, c_is, c_isn, c_isb, c_isnb, c_in, c_nin, c_ii, c_ss, c_bb, l_new0, l_new1, D.bl.injEq, D.int.injEq, wipeD, atI_lit, ixN_lit, q_ixmm, u_eqm, cm_r, cm_l, cm_mod, cd_s, cp_s, tn_lit, s1, ite_dec, ite_ndec, Nat.reduceLT, Nat.reduceLeDiff, Int.reduceLT, Int.reduceLE, Int.reduceNeg, Int.reducePow, if_true, if_false, ite_true, ite_false, true_and, and_true, Nat.reduceEqDiff, reduceIte, Int.reduceToNat, Bool.false_eq_true, qs_t, qs_str, qs_l, qs_s, qs_m, ov_l, ov_t, ov_s, ov_k, ov_m, ov_str, zp_ll, zp_tt, ex_two, ex_two0, ex_twoi, bi_lenl, bi_lent, bi_lens, bi_lenm, bi_lenstr, bi_abs, bi_max2, bi_min2, bi_sum, bi_inti, bi_intb, bi_stri, bi_listl, bi_listt, bi_lists, bi_listm, bi_tupl, bi_tups, bi_tupt, bi_tupm, r_get1, r_get2, m_get1i, m_get2i, eq_ni, eq_in, r_mm, m_append, m_extend, lst_mm, seq_mm, seq_l, seq_t, seq_s, seq_k, lst_l, lst_s, tup_t, tup_k, unp_t, unp_k, unp_l, own_l, own_mm, isNop, partE, exists_eq_left, ex_len, q_ixf, ov_f, seq_f, tup_f, unp_f, bi_lenf, qs_f]
    refine ov_h h1 fun L hL => ?_
    have haL : a ≠ L := (ne_of_some hL h1)
    have hbL : b ≠ L := (ne_of_some hL h2)
    have hrl := rowsTo_len hb os os.length
    refine cmap (rowsTo bs os os.length) Rw.d (fun r => (r.mv (placeOf bs os)).d) (Nat.le_of_lt (len_lt (by omega))) (fun acc => seq_h (mput_get hL h1)) (fun r hr acc kk hkk => ?_) ?_
    · have hR := rowsTo_mem hb os hr
      refine places_f (kvs := kvs) (pl := placeOf bs os) (mput_get hL h2) (fun z hz => ?_) hR.2.2 (Nat.le_trans hR.2.1 (by decide)) hkk
      have hzm := ha z (hR.1 z hz)
      obtain ⟨i, hi⟩ := List.getElem?_of_mem hzm
      rw [h4 i z (List.getElem?_eq_some_iff.mp hi).1 hi]
      unfold placeOf
      rw [idxOf_at hn hi]
    · have hLM : M L = none := by
        cases e : M L with
        | none => rfl
        | some o => rw [h5 L o e] at hL; cases hL
      refine h L _ hLM ?_ fun c o hc => by rw [mput_ne (ne_of_some hLM hc)]; exact h5 c o hc
      rw [mput_same, show (rowsTo bs os os.length).map (fun r => (r.mv (placeOf bs os)).d) = (laidF bs os).map Rw.d from by unfold laidF; rw [List.map_map]; rfl]
theorem laid_f {k : Nat} {M : Mem} {bs : List Bl} {os : List Nat} {x : D} {Q : VQ} {W : WQ} (hb : ∀ b ∈ bs, BlOk bs.length b) (hl : bs.length ≤ 10) (hn : os.Nodup) (ho : ∀ y ∈ os, y < bs.length) (ha : ∀ y, y < bs.length → y ∈ os) (hol : os.length ≤ 10)
  (h : Q (.lst ((laidF bs os).map Rw.d)) M) : callK T gl (k + 2) "laid" [.tup [x, .lst (bs.map Bl.d)], .ft (os.map nD)] M (frzQ M Q) W :=
  laid_ok hb hl hn ho ha hol fun L M' h1 h2 h3 => ⟨_, .lst h1 h2 (.refl _), by rw [restr_keeps h3]; exact h⟩

theorem ne_say_ask : (("say" : Str) = "ask") = False := eq_false (by decide +kernel)
theorem ne_say_put : (("say" : Str) = "put") = False := eq_false (by decide +kernel)
theorem ne_say_jump : (("say" : Str) = "jump") = False := eq_false (by decide +kernel)
theorem ne_say_when : (("say" : Str) = "when") = False := eq_false (by decide +kernel)
theorem ne_say_unless : (("say" : Str) = "unless") = False := eq_false (by decide +kernel)
theorem ne_say_table : (("say" : Str) = "table") = False := eq_false (by decide +kernel)
theorem ne_say_stop : (("say" : Str) = "stop") = False := eq_false (by decide +kernel)
theorem ne_ask_say : (("ask" : Str) = "say") = False := eq_false (by decide +kernel)
theorem ne_ask_put : (("ask" : Str) = "put") = False := eq_false (by decide +kernel)
theorem ne_ask_jump : (("ask" : Str) = "jump") = False := eq_false (by decide +kernel)
theorem ne_ask_when : (("ask" : Str) = "when") = False := eq_false (by decide +kernel)
theorem ne_ask_unless : (("ask" : Str) = "unless") = False := eq_false (by decide +kernel)
theorem ne_ask_table : (("ask" : Str) = "table") = False := eq_false (by decide +kernel)
theorem ne_ask_stop : (("ask" : Str) = "stop") = False := eq_false (by decide +kernel)
theorem ne_put_say : (("put" : Str) = "say") = False := eq_false (by decide +kernel)
theorem ne_put_ask : (("put" : Str) = "ask") = False := eq_false (by decide +kernel)
theorem ne_put_jump : (("put" : Str) = "jump") = False := eq_false (by decide +kernel)
theorem ne_put_when : (("put" : Str) = "when") = False := eq_false (by decide +kernel)
theorem ne_put_unless : (("put" : Str) = "unless") = False := eq_false (by decide +kernel)
theorem ne_put_table : (("put" : Str) = "table") = False := eq_false (by decide +kernel)
theorem ne_put_stop : (("put" : Str) = "stop") = False := eq_false (by decide +kernel)
theorem ne_jump_say : (("jump" : Str) = "say") = False := eq_false (by decide +kernel)
theorem ne_jump_ask : (("jump" : Str) = "ask") = False := eq_false (by decide +kernel)
theorem ne_jump_put : (("jump" : Str) = "put") = False := eq_false (by decide +kernel)
theorem ne_when_say : (("when" : Str) = "say") = False := eq_false (by decide +kernel)
theorem ne_when_ask : (("when" : Str) = "ask") = False := eq_false (by decide +kernel)
theorem ne_when_put : (("when" : Str) = "put") = False := eq_false (by decide +kernel)
theorem ne_unless_say : (("unless" : Str) = "say") = False := eq_false (by decide +kernel)
theorem ne_unless_ask : (("unless" : Str) = "ask") = False := eq_false (by decide +kernel)
theorem ne_unless_put : (("unless" : Str) = "put") = False := eq_false (by decide +kernel)
theorem ne_table_say : (("table" : Str) = "say") = False := eq_false (by decide +kernel)
theorem ne_table_ask : (("table" : Str) = "ask") = False := eq_false (by decide +kernel)
theorem ne_table_put : (("table" : Str) = "put") = False := eq_false (by decide +kernel)
theorem ne_stop_say : (("stop" : Str) = "say") = False := eq_false (by decide +kernel)
theorem ne_stop_ask : (("stop" : Str) = "ask") = False := eq_false (by decide +kernel)
theorem ne_stop_put : (("stop" : Str) = "put") = False := eq_false (by decide +kernel)
theorem stm_ok (s : Stm) : StOk s.d := by
  cases s with
  | say e => exact ⟨"say", _, rfl, by rw [ne_say_jump]; exact id, by rw [ne_say_when]; exact id, by rw [ne_say_unless]; exact id, by rw [ne_say_table]; exact id⟩
  | ask e => exact ⟨"ask", _, rfl, by rw [ne_ask_jump]; exact id, by rw [ne_ask_when]; exact id, by rw [ne_ask_unless]; exact id, by rw [ne_ask_table]; exact id⟩
  | put x e => exact ⟨"put", _, rfl, by rw [ne_put_jump]; exact id, by rw [ne_put_when]; exact id, by rw [ne_put_unless]; exact id, by rw [ne_put_table]; exact id⟩
theorem BlT.ok {bx : List (Str × Int)} {many : Nat} {b : Bl} (h : BlT bx many b) : BlOk many b := by
  obtain ⟨⟨ss, hs, hok⟩, hl, he⟩ := h
  refine ⟨fun d hd => ?_, by omega, he.tos.1, he.tos.2⟩
  rw [hs] at hd
  obtain ⟨s, _, rfl⟩ := List.mem_map.mp hd
  exact stm_ok s
theorem perm_facts {os : List Nat} {many : Nat} (h : os.Perm (List.range many)) : os.Nodup ∧ (∀ y ∈ os, y < many) ∧ (∀ y, y < many → y ∈ os) ∧ os.length = many :=
  ⟨h.nodup_iff.mpr List.nodup_range, fun y hy => by have := h.mem_iff.mp hy; simpa using this, fun y hy => h.mem_iff.mpr (by simpa using hy), by rw [h.length_eq, List.length_range]⟩
/-- rows as they are laid, what they hold -/
theorem mv_tree {bx : List (Str × Int)} {many : Nat} {bs : List Bl} (hT : ∀ b ∈ bs, BlT bx many b) (os : List Nat) {j : Nat} {r : Rw} (h : r ∈ rowsTo bs os j) (pl : Nat → Nat) : Tree 6 (r.mv pl).d := by
  induction j with
  | zero => simp [rowsTo] at h
  | succ j ih =>
    rw [rowsTo_succ] at h
    rcases List.mem_append.mp h with h | h
    · exact ih h
    · unfold seg at h
      split at h
      · cases h
      · split at h
        · cases h
        · rename_i b hb'
          have hB := hT b (List.mem_of_getElem? hb')
          rcases List.mem_append.mp h with h | h
          · obtain ⟨d, hd, rfl⟩ := List.mem_map.mp h
            obtain ⟨ss, hs, hok⟩ := hB.st
            rw [hs] at hd
            obtain ⟨s, hs', rfl⟩ := List.mem_map.mp hd
            exact tree_stm (hok s hs')
          · have hE := hB.e
            generalize b.e = e at hE h
            cases e with
            | stop => simp [endRows] at h; subst h; exact ⟨(by decide : 1 ≤ 1000000), by simp [tree_str]⟩
            | go x =>
              simp only [endRows] at h
              split at h
              · cases h
              · simp at h; subst h; exact ⟨(by decide : 2 ≤ 1000000), by simp [tree_str, tree_int]⟩
            | tab d xs =>
              simp [endRows] at h; subst h
              obtain ⟨⟨e, rfl, he⟩, h1, h2, _⟩ := hE
              exact ⟨(by decide : 3 ≤ 1000000), by simp only [List.mem_cons, List.not_mem_nil, or_false, forall_eq_or_imp, forall_eq]; exact ⟨tree_str _ _, tree_ex he, by rw [List.length_map, List.length_map]; omega, tree_ints⟩⟩
            | ife s a b x y =>
              obtain ⟨_, ⟨e, rfl, he⟩, ⟨e', rfl, he'⟩, _⟩ := hE
              have tw : ∀ z, Tree 6 (Rw.whn s e.d e'.d z).d := fun z => ⟨(by decide : 5 ≤ 1000000), by simp [tree_str, tree_int, tree_ex he, tree_ex he']⟩
              have tu : ∀ z, Tree 6 (Rw.unl s e.d e'.d z).d := fun z => ⟨(by decide : 5 ≤ 1000000), by simp [tree_str, tree_int, tree_ex he, tree_ex he']⟩
              have tj : ∀ z, Tree 6 (Rw.jump z).d := fun z => ⟨(by decide : 2 ≤ 1000000), by simp [tree_str, tree_int]⟩
              simp only [endRows] at h
              repeat' split at h
              all_goals first | (cases h; done) | skip
              · simp at h; subst h; exact tj _
              · simp at h; subst h; exact tu _
              · simp at h; subst h; exact tw _
              · simp at h; rcases h with rfl | rfl
                · exact tw _
                · exact tj _
theorem tree_laid {bx : List (Str × Int)} {bs : List Bl} (hT : ∀ b ∈ bs, BlT bx bs.length b) {os : List Nat} (hl : os.length ≤ 10) : Tree 7 (.lst ((laidF bs os).map Rw.d)) := by
  refine ⟨?_, fun d hd => ?_⟩
  · unfold laidF
    rw [List.length_map, List.length_map]
    have := rowsTo_len (fun b hb => (hT b hb).ok) os os.length
    omega
  · unfold laidF at hd
    rw [List.map_map] at hd
    obtain ⟨r, hr, rfl⟩ := List.mem_map.mp hd
    exact mv_tree hT os hr _
theorem b_true {M : Mem} {Q : Bool → Mem → Prop} (h : Q true M) : boolQ (rsQ M Q) (.bl true) M := ⟨true, rfl, by unfold rsQ; rw [restr_self]; exact h⟩

theorem ne_say_go : (("say" : Str) = "go") = False := eq_false (by decide +kernel)
theorem ne_go_say : (("go" : Str) = "say") = False := eq_false (by decide +kernel)
/-! the rows that are due -/
def gR : Rw → D
  | .jump x => .tup [.str "go", nD x]
  | r => r.d
theorem gR_st {d : D} : gR (.st d) = d := rfl
theorem gR_stop : gR .stop = .tup [.str "stop"] := rfl
theorem gR_jump {x : Nat} : gR (.jump x) = .tup [.str "go", nD x] := rfl
def mvD (pl : Nat → Nat) (r : Rw) : D := (r.mv pl).d
/-- blocks that go on or stop, with statements that say -/
structure Gos (many : Nat) (bs : List Bl) : Prop where
  st : ∀ b ∈ bs, ∀ d ∈ b.st, ∃ e, d = .tup [.str "say", e]
  en : ∀ b ∈ bs, b.e = .stop ∨ ∃ x, x < many ∧ b.e = .go x
theorem ft_ints {ns : List Nat} : ns.map nD = (ns.map fun i : Nat => (i : Int)).map D.int := by rw [List.map_map]; rfl
theorem nodup_at {ns : List Nat} (hn : ns.Nodup) {i j x : Nat} (h : ns[i]? = some x) (h' : ns[j]? = some x) : i = j :=
  (List.getElem?_inj (List.getElem?_eq_some_iff.mp h).1 hn).mp (h.trans h'.symm)
theorem jrow_f {k : Nat} {M : Mem} {many : Nat} {bs : List Bl} {os : List Nat} {j y : Nat} {b : Bl} {Q : VQ} {W : WQ} (hn : os.Nodup) (hy : os[j]? = some y) (hb : bs[y]? = some b) (he : b.e = .stop ∨ ∃ x, x < many ∧ b.e = .go x) (hol : os.length ≤ 10)
    (q : Q (.lst ((endRows b.e os[j + 1]?).map gR)) M) : callK T gl (k + 1) "_law_jump_row" [.lst (bs.map Bl.d), .ft (os.map nD), nD y] M (frzQ M Q) W := by
  refine callK_intro (d := d__law_jump_row) rfl rfl ?_
  have hat : atI (bs.map Bl.d) (y : Int) = some b.d := by rw [Ev.atI_nat, List.getElem?_map, hb]; rfl
  simp only [Ev.wpS, Ev.wpE, Ev.wpA, Ev.wpT, ts_cons, ts_nil, Ev.wpB, Ev.wpI, lenE, List.map_cons, List.map_nil, List.length_cons, List.length_nil, List.replicate, Nat.reduceSub, Nat.reduceAdd, List.cons_append, List.nil_append, List.getElem?_cons_zero, List.getElem?_cons_succ, List.set_cons_zero, List.set_cons_succ, Option.some.injEq, exists_eq_left', q_add, q_adds, q_addt, q_addl, q_sub, q_mul, q_rep, q_mod, q_div, q_pow, q_ixl, q_ixs, q_ixt, q_ixk, q_ixstr, c_eq, c_ne, c_lt, c_le, c_gt, c_ge, c_is, c_isn, c_isb, c_isnb, c_in, c_nin, c_ii, c_ss, c_bb, l_new0, l_new1, D.bl.injEq, D.int.injEq, wipeD, atI_lit, ixN_lit, q_ixmm, u_eqm, cm_r, cm_l, cm_mod, cd_s, cp_s, tn_lit, s1, ite_dec, ite_ndec, Nat.reduceLT, Nat.reduceLeDiff, Int.reduceLT, Int.reduceLE, Int.reduceNeg, Int.reducePow, if_true, if_false, ite_true, ite_false, true_and, and_true, Nat.reduceEqDiff, reduceIte, Int.reduceToNat, Bool.false_eq_true, qs_t, qs_str, qs_l, qs_s, qs_m, ov_l, ov_t, ov_s, ov_k, ov_m, ov_str, zp_ll, zp_tt, ex_two, ex_two0, ex_twoi, bi_lenl, bi_lent, bi_lens, bi_lenm, bi_lenstr, bi_abs, bi_max2, bi_min2, bi_sum, bi_inti, bi_intb, bi_stri, bi_listl, bi_listt, bi_lists, bi_listm, bi_tupl, bi_tups, bi_tupt, bi_tupm, r_get1, r_get2, m_get1i, m_get2i, eq_ni, eq_in, r_mm, m_append, m_extend, lst_mm, seq_mm, seq_l, seq_t, seq_s, seq_k, lst_l, lst_s, tup_t, tup_k, unp_t, unp_k, unp_l, own_l, own_mm, isNop, partE, exists_eq_left, ex_len, q_ixf, ov_f, seq_f, tup_f, unp_f, bi_lenf, qs_f, d__law_jump_row, hat, Bl.d]
  refine ⟨os.map fun i : Nat => (i : Int), by rw [ft_ints], y, j, rfl, by rw [List.getElem?_map, hy]; rfl, fun m hm e => ?_, ?_⟩
  · rw [List.getElem?_map] at e
    obtain ⟨z, hz, e⟩ := Option.map_eq_some_iff.mp e
    have : z = y := by omega
    subst this
    have := nodup_at hn hz hy
    omega
  rcases he with he | ⟨x, hx, he⟩
  · rw [he] at q ⊢
    simp only [Ev.wpS, Ev.wpE, Ev.wpA, Ev.wpT, ts_cons, ts_nil, Ev.wpB, Ev.wpI, lenE, List.map_cons, List.map_nil, List.length_cons, List.length_nil, List.replicate, Nat.reduceSub, Nat.reduceAdd, List.cons_append, List.nil_append, List.getElem?_cons_zero, List.getElem?_cons_succ, List.set_cons_zero, List.set_cons_succ, Option.some.injEq, exists_eq_left', q_add, q_adds, q_addt, q_addl, q_sub, q_mul, q_rep, q_mod, q_div, q_pow, q_ixl, q_ixs, q_ixt, q_ixk, q_ixstr, c_eq, c_ne, c_lt, c_le, c_gt, c_ge, c_is, c_isn, c_isb, c_isnb, c_in, c_nin, c_ii, c_ss, c_bb, l_new0, l_new1, D.bl.injEq, D.int.injEq, wipeD, atI_lit, ixN_lit, q_ixmm, u_eqm, cm_r, cm_l, cm_mod, cd_s, cp_s, tn_lit, s1, ite_dec, ite_ndec, Nat.reduceLT, Nat.reduceLeDiff, Int.reduceLT, Int.reduceLE, Int.reduceNeg, Int.reducePow, if_true, if_false, ite_true, ite_false, true_and, and_true, Nat.reduceEqDiff, reduceIte, Int.reduceToNat, Bool.false_eq_true, qs_t, qs_str, qs_l, qs_s, qs_m, ov_l, ov_t, ov_s, ov_k, ov_m, ov_str, zp_ll, zp_tt, ex_two, ex_two0, ex_twoi, bi_lenl, bi_lent, bi_lens, bi_lenm, bi_lenstr, bi_abs, bi_max2, bi_min2, bi_sum, bi_inti, bi_intb, bi_stri, bi_listl, bi_listt, bi_lists, bi_listm, bi_tupl, bi_tups, bi_tupt, bi_tupm, r_get1, r_get2, m_get1i, m_get2i, eq_ni, eq_in, r_mm, m_append, m_extend, lst_mm, seq_mm, seq_l, seq_t, seq_s, seq_k, lst_l, lst_s, tup_t, tup_k, unp_t, unp_k, unp_l, own_l, own_mm, isNop, partE, exists_eq_left, ex_len, q_ixf, ov_f, seq_f, tup_f, unp_f, bi_lenf, qs_f, ne_say_stop, ne_say_go, ne_say_jump, ne_stop_say, ne_stop_go, ne_stop_jump, ne_go_say, ne_go_stop, ne_go_jump, ne_jump_say, ne_jump_stop, ne_jump_go, En.d]
    exact f_refl (by rw [restr_self]; exact q)
  · rw [he] at q ⊢
    simp only [Ev.wpS, Ev.wpE, Ev.wpA, Ev.wpT, ts_cons, ts_nil, Ev.wpB, Ev.wpI, lenE, List.map_cons, List.map_nil, List.length_cons, List.length_nil, List.replicate, Nat.reduceSub, Nat.reduceAdd, List.cons_append, List.nil_append, List.getElem?_cons_zero, List.getElem?_cons_succ, List.set_cons_zero, List.set_cons_succ, Option.some.injEq, exists_eq_left', q_add, q_adds, q_addt, q_addl, q_sub, q_mul, q_rep, q_mod, q_div, q_pow, q_ixl, q_ixs, q_ixt, q_ixk, q_ixstr, c_eq, c_ne, c_lt, c_le, c_gt, c_ge, c_is, c_isn, c_isb, c_isnb, c_in, c_nin, c_ii, c_ss, c_bb, l_new0, l_new1, D.bl.injEq, D.int.injEq, wipeD, atI_lit, ixN_lit, q_ixmm, u_eqm, cm_r, cm_l, cm_mod, cd_s, cp_s, tn_lit, s1, ite_dec, ite_ndec, Nat.reduceLT, Nat.reduceLeDiff, Int.reduceLT, Int.reduceLE, Int.reduceNeg, Int.reducePow, if_true, if_false, ite_true, ite_false, true_and, and_true, Nat.reduceEqDiff, reduceIte, Int.reduceToNat, Bool.false_eq_true, qs_t, qs_str, qs_l, qs_s, qs_m, ov_l, ov_t, ov_s, ov_k, ov_m, ov_str, zp_ll, zp_tt, ex_two, ex_two0, ex_twoi, bi_lenl, bi_lent, bi_lens, bi_lenm, bi_lenstr, bi_abs, bi_max2, bi_min2, bi_sum, bi_inti, bi_intb, bi_stri, bi_listl, bi_listt, bi_lists, bi_listm, bi_tupl, bi_tups, bi_tupt, bi_tupm, r_get1, r_get2, m_get1i, m_get2i, eq_ni, eq_in, r_mm, m_append, m_extend, lst_mm, seq_mm, seq_l, seq_t, seq_s, seq_k, lst_l, lst_s, tup_t, tup_k, unp_t, unp_k, unp_l, own_l, own_mm, isNop, partE, exists_eq_left, ex_len, q_ixf, ov_f, seq_f, tup_f, unp_f, bi_lenf, qs_f, ne_say_stop, ne_say_go, ne_say_jump, ne_stop_say, ne_stop_go, ne_stop_jump, ne_go_say, ne_go_stop, ne_go_jump, ne_jump_say, ne_jump_stop, ne_jump_go, En.d, List.length_map]
    by_cases hl : j + 1 < os.length
    · rw [if_pos (by omega)]
      have ha2 : atI (os.map nD) ((j : Int) + 1) = some (nD os[j + 1]) := by
        rw [show (j : Int) + 1 = ((j + 1 : Nat) : Int) from by omega, Ev.atI_nat, List.getElem?_map, List.getElem?_eq_getElem hl]; rfl
      refine ⟨_, ha2, ?_⟩
      rw [List.getElem?_eq_getElem hl] at q
      rw [nD_eq]
      by_cases e : os[j + 1] = x
      · rw [if_pos (by simpa using e)]
        refine f_refl ?_
        rw [restr_self]
        simpa [endRows, e] using q
      · rw [if_neg (by simpa using e)]
        refine f_refl ?_
        rw [restr_self]
        simpa [endRows, e, gR] using q
    · rw [if_neg (by omega)]
      refine f_refl ?_
      rw [restr_self]
      rw [List.getElem?_eq_none (by omega)] at q
      simpa [endRows, gR] using q
theorem rows_kind {many : Nat} {bs : List Bl} (h : Gos many bs) (os : List Nat) {j : Nat} {r : Rw} (hr : r ∈ rowsTo bs os j) : (∃ e, r = .st (.tup [.str "say", e])) ∨ r = .stop ∨ ∃ x, x < many ∧ r = .jump x := by
  induction j with
  | zero => simp [rowsTo] at hr
  | succ j ih =>
    rw [rowsTo_succ] at hr
    rcases List.mem_append.mp hr with hr | hr
    · exact ih hr
    · unfold seg at hr
      split at hr
      · cases hr
      · split at hr
        · cases hr
        · rename_i b hb'
          have hbm := List.mem_of_getElem? hb'
          rcases List.mem_append.mp hr with hr | hr
          · obtain ⟨d, hd, rfl⟩ := List.mem_map.mp hr
            obtain ⟨e, rfl⟩ := h.st b hbm d hd
            exact .inl ⟨e, rfl⟩
          · rcases h.en b hbm with he | ⟨x, hx, he⟩
            · rw [he] at hr
              simp [endRows] at hr
              exact .inr (.inl hr)
            · rw [he] at hr
              simp only [endRows] at hr
              split at hr
              · cases hr
              · rw [List.mem_singleton] at hr
                exact .inr (.inr ⟨x, hx, hr⟩)
theorem seg_gR {bs : List Bl} {os : List Nat} {j y : Nat} {b : Bl} (hy : os[j]? = some y) (hb : bs[y]? = some b) : (seg bs os j).map gR = b.st ++ (endRows b.e os[j + 1]?).map gR := by
  unfold seg
  rw [hy]
  simp only [hb, List.map_append, List.map_map]
  congr 1
  exact List.map_id' _
theorem due_f {k : Nat} {M : Mem} {bs : List Bl} {os : List Nat} {Q : VQ} {W : WQ} (hb : ∀ b ∈ bs, BlOk bs.length b) (hg : Gos bs.length bs) (hl : bs.length ≤ 10) (hn : os.Nodup) (ho : ∀ y ∈ os, y < bs.length) (ha : ∀ y, y < bs.length → y ∈ os) (hol : os.length ≤ 10)
    (q : Q (.lst ((laidF bs os).map Rw.d)) M) : callK T gl (k + 2) "_law_due" [.lst (bs.map Bl.d), .ft (os.map nD)] M (frzQ M Q) W := by
  refine callK_intro (d := d__law_due) rfl rfl ?_
  simp only [Ev.wpS, Ev.wpE, Ev.wpA, Ev.wpT, ts_cons, ts_nil, Ev.wpB, Ev.wpI, lenE, List.map_cons, List.map_nil, List.length_cons, List.length_nil, List.replicate, Nat.reduceSub, Nat.reduceAdd, List.cons_append, List.nil_append, List.getElem?_cons_zero, List.getElem?_cons_succ, List.set_cons_zero, List.set_cons_succ, Option.some.injEq, exists_eq_left', q_add, q_adds, q_addt, q_addl, q_sub, q_mul, q_rep, q_mod, q_div, q_pow, q_ixl, q_ixs, q_ixt, q_ixk, q_ixstr, c_eq, c_ne, c_lt, c_le, c_gt, c_ge, c_is, c_isn, c_isb, c_isnb, c_in, c_nin, c_ii, c_ss, c_bb, l_new0, l_new1, D.bl.injEq, D.int.injEq, wipeD, atI_lit, ixN_lit, q_ixmm, u_eqm, cm_r, cm_l, cm_mod, cd_s, cp_s, tn_lit, s1, ite_dec, ite_ndec, Nat.reduceLT, Nat.reduceLeDiff, Int.reduceLT, Int.reduceLE, Int.reduceNeg, Int.reducePow, if_true, if_false, ite_true, ite_false, true_and, and_true, Nat.reduceEqDiff, reduceIte, Int.reduceToNat, Bool.false_eq_true, qs_t, qs_str, qs_l, qs_s, qs_m, ov_l, ov_t, ov_s, ov_k, ov_m, ov_str, zp_ll, zp_tt, ex_two, ex_two0, ex_twoi, bi_lenl, bi_lent, bi_lens, bi_lenm, bi_lenstr, bi_abs, bi_max2, bi_min2, bi_sum, bi_inti, bi_intb, bi_stri, bi_listl, bi_listt, bi_lists, bi_listm, bi_tupl, bi_tups, bi_tupt, bi_tupm, r_get1, r_get2, m_get1i, m_get2i, eq_ni, eq_in, r_mm, m_append, m_extend, lst_mm, seq_mm, seq_l, seq_t, seq_s, seq_k, lst_l, lst_s, tup_t, tup_k, unp_t, unp_k, unp_l, own_l, own_mm, isNop, partE, exists_eq_left, ex_len, q_ixf, ov_f, seq_f, tup_f, unp_f, bi_lenf, qs_f, d__law_due]
  intro a haM
  refine loop os nD (fun j σ' M' => ∃ kvs e4, σ' = [some (.lst (bs.map Bl.d)), some (.ft (os.map nD)), some (.mr a), some (.lst ((rowsTo bs os j).map gR)), e4, none, none] ∧ M' = mput M a (.dK kvs) ∧ kvs.length ≤ j ∧ ∀ (i y : Nat), i < j → os[i]? = some y → getK kvs (.inl (y : Int)) = some (nD (rowsTo bs os i).length))
    ⟨[], _, rfl, rfl, Nat.le_refl _, fun _ _ h => absurd h (Nat.not_lt_zero _)⟩ (fun _ _ _ _ _ => trivial) ?_ ?_
  · rintro j y hy σ' M' kk ⟨kvs, e4, rfl, rfl, hkl, hk4⟩ hk
    have hj := (List.getElem?_eq_some_iff.mp hy).1
    obtain ⟨b, hby⟩ : ∃ b, bs[y]? = some b := ⟨_, List.getElem?_eq_getElem (ho y (List.mem_of_getElem? hy))⟩
    have hB := hb b (List.mem_of_getElem? hby)
    have hat : atI (bs.map Bl.d) (y : Int) = some b.d := by rw [Ev.atI_nat, List.getElem?_map, hby]; rfl
    have hrl := rowsTo_len hb os j
    have hrl2 := rowsTo_len hb os (j + 1)
    have hel := endRows_len b.e os[j + 1]?
    simp only [Ev.wpS, Ev.wpE, Ev.wpA, Ev.wpT, ts_cons, ts_nil, Ev.wpB, Ev.wpI, lenE, List.map_cons, List.map_nil, List.length_cons, List.length_nil, List.replicate, Nat.reduceSub, Nat.reduceAdd, List.cons_append, List.nil_append, List.getElem?_cons_zero, List.getElem?_cons_succ, List.set_cons_zero, List.set_cons_succ, Option.some.injEq, exists_eq_left', q_add, q_adds, q_addt, q_addl, q_sub, q_mul, q_rep, q_mod, q_div, q_pow, q_ixl, q_ixs, q_ixt, q_ixk, q_ixstr, c_eq, c_ne, c_lt, c_le, c_gt, c_ge, c_is, c_isn, c_isb, c_isnb, c_in, c_nin, c_ii, c_ss, c_bb, l_new0, l_new1, D.bl.injEq, D.int.injEq, wipeD, atI_lit, ixN_lit, q_ixmm, u_eqm, cm_r, cm_l, cm_mod, cd_s, cp_s, tn_lit, s1, ite_dec, ite_ndec, Nat.reduceLT, Nat.reduceLeDiff, Int.reduceLT, Int.reduceLE, Int.reduceNeg, Int.reducePow, if_true, if_false, ite_true, ite_false, true_and, and_true, Nat.reduceEqDiff, reduceIte, Int.reduceToNat, Bool.false_eq_true, qs_t, qs_str, qs_l, qs_s, qs_m, ov_l, ov_t, ov_s, ov_k, ov_m, ov_str, zp_ll, zp_tt, ex_two, ex_two0, ex_twoi, bi_lenl, bi_lent, bi_lens, bi_lenm, bi_lenstr, bi_abs, bi_max2, bi_min2, bi_sum, bi_inti, bi_intb, bi_stri, bi_listl, bi_listt, bi_lists, bi_listm, bi_tupl, bi_tups, bi_tupt, bi_tupm, r_get1, r_get2, m_get1i, m_get2i, eq_ni, eq_in, r_mm, m_append, m_extend, lst_mm, seq_mm, seq_l, seq_t, seq_s, seq_k, lst_l, lst_s, tup_t, tup_k, unp_t, unp_k, unp_l, own_l, own_mm, isNop, partE, exists_eq_left, ex_len, q_ixf, ov_f, seq_f, tup_f, unp_f, bi_lenf, qs_f, List.length_map]
    refine u_dic mput_same (len_lt (by omega)) ?_
    rw [mput_mput]
    simp only [Ev.wpS, Ev.wpE, Ev.wpA, Ev.wpT, ts_cons, ts_nil, Ev.wpB, Ev.wpI, lenE, List.map_cons, List.map_nil, List.length_cons, List.length_nil, List.replicate, Nat.reduceSub, Nat.reduceAdd, List.cons_append, List.nil_append, List.getElem?_cons_zero, List.getElem?_cons_succ, List.set_cons_zero, List.set_cons_succ, Option.some.injEq, exists_eq_left', q_add, q_adds, q_addt, q_addl, q_sub, q_mul, q_rep, q_mod, q_div, q_pow, q_ixl, q_ixs, q_ixt, q_ixk, q_ixstr, c_eq, c_ne, c_lt, c_le, c_gt, c_ge, c_is, c_isn, c_isb, c_isnb, c_in, c_nin, c_ii, c_ss, c_bb, l_new0, l_new1, D.bl.injEq, D.int.injEq, wipeD, atI_lit, ixN_lit, q_ixmm, u_eqm, cm_r, cm_l, cm_mod, cd_s, cp_s, tn_lit, s1, ite_dec, ite_ndec, Nat.reduceLT, Nat.reduceLeDiff, Int.reduceLT, Int.reduceLE, Int.reduceNeg, Int.reducePow, if_true, if_false, ite_true, ite_false, true_and, and_true, Nat.reduceEqDiff, reduceIte, Int.reduceToNat, Bool.false_eq_true, qs_t, qs_str, qs_l, qs_s, qs_m, ov_l, ov_t, ov_s, ov_k, ov_m, ov_str, zp_ll, zp_tt, ex_two, ex_two0, ex_twoi, bi_lenl, bi_lent, bi_lens, bi_lenm, bi_lenstr, bi_abs, bi_max2, bi_min2, bi_sum, bi_inti, bi_intb, bi_stri, bi_listl, bi_listt, bi_lists, bi_listm, bi_tupl, bi_tups, bi_tupt, bi_tupm, r_get1, r_get2, m_get1i, m_get2i, eq_ni, eq_in, r_mm, m_append, m_extend, lst_mm, seq_mm, seq_l, seq_t, seq_s, seq_k, lst_l, lst_s, tup_t, tup_k, unp_t, unp_k, unp_l, own_l, own_mm, isNop, partE, exists_eq_left, ex_len, q_ixf, ov_f, seq_f, tup_f, unp_f, bi_lenf, qs_f, hat, Bl.d]
    refine ⟨sz_le (by simp only [List.length_append, List.length_map]; have := hB.len; omega), ?_⟩
    refine jrow_f (k := k) hn hy hby (hg.en b (List.mem_of_getElem? hby)) hol ?_
    try simp only [Ev.wpS, Ev.wpE, Ev.wpA, Ev.wpT, ts_cons, ts_nil, Ev.wpB, Ev.wpI, lenE, List.map_cons, List.map_nil, List.length_cons, List.length_nil, List.replicate, Nat.reduceSub, Nat.reduceAdd, List.cons_append, List.nil_append, List.getElem?_cons_zero, List.getElem?_cons_succ, List.set_cons_zero, List.set_cons_succ, Option.some.injEq, exists_eq_left', q_add, q_adds, q_addt, q_addl, q_sub, q_mul, q_rep, q_mod, q_div, q_pow, q_ixl, q_ixs, q_ixt, q_ixk, q_ixstr, c_eq, c_ne, c_lt, c_le, c_gt, c_ge, c_is, c_isn, c_isb, c_isnb, c_in, c_nin, c_ii, c_ss, c_bb, l_new0, l_new1, D.bl.injEq, D.int.injEq, wipeD, atI_lit, ixN_lit, q_ixmm, u_eqm, cm_r, cm_l, cm_mod, cd_s, cp_s, tn_lit, s1, ite_dec, ite_ndec, Nat.reduceLT, Nat.reduceLeDiff, Int.reduceLT, Int.reduceLE, Int.reduceNeg, Int.reducePow, if_true, if_false, ite_true, ite_false, true_and, and_true, Nat.reduceEqDiff, reduceIte, Int.reduceToNat, Bool.false_eq_true, qs_t, qs_str, qs_l, qs_s, qs_m, ov_l, ov_t, ov_s, ov_k, ov_m, ov_str, zp_ll, zp_tt, ex_two, ex_two0, ex_twoi, bi_lenl, bi_lent, bi_lens, bi_lenm, bi_lenstr, bi_abs, bi_max2, bi_min2, bi_sum, bi_inti, bi_intb, bi_stri, bi_listl, bi_listt, bi_lists, bi_listm, bi_tupl, bi_tups, bi_tupt, bi_tupm, r_get1, r_get2, m_get1i, m_get2i, eq_ni, eq_in, r_mm, m_append, m_extend, lst_mm, seq_mm, seq_l, seq_t, seq_s, seq_k, lst_l, lst_s, tup_t, tup_k, unp_t, unp_k, unp_l, own_l, own_mm, isNop, partE, exists_eq_left, ex_len, q_ixf, ov_f, seq_f, tup_f, unp_f, bi_lenf, qs_f]
    refine ⟨sz_le (by simp only [List.length_append, List.length_map]; have := hB.len; omega), ?_⟩
    have e1 : (rowsTo bs os j).map gR ++ b.st ++ (endRows b.e os[j + 1]?).map gR = (rowsTo bs os (j + 1)).map gR := by
      rw [rowsTo_succ, List.map_append, seg_gR hy hby, List.append_assoc]
    rw [e1]
    refine hk _ _ ⟨_, _, rfl, rfl, Nat.le_trans (setK_len _ _ _) (by omega), fun i z hi hz => ?_⟩
    rw [getK_setK]
    by_cases e : i = j
    · subst e
      rw [hy] at hz; cases hz
      rw [if_pos rfl]
    · rw [if_neg, hk4 i z (by omega) hz]
      intro he
      have hyz : y = z := by cases he; rfl
      subst hyz
      exact e (nodup_at hn hz hy)
  · rintro σ' M' ⟨kvs, e4, rfl, rfl, hkl, hk4⟩
    have hrl := rowsTo_len hb os os.length
    simp only [Ev.wpS, Ev.wpE, Ev.wpA, Ev.wpT, ts_cons, ts_nil, Ev.wpB, Ev.wpI, lenE, List.map_cons, List.map_nil, List.length_cons, List.length_nil, List.replicate, Nat.reduceSub, Nat.reduceAdd, List.cons_append, List.nil_append, List.getElem?_cons_zero, List.getElem?_cons_succ, List.set_cons_zero, List.set_cons_succ, Option.some.injEq, exists_eq_left', q_add, q_adds, q_addt, q_addl, q_sub, q_mul, q_rep, q_mod, q_div, q_pow, q_ixl, q_ixs, q_ixt, q_ixk, q_ixstr, c_eq, c_ne, c_lt, c_le, c_gt, c_ge, c_is, c_isn, c_isb, c_isnb, c_in, c_nin, c_ii, c_ss, c_bb, l_new0, l_new1, D.bl.injEq, D.int.injEq, wipeD, atI_lit, ixN_lit, q_ixmm, u_eqm, cm_r, cm_l, cm_mod, cd_s, cp_s, tn_lit, s1, ite_dec, ite_ndec, Nat.reduceLT, Nat.reduceLeDiff, Int.reduceLT, Int.reduceLE, Int.reduceNeg, Int.reducePow, if_true, if_false, ite_true, ite_false, true_and, and_true, Nat.reduceEqDiff, reduceIte, Int.reduceToNat, Bool.false_eq_true, qs_t, qs_str, qs_l, qs_s, qs_m, ov_l, ov_t, ov_s, ov_k, ov_m, ov_str, zp_ll, zp_tt, ex_two, ex_two0, ex_twoi, bi_lenl, bi_lent, bi_lens, bi_lenm, bi_lenstr, bi_abs, bi_max2, bi_min2, bi_sum, bi_inti, bi_intb, bi_stri, bi_listl, bi_listt, bi_lists, bi_listm, bi_tupl, bi_tups, bi_tupt, bi_tupm, r_get1, r_get2, m_get1i, m_get2i, eq_ni, eq_in, r_mm, m_append, m_extend, lst_mm, seq_mm, seq_l, seq_t, seq_s, seq_k, lst_l, lst_s, tup_t, tup_k, unp_t, unp_k, unp_l, own_l, own_mm, isNop, partE, exists_eq_left, ex_len, q_ixf, ov_f, seq_f, tup_f, unp_f, bi_lenf, qs_f, c__law_due_0]
    intro c hc
    have hac : a ≠ c := fun e => by subst e; rw [mput_same] at hc; cases hc
    have hcM : M c = none := by rw [mput_ne hac.symm] at hc; exact hc
    refine loop (rowsTo bs os os.length) gR (fun j σ' M' => ∃ e6, σ' = [some (.lst (bs.map Bl.d)), some (.ft (os.map nD)), some (.mr a), some (.lst ((rowsTo bs os os.length).map gR)), e4, some (.mr c), e6] ∧ M' = mput (mput M a (.dK kvs)) c (.lst (((rowsTo bs os os.length).take j).map (mvD (placeOf bs os)))))
      ⟨_, rfl, rfl⟩ (fun _ _ _ _ _ => trivial) ?_ ?_
    · rintro j r hr σ' M' kk ⟨e6, rfl, rfl⟩ hk
      have hj := (List.getElem?_eq_some_iff.mp hr).1
      have ext : ((rowsTo bs os os.length).take j).map (mvD (placeOf bs os)) ++ [mvD (placeOf bs os) r] = ((rowsTo bs os os.length).take (j + 1)).map (mvD (placeOf bs os)) := by
        rw [List.take_add_one, hr, List.map_append]; rfl
      have hlen : (((rowsTo bs os os.length).take j).map (mvD (placeOf bs os))).length < sizeLine := len_lt (by rw [List.length_map, List.length_take]; omega)
      rcases rows_kind hg os (List.mem_of_getElem? hr) with ⟨e, rfl⟩ | rfl | ⟨x, hx, rfl⟩
      · simp only [Ev.wpS, Ev.wpE, Ev.wpA, Ev.wpT, ts_cons, ts_nil, Ev.wpB, Ev.wpI, lenE, List.map_cons, List.map_nil, List.length_cons, List.length_nil, List.replicate, Nat.reduceSub, Nat.reduceAdd, List.cons_append, List.nil_append, List.getElem?_cons_zero, List.getElem?_cons_succ, List.set_cons_zero, List.set_cons_succ, Option.some.injEq, exists_eq_left', q_add, q_adds, q_addt, q_addl, q_sub, q_mul, q_rep, q_mod, q_div, q_pow, q_ixl, q_ixs, q_ixt, q_ixk, q_ixstr, c_eq, c_ne, c_lt, c_le, c_gt, c_ge, c_is, c_isn, c_isb, c_isnb, c_in, c_nin, c_ii, c_ss, c_bb, l_new0, l_new1, D.bl.injEq, D.int.injEq, wipeD, atI_lit, ixN_lit, q_ixmm, u_eqm, cm_r, cm_l, cm_mod, cd_s, cp_s, tn_lit, s1, ite_dec, ite_ndec, Nat.reduceLT, Nat.reduceLeDiff, Int.reduceLT, Int.reduceLE, Int.reduceNeg, Int.reducePow, if_true, if_false, ite_true, ite_false, true_and, and_true, Nat.reduceEqDiff, reduceIte, Int.reduceToNat, Bool.false_eq_true, qs_t, qs_str, qs_l, qs_s, qs_m, ov_l, ov_t, ov_s, ov_k, ov_m, ov_str, zp_ll, zp_tt, ex_two, ex_two0, ex_twoi, bi_lenl, bi_lent, bi_lens, bi_lenm, bi_lenstr, bi_abs, bi_max2, bi_min2, bi_sum, bi_inti, bi_intb, bi_stri, bi_listl, bi_listt, bi_lists, bi_listm, bi_tupl, bi_tups, bi_tupt, bi_tupm, r_get1, r_get2, m_get1i, m_get2i, eq_ni, eq_in, r_mm, m_append, m_extend, lst_mm, seq_mm, seq_l, seq_t, seq_s, seq_k, lst_l, lst_s, tup_t, tup_k, unp_t, unp_k, unp_l, own_l, own_mm, isNop, partE, exists_eq_left, ex_len, q_ixf, ov_f, seq_f, tup_f, unp_f, bi_lenf, qs_f, ne_say_stop, ne_say_go, ne_say_jump, ne_stop_say, ne_stop_go, ne_stop_jump, ne_go_say, ne_go_stop, ne_go_jump, ne_jump_say, ne_jump_stop, ne_jump_go, gR_st, gR_stop]
        refine ⟨hlen, ?_⟩
        have ext : ((rowsTo bs os os.length).take j).map (mvD (placeOf bs os)) ++ [.tup [.str "say", e]] = _ := ext
        rw [ext]
        exact hk _ _ ⟨_, rfl, rfl⟩
      · simp only [Ev.wpS, Ev.wpE, Ev.wpA, Ev.wpT, ts_cons, ts_nil, Ev.wpB, Ev.wpI, lenE, List.map_cons, List.map_nil, List.length_cons, List.length_nil, List.replicate, Nat.reduceSub, Nat.reduceAdd, List.cons_append, List.nil_append, List.getElem?_cons_zero, List.getElem?_cons_succ, List.set_cons_zero, List.set_cons_succ, Option.some.injEq, exists_eq_left', q_add, q_adds, q_addt, q_addl, q_sub, q_mul, q_rep, q_mod, q_div, q_pow, q_ixl, q_ixs, q_ixt, q_ixk, q_ixstr, c_eq, c_ne, c_lt, c_le, c_gt, c_ge, c_is, c_isn, c_isb, c_isnb, c_in, c_nin, c_ii, c_ss, c_bb, l_new0, l_new1, D.bl.injEq, D.int.injEq, wipeD, atI_lit, ixN_lit, q_ixmm, u_eqm, cm_r, cm_l, cm_mod, cd_s, cp_s, tn_lit, s1, ite_dec, ite_ndec, Nat.reduceLT, Nat.reduceLeDiff, Int.reduceLT, Int.reduceLE, Int.reduceNeg, Int.reducePow, if_true, if_false, ite_true, ite_false, true_and, and_true, Nat.reduceEqDiff, reduceIte, Int.reduceToNat, Bool.false_eq_true, qs_t, qs_str, qs_l, qs_s, qs_m, ov_l, ov_t, ov_s, ov_k, ov_m, ov_str, zp_ll, zp_tt, ex_two, ex_two0, ex_twoi, bi_lenl, bi_lent, bi_lens, bi_lenm, bi_lenstr, bi_abs, bi_max2, bi_min2, bi_sum, bi_inti, bi_intb, bi_stri, bi_listl, bi_listt, bi_lists, bi_listm, bi_tupl, bi_tups, bi_tupt, bi_tupm, r_get1, r_get2, m_get1i, m_get2i, eq_ni, eq_in, r_mm, m_append, m_extend, lst_mm, seq_mm, seq_l, seq_t, seq_s, seq_k, lst_l, lst_s, tup_t, tup_k, unp_t, unp_k, unp_l, own_l, own_mm, isNop, partE, exists_eq_left, ex_len, q_ixf, ov_f, seq_f, tup_f, unp_f, bi_lenf, qs_f, ne_say_stop, ne_say_go, ne_say_jump, ne_stop_say, ne_stop_go, ne_stop_jump, ne_go_say, ne_go_stop, ne_go_jump, ne_jump_say, ne_jump_stop, ne_jump_go, gR_st, gR_stop]
        refine ⟨hlen, ?_⟩
        have ext : ((rowsTo bs os os.length).take j).map (mvD (placeOf bs os)) ++ [.tup [.str "stop"]] = _ := ext
        rw [ext]
        exact hk _ _ ⟨_, rfl, rfl⟩
      · have hA : (mput (mput M a (.dK kvs)) c (.lst (((rowsTo bs os os.length).take j).map (mvD (placeOf bs os))))) a = some (.dK kvs) := by rw [mput_ne hac, mput_same]
        have hxp : getK kvs (.inl (x : Int)) = some (nD (placeOf bs os x)) := by
          obtain ⟨i, hi⟩ := List.getElem?_of_mem (ha x hx)
          rw [hk4 i x (List.getElem?_eq_some_iff.mp hi).1 hi]
          unfold placeOf
          rw [idxOf_at hn hi]
        simp only [Ev.wpS, Ev.wpE, Ev.wpA, Ev.wpT, ts_cons, ts_nil, Ev.wpB, Ev.wpI, lenE, List.map_cons, List.map_nil, List.length_cons, List.length_nil, List.replicate, Nat.reduceSub, Nat.reduceAdd, List.cons_append, List.nil_append, List.getElem?_cons_zero, List.getElem?_cons_succ, List.set_cons_zero, List.set_cons_succ, Option.some.injEq, exists_eq_left', q_add, q_adds, q_addt, q_addl, q_sub, q_mul, q_rep, q_mod, q_div, q_pow, q_ixl, q_ixs, q_ixt, q_ixk, q_ixstr, c_eq, c_ne, c_lt, c_le, c_gt, c_ge, c_is, c_isn, c_isb, c_isnb, c_in, c_nin, c_ii, c_ss, c_bb, l_new0, l_new1, D.bl.injEq, D.int.injEq, wipeD, atI_lit, ixN_lit, q_ixmm, u_eqm, cm_r, cm_l, cm_mod, cd_s, cp_s, tn_lit, s1, ite_dec, ite_ndec, Nat.reduceLT, Nat.reduceLeDiff, Int.reduceLT, Int.reduceLE, Int.reduceNeg, Int.reducePow, if_true, if_false, ite_true, ite_false, true_and, and_true, Nat.reduceEqDiff, reduceIte, Int.reduceToNat, Bool.false_eq_true, qs_t, qs_str, qs_l, qs_s, qs_m, ov_l, ov_t, ov_s, ov_k, ov_m, ov_str, zp_ll, zp_tt, ex_two, ex_two0, ex_twoi, bi_lenl, bi_lent, bi_lens, bi_lenm, bi_lenstr, bi_abs, bi_max2, bi_min2, bi_sum, bi_inti, bi_intb, bi_stri, bi_listl, bi_listt, bi_lists, bi_listm, bi_tupl, bi_tups, bi_tupt, bi_tupm, r_get1, r_get2, m_get1i, m_get2i, eq_ni, eq_in, r_mm, m_append, m_extend, lst_mm, seq_mm, seq_l, seq_t, seq_s, seq_k, lst_l, lst_s, tup_t, tup_k, unp_t, unp_k, unp_l, own_l, own_mm, isNop, partE, exists_eq_left, ex_len, q_ixf, ov_f, seq_f, tup_f, unp_f, bi_lenf, qs_f, ne_say_stop, ne_say_go, ne_say_jump, ne_stop_say, ne_stop_go, ne_stop_jump, ne_go_say, ne_go_stop, ne_go_jump, ne_jump_say, ne_jump_stop, ne_jump_go, gR_jump, q_ixd hA, hxp]
        refine ⟨hlen, ?_⟩
        have ext : ((rowsTo bs os os.length).take j).map (mvD (placeOf bs os)) ++ [.tup [.str "jump", nD (placeOf bs os x)]] = _ := ext
        rw [ext]
        exact hk _ _ ⟨_, rfl, rfl⟩
    · rintro σ' M' ⟨e6, rfl, rfl⟩
      rw [List.take_length]
      simp only [Ev.wpS, Ev.wpE, Ev.wpA, Ev.wpT, ts_cons, ts_nil, Ev.wpB, Ev.wpI, lenE, List.map_cons, List.map_nil, List.length_cons, List.length_nil, List.replicate, Nat.reduceSub, Nat.reduceAdd, List.cons_append, List.nil_append, List.getElem?_cons_zero, List.getElem?_cons_succ, List.set_cons_zero, List.set_cons_succ, Option.some.injEq, exists_eq_left', q_add, q_adds, q_addt, q_addl, q_sub, q_mul, q_rep, q_mod, q_div, q_pow, q_ixl, q_ixs, q_ixt, q_ixk, q_ixstr, c_eq, c_ne, c_lt, c_le, c_gt, c_ge, c_is, c_isn, c_isb, c_isnb, c_in, c_nin, c_ii, c_ss, c_bb, l_new0, l_new1, D.bl.injEq, D.int.injEq, wipeD, atI_lit, ixN_lit, q_ixmm, u_eqm, cm_r, cm_l, cm_mod, cd_s, cp_s, tn_lit, s1, ite_dec, ite_ndec, Nat.reduceLT, Nat.reduceLeDiff, Int.reduceLT, Int.reduceLE, Int.reduceNeg, Int.reducePow, if_true, if_false, ite_true, ite_false, true_and, and_true, Nat.reduceEqDiff, reduceIte, Int.reduceToNat, Bool.false_eq_true, qs_t, qs_str, qs_l, qs_s, qs_m, ov_l, ov_t, ov_s, ov_k, ov_m, ov_str, zp_ll, zp_tt, ex_two, ex_two0, ex_twoi, bi_lenl, bi_lent, bi_lens, bi_lenm, bi_lenstr, bi_abs, bi_max2, bi_min2, bi_sum, bi_inti, bi_intb, bi_stri, bi_listl, bi_listt, bi_lists, bi_listm, bi_tupl, bi_tups, bi_tupt, bi_tupm, r_get1, r_get2, m_get1i, m_get2i, eq_ni, eq_in, r_mm, m_append, m_extend, lst_mm, seq_mm, seq_l, seq_t, seq_s, seq_k, lst_l, lst_s, tup_t, tup_k, unp_t, unp_k, unp_l, own_l, own_mm, isNop, partE, exists_eq_left, ex_len, q_ixf, ov_f, seq_f, tup_f, unp_f, bi_lenf, qs_f]
      refine ⟨_, .lst hcM mput_same (.refl _), ?_⟩
      rw [restr_new hcM, restr_new haM, restr_self]
      have e1 : (rowsTo bs os os.length).map (mvD (placeOf bs os)) = (laidF bs os).map Rw.d := by unfold laidF; rw [List.map_map]; rfl
      rw [e1]
      exact q

structure Bs16 (bx : List (Str × Int)) (many : Nat) (bs : List Bl) : Prop where
  bt : ∀ b ∈ bs, BlT bx many b
  go : Gos many bs
theorem tail16 {M : Mem} {b : Addr} {bx : List (Str × Int)} {bs : List Bl} {os : List Nat} {e0 e1 e2 e4 e7 e12 e13 e14 : Option D} {q : Qs} (hM : M b = some (.lst (bs.map Bl.d))) (hx : bx.length ≤ 100) (hB : Bs16 bx bs.length bs) (h10 : bs.length ≤ 10) (hpos : 0 < bs.length) (hp : os.Perm (List.range bs.length)) (h : ∀ M', q.rt (.bl true) M') :
    Ev.wpS ⟨callK T gl 49, gl⟩ W0 c_law_1 [e0, e1, e2, some (.lst (bx.map bxD)), e4, some (.ft (os.map nD)), some (.mr b), e7, none, none, none, none, e12, e13, e14, none] M q := by
  have hT := hB.bt
  have h8 : ∀ b ∈ bs, b.st.length ≤ 8 := fun b hb => (hT b hb).len
  have hOk : ∀ b ∈ bs, BlOk bs.length b := fun b hb => (hT b hb).ok
  obtain ⟨o1, o2, o3, o4⟩ := perm_facts hp
  simp only [Ev.wpS, Ev.wpE, Ev.wpA, Ev.wpT, ts_cons, ts_nil, Ev.wpB, Ev.wpI, lenE, List.map_cons, List.map_nil, List.length_cons, List.length_nil, List.replicate, Nat.reduceSub, Nat.reduceAdd, List.cons_append, List.nil_append, List.getElem?_cons_zero, List.getElem?_cons_succ, List.set_cons_zero, List.set_cons_succ, Option.some.injEq, exists_eq_left', q_add, q_adds, q_addt, q_addl, q_sub, q_mul, q_rep, q_mod, q_div, q_pow, q_ixl, q_ixs, q_ixt, q_ixk, q_ixstr, c_eq, c_ne, c_lt, c_le, c_gt, c_ge, c_is, c_isn, c_isb, c_isnb, c_in, c_nin, c_ii, c_ss, c_bb, l_new0, l_new1, D.bl.injEq, D.int.injEq, wipeD, atI_lit, ixN_lit, q_ixmm, u_eqm, cm_r, cm_l, cm_mod, cd_s, cp_s, tn_lit, s1, ite_dec, ite_ndec, Nat.reduceLT, Nat.reduceLeDiff, Int.reduceLT, Int.reduceLE, Int.reduceNeg, Int.reducePow, if_true, if_false, ite_true, ite_false, true_and, and_true, Nat.reduceEqDiff, reduceIte, Int.reduceToNat, Bool.false_eq_true, qs_t, qs_str, qs_l, qs_s, qs_m, ov_l, ov_t, ov_s, ov_k, ov_m, ov_str, zp_ll, zp_tt, ex_two, ex_two0, ex_twoi, bi_lenl, bi_lent, bi_lens, bi_lenm, bi_lenstr, bi_abs, bi_max2, bi_min2, bi_sum, bi_inti, bi_intb, bi_stri, bi_listl, bi_listt, bi_lists, bi_listm, bi_tupl, bi_tups, bi_tupt, bi_tupm, r_get1, r_get2, m_get1i, m_get2i, eq_ni, eq_in, r_mm, m_append, m_extend, lst_mm, seq_mm, seq_l, seq_t, seq_s, seq_k, lst_l, lst_s, tup_t, tup_k, unp_t, unp_k, unp_l, own_l, own_mm, isNop, partE, exists_eq_left, ex_len, q_ixf, ov_f, seq_f, tup_f, unp_f, bi_lenf, qs_f, c_law_1]
  refine ⟨_, fun _ => none, _, rfl, .lst rfl hM (.refl _), ?_⟩
  rw [restr_none]
  have epr : D.tup [.lst (bx.map bxD), .lst (bs.map Bl.d)] = prD bx bs := rfl
  rw [epr]
  refine copied_f (k := 48) (by omega) (by omega) h8 ?_
  refine due_f (k := 47) hOk hB.go h10 o1 o2 o3 (by omega) ?_
  refine laid_ok (k := 47) hOk h10 o1 o2 o3 (by omega) fun L M2 hL hM2 hk2 => ?_
  have hll := rowsTo_len hOk os os.length
  have tl := tree_laid hT (os := os) (by omega)
  refine alike_mr (n := 6) (k := 41) hM2 tl (b_true ?_)
  try simp only [Ev.wpS, Ev.wpE, Ev.wpA, Ev.wpT, ts_cons, ts_nil, Ev.wpB, Ev.wpI, lenE, List.map_cons, List.map_nil, List.length_cons, List.length_nil, List.replicate, Nat.reduceSub, Nat.reduceAdd, List.cons_append, List.nil_append, List.getElem?_cons_zero, List.getElem?_cons_succ, List.set_cons_zero, List.set_cons_succ, Option.some.injEq, exists_eq_left', q_add, q_adds, q_addt, q_addl, q_sub, q_mul, q_rep, q_mod, q_div, q_pow, q_ixl, q_ixs, q_ixt, q_ixk, q_ixstr, c_eq, c_ne, c_lt, c_le, c_gt, c_ge, c_is, c_isn, c_isb, c_isnb, c_in, c_nin, c_ii, c_ss, c_bb, l_new0, l_new1, D.bl.injEq, D.int.injEq, wipeD, atI_lit, ixN_lit, q_ixmm, u_eqm, cm_r, cm_l, cm_mod, cd_s, cp_s, tn_lit, s1, ite_dec, ite_ndec, Nat.reduceLT, Nat.reduceLeDiff, Int.reduceLT, Int.reduceLE, Int.reduceNeg, Int.reducePow, if_true, if_false, ite_true, ite_false, true_and, and_true, Nat.reduceEqDiff, reduceIte, Int.reduceToNat, Bool.false_eq_true, qs_t, qs_str, qs_l, qs_s, qs_m, ov_l, ov_t, ov_s, ov_k, ov_m, ov_str, zp_ll, zp_tt, ex_two, ex_two0, ex_twoi, bi_lenl, bi_lent, bi_lens, bi_lenm, bi_lenstr, bi_abs, bi_max2, bi_min2, bi_sum, bi_inti, bi_intb, bi_stri, bi_listl, bi_listt, bi_lists, bi_listm, bi_tupl, bi_tups, bi_tupt, bi_tupm, r_get1, r_get2, m_get1i, m_get2i, eq_ni, eq_in, r_mm, m_append, m_extend, lst_mm, seq_mm, seq_l, seq_t, seq_s, seq_k, lst_l, lst_s, tup_t, tup_k, unp_t, unp_k, unp_l, own_l, own_mm, isNop, partE, exists_eq_left, ex_len, q_ixf, ov_f, seq_f, tup_f, unp_f, bi_lenf, qs_f, Bool.not_true]
  refine ⟨rh hM2 trivial, mh_append hM2 (len_lt (by unfold laidF; rw [List.length_map, List.length_map]; omega)) ?_⟩
  refine laid_ok (k := 47) hOk h10 o1 o2 o3 (by omega) fun L3 M3 hL3 hM3 hk3 => ?_
  refine alike_mr (n := 6) (k := 41) hM3 tl (f_refl ?_)
  try simp only [Ev.wpS, Ev.wpE, Ev.wpA, Ev.wpT, ts_cons, ts_nil, Ev.wpB, Ev.wpI, lenE, List.map_cons, List.map_nil, List.length_cons, List.length_nil, List.replicate, Nat.reduceSub, Nat.reduceAdd, List.cons_append, List.nil_append, List.getElem?_cons_zero, List.getElem?_cons_succ, List.set_cons_zero, List.set_cons_succ, Option.some.injEq, exists_eq_left', q_add, q_adds, q_addt, q_addl, q_sub, q_mul, q_rep, q_mod, q_div, q_pow, q_ixl, q_ixs, q_ixt, q_ixk, q_ixstr, c_eq, c_ne, c_lt, c_le, c_gt, c_ge, c_is, c_isn, c_isb, c_isnb, c_in, c_nin, c_ii, c_ss, c_bb, l_new0, l_new1, D.bl.injEq, D.int.injEq, wipeD, atI_lit, ixN_lit, q_ixmm, u_eqm, cm_r, cm_l, cm_mod, cd_s, cp_s, tn_lit, s1, ite_dec, ite_ndec, Nat.reduceLT, Nat.reduceLeDiff, Int.reduceLT, Int.reduceLE, Int.reduceNeg, Int.reducePow, if_true, if_false, ite_true, ite_false, true_and, and_true, Nat.reduceEqDiff, reduceIte, Int.reduceToNat, Bool.false_eq_true, qs_t, qs_str, qs_l, qs_s, qs_m, ov_l, ov_t, ov_s, ov_k, ov_m, ov_str, zp_ll, zp_tt, ex_two, ex_two0, ex_twoi, bi_lenl, bi_lent, bi_lens, bi_lenm, bi_lenstr, bi_abs, bi_max2, bi_min2, bi_sum, bi_inti, bi_intb, bi_stri, bi_listl, bi_listt, bi_lists, bi_listm, bi_tupl, bi_tups, bi_tupt, bi_tupm, r_get1, r_get2, m_get1i, m_get2i, eq_ni, eq_in, r_mm, m_append, m_extend, lst_mm, seq_mm, seq_l, seq_t, seq_s, seq_k, lst_l, lst_s, tup_t, tup_k, unp_t, unp_k, unp_l, own_l, own_mm, isNop, partE, exists_eq_left, ex_len, q_ixf, ov_f, seq_f, tup_f, unp_f, bi_lenf, qs_f]
  refine alike_ok 10 (k := 38) (tree_pr (many := bs.length) (by omega) (by omega) hT) ?_
  exact f_refl (h _)
theorem all16 {M : Mem} {r : Addr} {bx : List (Str × Int)} {nms : List (List Nat)} {cs : List Int} {e0 : Option D} {q : Qs} (hr : Pot M r) (hbl : bx.length ≤ 100) (hst : ∀ b ∈ bx, PySem.PyData.strOk b.1 = true) (hnl : nms.length = 14) (hN : NamesOk nms) (hpos : 0 < cs.length) (h10 : cs.length ≤ 10) (h : ∀ M', q.rt (.bl true) M') :
    Ev.wpS ⟨callK T gl 49, gl⟩ W0 c_law_2 [e0, some (.lst (nms.map nmD)), some (.mr r), some (.lst (bx.map bxD)), some (.lst (cs.map .int)), none, none, none, none, none, none, none, none, none, none, none] M q := by
  simp only [Ev.wpS, Ev.wpE, Ev.wpA, Ev.wpT, ts_cons, ts_nil, Ev.wpB, Ev.wpI, lenE, List.map_cons, List.map_nil, List.length_cons, List.length_nil, List.replicate, Nat.reduceSub, Nat.reduceAdd, List.cons_append, List.nil_append, List.getElem?_cons_zero, List.getElem?_cons_succ, List.set_cons_zero, List.set_cons_succ, Option.some.injEq, exists_eq_left', q_add, q_adds, q_addt, q_addl, q_sub, q_mul, q_rep, q_mod, q_div, q_pow, q_ixl, q_ixs, q_ixt, q_ixk, q_ixstr, c_eq, c_ne, c_lt, c_le, c_gt, c_ge, c_is, c_isn, c_isb, c_isnb, c_in, c_nin, c_ii, c_ss, c_bb, l_new0, l_new1, D.bl.injEq, D.int.injEq, wipeD, atI_lit, ixN_lit, q_ixmm, u_eqm, cm_r, cm_l, cm_mod, cd_s, cp_s, tn_lit, s1, ite_dec, ite_ndec, Nat.reduceLT, Nat.reduceLeDiff, Int.reduceLT, Int.reduceLE, Int.reduceNeg, Int.reducePow, if_true, if_false, ite_true, ite_false, true_and, and_true, Nat.reduceEqDiff, reduceIte, Int.reduceToNat, Bool.false_eq_true, qs_t, qs_str, qs_l, qs_s, qs_m, ov_l, ov_t, ov_s, ov_k, ov_m, ov_str, zp_ll, zp_tt, ex_two, ex_two0, ex_twoi, bi_lenl, bi_lent, bi_lens, bi_lenm, bi_lenstr, bi_abs, bi_max2, bi_min2, bi_sum, bi_inti, bi_intb, bi_stri, bi_listl, bi_listt, bi_lists, bi_listm, bi_tupl, bi_tups, bi_tupt, bi_tupm, r_get1, r_get2, m_get1i, m_get2i, eq_ni, eq_in, r_mm, m_append, m_extend, lst_mm, seq_mm, seq_l, seq_t, seq_s, seq_k, lst_l, lst_s, tup_t, tup_k, unp_t, unp_k, unp_l, own_l, own_mm, isNop, partE, exists_eq_left, ex_len, q_ixf, ov_f, seq_f, tup_f, unp_f, bi_lenf, qs_f, c_law_2, List.length_map]
  refine order_f (k := 47) hr hpos h10 fun os c n hperm _ => ?_
  intro b hb
  refine ⟨by omega, by omega, ?_⟩
  rw [rg_nat]
  refine loop (List.range cs.length) _ (fun j σ' M' => ∃ e7 e12 e13 e14, ∃ bs : List Bl, σ' = [e0, some (.lst (nms.map nmD)), some (.mr r), some (.lst (bx.map bxD)), some (.lst (cs.map .int)), some (.ft (os.map nD)), some (.mr b), e7, none, none, none, none, e12, e13, e14, none] ∧ M' b = some (.lst (bs.map Bl.d)) ∧ bs.length = j ∧ Bs16 bx cs.length bs)
    ⟨_, _, _, _, [], rfl, mput_same, rfl, fun _ h => (by cases h), fun _ h => (by cases h), fun _ h => (by cases h)⟩ (fun _ _ _ _ _ => trivial) ?_ ?_
  · rintro j x hx σ' M' kk ⟨e7, e12, e13, e14, bs, rfl, hM, hbl', hB⟩ hk
    obtain ⟨hj, rfl⟩ := rng_at hx
    have hat : atI (cs.map D.int) (x : Int) = some (.int cs[x]) := by rw [Ev.atI_nat, List.getElem?_map, List.getElem?_eq_getElem hj]; rfl
    simp only [Ev.wpS, Ev.wpE, Ev.wpA, Ev.wpT, ts_cons, ts_nil, Ev.wpB, Ev.wpI, lenE, List.map_cons, List.map_nil, List.length_cons, List.length_nil, List.replicate, Nat.reduceSub, Nat.reduceAdd, List.cons_append, List.nil_append, List.getElem?_cons_zero, List.getElem?_cons_succ, List.set_cons_zero, List.set_cons_succ, Option.some.injEq, exists_eq_left', q_add, q_adds, q_addt, q_addl, q_sub, q_mul, q_rep, q_mod, q_div, q_pow, q_ixl, q_ixs, q_ixt, q_ixk, q_ixstr, c_eq, c_ne, c_lt, c_le, c_gt, c_ge, c_is, c_isn, c_isb, c_isnb, c_in, c_nin, c_ii, c_ss, c_bb, l_new0, l_new1, D.bl.injEq, D.int.injEq, wipeD, atI_lit, ixN_lit, q_ixmm, u_eqm, cm_r, cm_l, cm_mod, cd_s, cp_s, tn_lit, s1, ite_dec, ite_ndec, Nat.reduceLT, Nat.reduceLeDiff, Int.reduceLT, Int.reduceLE, Int.reduceNeg, Int.reducePow, if_true, if_false, ite_true, ite_false, true_and, and_true, Nat.reduceEqDiff, reduceIte, Int.reduceToNat, Bool.false_eq_true, qs_t, qs_str, qs_l, qs_s, qs_m, ov_l, ov_t, ov_s, ov_k, ov_m, ov_str, zp_ll, zp_tt, ex_two, ex_two0, ex_twoi, bi_lenl, bi_lent, bi_lens, bi_lenm, bi_lenstr, bi_abs, bi_max2, bi_min2, bi_sum, bi_inti, bi_intb, bi_stri, bi_listl, bi_listt, bi_lists, bi_listm, bi_tupl, bi_tups, bi_tupt, bi_tupm, r_get1, r_get2, m_get1i, m_get2i, eq_ni, eq_in, r_mm, m_append, m_extend, lst_mm, seq_mm, seq_l, seq_t, seq_s, seq_k, lst_l, lst_s, tup_t, tup_k, unp_t, unp_k, unp_l, own_l, own_mm, isNop, partE, exists_eq_left, ex_len, q_ixf, ov_f, seq_f, tup_f, unp_f, bi_lenf, qs_f, c_law_0, hat]
    refine reel_ok (k := 48) fun p c n hp => ?_
    have hpb : b ≠ p := ne_of_some hp hM
    try simp only [Ev.wpS, Ev.wpE, Ev.wpA, Ev.wpT, ts_cons, ts_nil, Ev.wpB, Ev.wpI, lenE, List.map_cons, List.map_nil, List.length_cons, List.length_nil, List.replicate, Nat.reduceSub, Nat.reduceAdd, List.cons_append, List.nil_append, List.getElem?_cons_zero, List.getElem?_cons_succ, List.set_cons_zero, List.set_cons_succ, Option.some.injEq, exists_eq_left', q_add, q_adds, q_addt, q_addl, q_sub, q_mul, q_rep, q_mod, q_div, q_pow, q_ixl, q_ixs, q_ixt, q_ixk, q_ixstr, c_eq, c_ne, c_lt, c_le, c_gt, c_ge, c_is, c_isn, c_isb, c_isnb, c_in, c_nin, c_ii, c_ss, c_bb, l_new0, l_new1, D.bl.injEq, D.int.injEq, wipeD, atI_lit, ixN_lit, q_ixmm, u_eqm, cm_r, cm_l, cm_mod, cd_s, cp_s, tn_lit, s1, ite_dec, ite_ndec, Nat.reduceLT, Nat.reduceLeDiff, Int.reduceLT, Int.reduceLE, Int.reduceNeg, Int.reducePow, if_true, if_false, ite_true, ite_false, true_and, and_true, Nat.reduceEqDiff, reduceIte, Int.reduceToNat, Bool.false_eq_true, qs_t, qs_str, qs_l, qs_s, qs_m, ov_l, ov_t, ov_s, ov_k, ov_m, ov_str, zp_ll, zp_tt, ex_two, ex_two0, ex_twoi, bi_lenl, bi_lent, bi_lens, bi_lenm, bi_lenstr, bi_abs, bi_max2, bi_min2, bi_sum, bi_inti, bi_intb, bi_stri, bi_listl, bi_listt, bi_lists, bi_listm, bi_tupl, bi_tups, bi_tupt, bi_tupm, r_get1, r_get2, m_get1i, m_get2i, eq_ni, eq_in, r_mm, m_append, m_extend, lst_mm, seq_mm, seq_l, seq_t, seq_s, seq_k, lst_l, lst_s, tup_t, tup_k, unp_t, unp_k, unp_l, own_l, own_mm, isNop, partE, exists_eq_left, ex_len, q_ixf, ov_f, seq_f, tup_f, unp_f, bi_lenf, qs_f, List.length_map]
    refine next_n (k := 48) cs.length .same rfl hpos (by omega) fun y c n hy => ?_
    rw [potM_potM]
    refine next_n (k := 48) 5 .same rfl (by decide) (by decide) fun z c n hz => ?_
    rw [potM_potM]
    have key : ∀ e : En, (e = .stop ∨ ∃ y, y < cs.length ∧ e = .go y) → callK T gl 49 "_law_take" [.mr p, .int 4] (potM M' p c n)
        (frzQ (potM M' p c n) fun x_1 M1 => ∃ j : Int, x_1 = D.int j ∧ -4611686018427387904 ≤ j ∧ j < 4611686018427387904 ∧ ∀ (L : Addr), M1 L = none →
          compQ L (fun d M2 k => callK T gl 49 "_law_tree" [D.mr p, D.lst (bx.map bxD), D.int 1] M2 (frzQ M2 fun x M1 => k (some (D.tup [D.str "say", x])) M1) fun _ _ => False) (fun _ => True) (rgD 0 j) (mput M1 L (.lst [])) fun acc M2 =>
            recvOk MI.append (mdel M2 L) (D.mr b) ∧ ∃ d, atI (nms.map nmD) (13 - (x : Int)) = some d ∧
              miQ MI.append false (mdel M2 L) (D.mr b) [D.tup [d, D.lst acc, e.d]] fun x_2 M1 =>
                kk [e0, some (.lst (nms.map nmD)), some (.mr r), some (.lst (bx.map bxD)), some (.lst (cs.map .int)), some (.ft (os.map nD)), some (.mr b), some (.int (x : Int)), none, none, none, none, some (.mr p), some e.d, some (.lst acc), none] M1) W0 := fun e he => by
      refine next_n (k := 48) 4 .same rfl (by decide) (by decide) fun u c n hu => ?_
      rw [potM_potM]
      refine ⟨_, rfl, by omega, by omega, fun L hL => ?_⟩
      rw [rg_nat]
      refine comp_pot .same hL (fun y => ∃ ex : Ex, y = D.tup [.str "say", ex.d] ∧ Tr bx 4 ex) (sz_le (by rw [List.length_range]; omega)) (fun _ => trivial) (fun z _ M2 k2 hp' hk' => ?_) ?_
      · exact tree_f 0 (k := 46) (leaves := 1) (by decide) hp' hbl hst (by decide) fun ex c n hex => hk' _ _ _ ⟨ex, rfl, hex.mono 4 (by decide)⟩
      intro ys c n hyl hy
      obtain ⟨es, rfl, hes⟩ := map_of (fun ex : Ex => D.tup [.str "say", ex.d]) (fun ex => Tr bx 4 ex) hy
      rw [List.length_map, List.length_range] at hyl
      have hLp : L ≠ p := (pot_ne .same hL).symm
      rw [potM_ne hLp] at hL
      rw [potM_potM, mdel_mput (by rw [potM_ne hLp]; exact hL)]
      have hb' : potM M' p c n b = some (.lst (bs.map Bl.d)) := by rw [potM_ne hpb]; exact hM
      have h13 : atI (nms.map nmD) (13 - (x : Int)) = some (.str (sL (nms[13 - x]'(by omega)))) := by
        rw [show (13 : Int) - (x : Int) = ((13 - x : Nat) : Int) from by omega]; exact nm_at (by omega)
      refine ⟨rh hb' trivial, _, h13, mh_append hb' (len_lt (by rw [List.length_map]; omega)) ?_⟩
      have hT : BlT bx cs.length ⟨sL (nms[13 - x]'(by omega)), es.map fun ex : Ex => D.tup [.str "say", ex.d], e⟩ := by
        refine ⟨⟨es.map Stm.say, by rw [List.map_map]; rfl, fun s hs => ?_⟩, by show (es.map _).length ≤ 8; rw [List.length_map]; omega, ?_⟩
        · obtain ⟨ex, hex, rfl⟩ := List.mem_map.mp hs
          exact hes ex hex
        · rcases he with rfl | ⟨y, hy, rfl⟩
          · trivial
          · exact hy
      refine hk _ _ ⟨_, _, _, _, bs ++ [⟨sL (nms[13 - x]'(by omega)), es.map fun ex : Ex => D.tup [.str "say", ex.d], e⟩], rfl, ?_, by simp; omega, fun w hw => ?_, fun w hw d hd => ?_, fun w hw => ?_⟩
      · rw [mput_same, List.map_append]; rfl
      · rcases List.mem_append.mp hw with hw | hw
        · exact hB.bt w hw
        · rw [List.mem_singleton] at hw; subst hw; exact hT
      · rcases List.mem_append.mp hw with hw | hw
        · exact hB.go.st w hw d hd
        · rw [List.mem_singleton] at hw; subst hw
          obtain ⟨ex, _, rfl⟩ := List.mem_map.mp hd
          exact ⟨_, rfl⟩
      · rcases List.mem_append.mp hw with hw | hw
        · exact hB.go.en w hw
        · rw [List.mem_singleton] at hw; subst hw; exact he
    by_cases hz0 : z = 0
    · try simp only [Ev.wpS, Ev.wpE, Ev.wpA, Ev.wpT, ts_cons, ts_nil, Ev.wpB, Ev.wpI, lenE, List.map_cons, List.map_nil, List.length_cons, List.length_nil, List.replicate, Nat.reduceSub, Nat.reduceAdd, List.cons_append, List.nil_append, List.getElem?_cons_zero, List.getElem?_cons_succ, List.set_cons_zero, List.set_cons_succ, Option.some.injEq, exists_eq_left', q_add, q_adds, q_addt, q_addl, q_sub, q_mul, q_rep, q_mod, q_div, q_pow, q_ixl, q_ixs, q_ixt, q_ixk, q_ixstr, c_eq, c_ne, c_lt, c_le, c_gt, c_ge, c_is, c_isn, c_isb, c_isnb, c_in, c_nin, c_ii, c_ss, c_bb, l_new0, l_new1, D.bl.injEq, D.int.injEq, wipeD, atI_lit, ixN_lit, q_ixmm, u_eqm, cm_r, cm_l, cm_mod, cd_s, cp_s, tn_lit, s1, ite_dec, ite_ndec, Nat.reduceLT, Nat.reduceLeDiff, Int.reduceLT, Int.reduceLE, Int.reduceNeg, Int.reducePow, if_true, if_false, ite_true, ite_false, true_and, and_true, Nat.reduceEqDiff, reduceIte, Int.reduceToNat, Bool.false_eq_true, qs_t, qs_str, qs_l, qs_s, qs_m, ov_l, ov_t, ov_s, ov_k, ov_m, ov_str, zp_ll, zp_tt, ex_two, ex_two0, ex_twoi, bi_lenl, bi_lent, bi_lens, bi_lenm, bi_lenstr, bi_abs, bi_max2, bi_min2, bi_sum, bi_inti, bi_intb, bi_stri, bi_listl, bi_listt, bi_lists, bi_listm, bi_tupl, bi_tups, bi_tupt, bi_tupm, r_get1, r_get2, m_get1i, m_get2i, eq_ni, eq_in, r_mm, m_append, m_extend, lst_mm, seq_mm, seq_l, seq_t, seq_s, seq_k, lst_l, lst_s, tup_t, tup_k, unp_t, unp_k, unp_l, own_l, own_mm, isNop, partE, exists_eq_left, ex_len, q_ixf, ov_f, seq_f, tup_f, unp_f, bi_lenf, qs_f]
      rw [if_pos (by omega)]
      exact key .stop (.inl rfl)
    · try simp only [Ev.wpS, Ev.wpE, Ev.wpA, Ev.wpT, ts_cons, ts_nil, Ev.wpB, Ev.wpI, lenE, List.map_cons, List.map_nil, List.length_cons, List.length_nil, List.replicate, Nat.reduceSub, Nat.reduceAdd, List.cons_append, List.nil_append, List.getElem?_cons_zero, List.getElem?_cons_succ, List.set_cons_zero, List.set_cons_succ, Option.some.injEq, exists_eq_left', q_add, q_adds, q_addt, q_addl, q_sub, q_mul, q_rep, q_mod, q_div, q_pow, q_ixl, q_ixs, q_ixt, q_ixk, q_ixstr, c_eq, c_ne, c_lt, c_le, c_gt, c_ge, c_is, c_isn, c_isb, c_isnb, c_in, c_nin, c_ii, c_ss, c_bb, l_new0, l_new1, D.bl.injEq, D.int.injEq, wipeD, atI_lit, ixN_lit, q_ixmm, u_eqm, cm_r, cm_l, cm_mod, cd_s, cp_s, tn_lit, s1, ite_dec, ite_ndec, Nat.reduceLT, Nat.reduceLeDiff, Int.reduceLT, Int.reduceLE, Int.reduceNeg, Int.reducePow, if_true, if_false, ite_true, ite_false, true_and, and_true, Nat.reduceEqDiff, reduceIte, Int.reduceToNat, Bool.false_eq_true, qs_t, qs_str, qs_l, qs_s, qs_m, ov_l, ov_t, ov_s, ov_k, ov_m, ov_str, zp_ll, zp_tt, ex_two, ex_two0, ex_twoi, bi_lenl, bi_lent, bi_lens, bi_lenm, bi_lenstr, bi_abs, bi_max2, bi_min2, bi_sum, bi_inti, bi_intb, bi_stri, bi_listl, bi_listt, bi_lists, bi_listm, bi_tupl, bi_tups, bi_tupt, bi_tupm, r_get1, r_get2, m_get1i, m_get2i, eq_ni, eq_in, r_mm, m_append, m_extend, lst_mm, seq_mm, seq_l, seq_t, seq_s, seq_k, lst_l, lst_s, tup_t, tup_k, unp_t, unp_k, unp_l, own_l, own_mm, isNop, partE, exists_eq_left, ex_len, q_ixf, ov_f, seq_f, tup_f, unp_f, bi_lenf, qs_f]
      rw [if_neg (by omega)]
      exact key (.go y) (.inr ⟨y, hy, rfl⟩)
  · rintro σ' M' ⟨e7, e12, e13, e14, bs, rfl, hM, hbl', hB⟩
    rw [List.length_range] at hbl'
    rw [← hbl'] at hperm hB
    exact tail16 hM hbl hB (by omega) (by omega) hperm h
theorem main : ∀ ns : List Int, ns.length ≤ 63 → callK T gl 50 "law" [.scr (ns.map .int)] (fun _ => none) (fun d _ => d = .bl true) W0 := by
  intro ns hns
  refine callK_intro (d := d_law) rfl rfl ?_
  simp only [Ev.wpS, Ev.wpE, Ev.wpA, Ev.wpT, ts_cons, ts_nil, Ev.wpB, Ev.wpI, lenE, List.map_cons, List.map_nil, List.length_cons, List.length_nil, List.replicate, Nat.reduceSub, Nat.reduceAdd, List.cons_append, List.nil_append, List.getElem?_cons_zero, List.getElem?_cons_succ, List.set_cons_zero, List.set_cons_succ, Option.some.injEq, exists_eq_left', q_add, q_adds, q_addt, q_addl, q_sub, q_mul, q_rep, q_mod, q_div, q_pow, q_ixl, q_ixs, q_ixt, q_ixk, q_ixstr, c_eq, c_ne, c_lt, c_le, c_gt, c_ge, c_is, c_isn, c_isb, c_isnb, c_in, c_nin, c_ii, c_ss, c_bb, l_new0, l_new1, D.bl.injEq, D.int.injEq, wipeD, atI_lit, ixN_lit, q_ixmm, u_eqm, cm_r, cm_l, cm_mod, cd_s, cp_s, tn_lit, s1, ite_dec, ite_ndec, Nat.reduceLT, Nat.reduceLeDiff, Int.reduceLT, Int.reduceLE, Int.reduceNeg, Int.reducePow, if_true, if_false, ite_true, ite_false, true_and, and_true, Nat.reduceEqDiff, reduceIte, Int.reduceToNat, Bool.false_eq_true, qs_t, qs_str, qs_l, qs_s, qs_m, ov_l, ov_t, ov_s, ov_k, ov_m, ov_str, zp_ll, zp_tt, ex_two, ex_two0, ex_twoi, bi_lenl, bi_lent, bi_lens, bi_lenm, bi_lenstr, bi_abs, bi_max2, bi_min2, bi_sum, bi_inti, bi_intb, bi_stri, bi_listl, bi_listt, bi_lists, bi_listm, bi_tupl, bi_tups, bi_tupt, bi_tupm, r_get1, r_get2, m_get1i, m_get2i, eq_ni, eq_in, r_mm, m_append, m_extend, lst_mm, seq_mm, seq_l, seq_t, seq_s, seq_k, lst_l, lst_s, tup_t, tup_k, unp_t, unp_k, unp_l, own_l, own_mm, isNop, partE, exists_eq_left, ex_len, q_ixf, ov_f, seq_f, tup_f, unp_f, bi_lenf, qs_f, d_law]
  refine cell_at_f (i := 0) (k := 48) fun x0 => ?_
  refine reel_ok (k := 48) fun q0 c n hq0 => ?_
  refine names_g (k := 47) (many := 14) .same (by decide) (fun a ha => pot_sub ha) fun nms c n hnl hN => ?_
  rw [potM_potM, restr_none]
  have en : (nms.map fun l => D.str (sL l)) = nms.map nmD := rfl
  rw [en]
  refine cell_at_f (i := 1) (k := 48) fun x1 => ?_
  refine reel_ok (k := 48) fun r c n hr0 => ?_
  refine next_n (k := 48) 5 .same rfl (by decide) (by decide) fun v c n hv => ?_
  rw [potM_potM]
  refine ⟨_, rfl, by omega, by omega, fun L hL => ?_⟩
  rw [rg_nat]
  refine comp_pot .same hL (fun y => ∃ b : Str × Int, y = bxD b ∧ PySem.PyData.strOk b.1 = true) (sz_le (by rw [List.length_range]; omega)) (fun _ => trivial) (fun x hx M' kk hp' hk => ?_) ?_
  · rw [List.mem_range] at hx
    have hx5 : x < nms.length := by omega
    try simp only [Ev.wpS, Ev.wpE, Ev.wpA, Ev.wpT, ts_cons, ts_nil, Ev.wpB, Ev.wpI, lenE, List.map_cons, List.map_nil, List.length_cons, List.length_nil, List.replicate, Nat.reduceSub, Nat.reduceAdd, List.cons_append, List.nil_append, List.getElem?_cons_zero, List.getElem?_cons_succ, List.set_cons_zero, List.set_cons_succ, Option.some.injEq, exists_eq_left', q_add, q_adds, q_addt, q_addl, q_sub, q_mul, q_rep, q_mod, q_div, q_pow, q_ixl, q_ixs, q_ixt, q_ixk, q_ixstr, c_eq, c_ne, c_lt, c_le, c_gt, c_ge, c_is, c_isn, c_isb, c_isnb, c_in, c_nin, c_ii, c_ss, c_bb, l_new0, l_new1, D.bl.injEq, D.int.injEq, wipeD, atI_lit, ixN_lit, q_ixmm, u_eqm, cm_r, cm_l, cm_mod, cd_s, cp_s, tn_lit, s1, ite_dec, ite_ndec, Nat.reduceLT, Nat.reduceLeDiff, Int.reduceLT, Int.reduceLE, Int.reduceNeg, Int.reducePow, if_true, if_false, ite_true, ite_false, true_and, and_true, Nat.reduceEqDiff, reduceIte, Int.reduceToNat, Bool.false_eq_true, qs_t, qs_str, qs_l, qs_s, qs_m, ov_l, ov_t, ov_s, ov_k, ov_m, ov_str, zp_ll, zp_tt, ex_two, ex_two0, ex_twoi, bi_lenl, bi_lent, bi_lens, bi_lenm, bi_lenstr, bi_abs, bi_max2, bi_min2, bi_sum, bi_inti, bi_intb, bi_stri, bi_listl, bi_listt, bi_lists, bi_listm, bi_tupl, bi_tups, bi_tupt, bi_tupm, r_get1, r_get2, m_get1i, m_get2i, eq_ni, eq_in, r_mm, m_append, m_extend, lst_mm, seq_mm, seq_l, seq_t, seq_s, seq_k, lst_l, lst_s, tup_t, tup_k, unp_t, unp_k, unp_l, own_l, own_mm, isNop, partE, exists_eq_left, ex_len, q_ixf, ov_f, seq_f, tup_f, unp_f, bi_lenf, qs_f, nm_at hx5]
    refine next_n (k := 48) 1000 hp' rfl (by decide) (by decide) fun y c n hy => ?_
    exact hk _ _ _ ⟨(sL nms[x], (y : Int)), rfl, strOk_sL (hN.low _ (List.getElem_mem hx5)).1⟩
  intro ys c n hyl hy
  obtain ⟨bx, rfl, hbx⟩ := map_of bxD (fun b => PySem.PyData.strOk b.1 = true) hy
  rw [List.length_map, List.length_range] at hyl
  rw [potM_potM]
  have hLr : L ≠ r := (pot_ne .same hL).symm
  obtain ⟨cs0, ec, hc⟩ : ∃ cs0 : List Int, Ev.cutD (ns.map D.int) (some 2) (some 12) = cs0.map D.int ∧ cs0.length ≤ 10 := by
    rw [cut_map]
    exact ⟨_, rfl, cut_len ns 2 12⟩
  rw [ec, mdel_mput (by rw [potM_ne hLr])]
  refine ⟨sz_le (by rw [List.length_map]; omega), ?_⟩
  refine eq_nil_l (n := 0) (fineL_map fun x _ => fine_int x) (by decide) ?_
  by_cases e : cs0 = []
  · rw [if_pos (by rw [e]; rfl)]
    exact all16 (cs := [0]) .same (by omega) hbx hnl hN (by decide) (by decide) fun _ => rfl
  · rw [if_neg (by simpa using e)]
    exact all16 .same (by omega) hbx hnl hN (List.length_pos_iff.mpr e) hc fun _ => rfl

def topS (i : Nat) : Stmt := PySem.Challenge.pw_blockfall_k16_rows_of_gos.main.body.getD i (.Pass ⟨0, 0, 0, 0⟩)
theorem z_end_rows : Stat fs cx ("end_rows" : Str) ("end_rows" : Str) d_end_rows (topS 1) [("end" : Str), ("after" : Str)] :=
  ⟨⟨rfl, rfl, rfl, by decide +kernel, rfl, by decide +kernel, by decide +kernel⟩, rfl, by decide +kernel, fun _ _ _ _ _ _ us hl => match us, hl with | [_, _], _ => rfl⟩
theorem z_with_places : Stat fs cx ("with_places" : Str) ("with_places" : Str) d_with_places (topS 2) [("row" : Str), ("places" : Str), ("to" : Str)] :=
  ⟨⟨rfl, rfl, rfl, by decide +kernel, rfl, by decide +kernel, by decide +kernel⟩, rfl, by decide +kernel, fun _ _ _ _ _ _ us hl => match us, hl with | [_, _], _ => rfl⟩
theorem z_laid : Stat fs cx ("laid" : Str) ("laid" : Str) d_laid (topS 3) [("program" : Str), ("order" : Str), ("rows" : Str), ("places" : Str), ("k" : Str), ("at" : Str), ("after" : Str), ("name" : Str), ("statements" : Str), ("end" : Str), ("row" : Str)] :=
  ⟨⟨rfl, rfl, rfl, by decide +kernel, rfl, by decide +kernel, by decide +kernel⟩, rfl, by decide +kernel, fun _ _ _ _ _ _ us hl => match us, hl with | [_, _], _ => rfl⟩
theorem z__law_cell_at : Stat fs cx ("_law_cell_at" : Str) ("_law_cell_at" : Str) d__law_cell_at (topS 5) [("script" : Str), ("k" : Str)] :=
  ⟨⟨rfl, rfl, rfl, by decide +kernel, rfl, by decide +kernel, by decide +kernel⟩, rfl, by decide +kernel, fun _ _ _ _ _ _ us hl => match us, hl with | [_, _], _ => rfl⟩
theorem z__law_reel : Stat fs cx ("_law_reel" : Str) ("_law_reel" : Str) d__law_reel (topS 6) [("cell" : Str)] :=
  ⟨⟨rfl, rfl, rfl, by decide +kernel, rfl, by decide +kernel, by decide +kernel⟩, rfl, by decide +kernel, fun _ _ _ _ _ _ us hl => match us, hl with | [_], _ => rfl⟩
theorem z__law_take : Stat fs cx ("_law_take" : Str) ("_law_take" : Str) d__law_take (topS 7) [("reel" : Str), ("many" : Str), ("stir" : Str), ("found" : Str)] :=
  ⟨⟨rfl, rfl, rfl, by decide +kernel, rfl, by decide +kernel, by decide +kernel⟩, rfl, by decide +kernel, fun _ _ _ _ _ _ us hl => match us, hl with | [_, _], _ => rfl⟩
theorem z__law_names : Stat fs cx ("_law_names" : Str) ("_law_names" : Str) d__law_names (topS 8) [("reel" : Str), ("many" : Str), ("letters" : Str), ("words" : Str), ("names" : Str), ("k" : Str), ("name" : Str), ("j" : Str)] :=
  ⟨⟨rfl, rfl, rfl, by decide +kernel, rfl, by decide +kernel, by decide +kernel⟩, rfl, by decide +kernel, fun _ _ _ _ _ _ us hl => match us, hl with | [_, _], _ => rfl⟩
theorem z__law_leaf : Stat fs cx ("_law_leaf" : Str) ("_law_leaf" : Str) d__law_leaf (topS 9) [("reel" : Str), ("boxes" : Str), ("most" : Str)] :=
  ⟨⟨rfl, rfl, rfl, by decide +kernel, rfl, by decide +kernel, by decide +kernel⟩, rfl, by decide +kernel, fun _ _ _ _ _ _ us hl => match us, hl with | [_, _], _ => rfl⟩
theorem z__law_tree : Stat fs cx ("_law_tree" : Str) ("_law_tree" : Str) d__law_tree (topS 10) [("reel" : Str), ("boxes" : Str), ("leaves" : Str), ("left" : Str), ("sign" : Str), ("one" : Str), ("other" : Str)] :=
  ⟨⟨rfl, rfl, rfl, by decide +kernel, rfl, by decide +kernel, by decide +kernel⟩, rfl, by decide +kernel, fun _ _ _ _ _ _ us hl => match us, hl with | [_, _, _], _ => rfl⟩
theorem z__law_alike : Stat fs cx ("_law_alike" : Str) ("_law_alike" : Str) d__law_alike (topS 11) [("found" : Str), ("due" : Str), ("k" : Str)] :=
  ⟨⟨rfl, rfl, rfl, by decide +kernel, rfl, by decide +kernel, by decide +kernel⟩, rfl, by decide +kernel, fun _ _ _ _ _ _ us hl => match us, hl with | [_, _], _ => rfl⟩
theorem z__law_copied : Stat fs cx ("_law_copied" : Str) ("_law_copied" : Str) d__law_copied (topS 12) [("program" : Str), ("name" : Str), ("statements" : Str), ("end" : Str)] :=
  ⟨⟨rfl, rfl, rfl, by decide +kernel, rfl, by decide +kernel, by decide +kernel⟩, rfl, by decide +kernel, fun _ _ _ _ _ _ us hl => match us, hl with | [_], _ => rfl⟩
theorem z__law_order : Stat fs cx ("_law_order" : Str) ("_law_order" : Str) d__law_order (topS 13) [("reel" : Str), ("many" : Str), ("left" : Str), ("order" : Str), ("k" : Str)] :=
  ⟨⟨rfl, rfl, rfl, by decide +kernel, rfl, by decide +kernel, by decide +kernel⟩, rfl, by decide +kernel, fun _ _ _ _ _ _ us hl => match us, hl with | [_, _], _ => rfl⟩
theorem z__law_jump_row : Stat fs cx ("_law_jump_row" : Str) ("_law_jump_row" : Str) d__law_jump_row (topS 14) [("blocks" : Str), ("order" : Str), ("block" : Str), ("end" : Str), ("place" : Str)] :=
  ⟨⟨rfl, rfl, rfl, by decide +kernel, rfl, by decide +kernel, by decide +kernel⟩, rfl, by decide +kernel, fun _ _ _ _ _ _ us hl => match us, hl with | [_, _, _], _ => rfl⟩
theorem z__law_due : Stat fs cx ("_law_due" : Str) ("_law_due" : Str) d__law_due (topS 15) [("blocks" : Str), ("order" : Str), ("firsts" : Str), ("rows" : Str), ("block" : Str), ("due" : Str), ("row" : Str)] :=
  ⟨⟨rfl, rfl, rfl, by decide +kernel, rfl, by decide +kernel, by decide +kernel⟩, rfl, by decide +kernel, fun _ _ _ _ _ _ us hl => match us, hl with | [_, _], _ => rfl⟩
theorem z_law : Stat fs cx ("law" : Str) ("law" : Str) d_law (topS 16) [("script" : Str), ("names" : Str), ("reel" : Str), ("boxes" : Str), ("cells" : Str), ("order" : Str), ("blocks" : Str), ("k" : Str), ("program" : Str), ("handed" : Str), ("due" : Str), ("found" : Str), ("part" : Str), ("end" : Str), ("says" : Str), ("j" : Str)] :=
  ⟨⟨rfl, rfl, rfl, by decide +kernel, rfl, by decide +kernel, by decide +kernel⟩, rfl, by decide +kernel, fun _ _ _ _ _ _ us hl => match us, hl with | [_], _ => rfl⟩
theorem lookup_step {z k : Str} {v n : Int} {r : List (Str × Int)} (h : List.lookup z ((k, v) :: r) = some n) : (z = k ∧ n = v) ∨ (z ≠ k ∧ List.lookup z r = some n) := by
  rw [List.lookup_cons] at h
  cases e : (z == k) with
  | true => rw [e] at h; cases h; exact .inl ⟨beq_iff_eq.mp e, rfl⟩
  | false => rw [e] at h; exact .inr ⟨beq_eq_false_iff_ne.mp e, h⟩
theorem kit_self {K : PySem.W.Frag} {v : Value} : PySem.W.kitOne K v v = some true := by
  unfold PySem.W.kitOne
  rw [if_pos (beq_self_eq_true v)]
theorem kit_ref {K : PySem.W.Frag} {v : Value} {C : Addr} {b : Bool} (hd : PySem.W.hasDictIn K C = true) (ht : PySem.W.typeIn K (.ref C) = some (.type "type")) (h : PySem.W.subIn K v (.ref C) = some b) : PySem.W.kitCls K v (.ref C) = some b := by
  obtain ⟨cd, hc, _⟩ := PySem.W.any_some hd
  have e2 : ((PySem.W.clsIn K C).isSome && PySem.W.typeIn K (.ref C) == some (.type "type")) = true := by rw [hc, ht] <;> rfl
  show (if ((PySem.W.clsIn K C).isSome && PySem.W.typeIn K (.ref C) == some (.type "type")) = true then PySem.W.subIn K v (.ref C) else none) = some b
  rw [if_pos e2]
  exact h
theorem kit_not {K : PySem.W.Frag} {Y A : Addr} (hs : PySem.W.subIn K (.ref Y) (.ref Y) = some true) (hd : PySem.W.hasDictIn K A = true) (ht : PySem.W.typeIn K (.ref A) = some (.type "type")) (h : PySem.W.subIn K (.ref Y) (.ref A) = some false) : PySem.W.kitOne K (.ref Y) (.ref A) = some false := by
  unfold PySem.W.kitOne
  rw [if_neg]
  · exact kit_ref hd ht h
  · intro e
    have e := beq_iff_eq.mp e
    cases e
    rw [hs] at h
    cases h
theorem kit_ve {K : PySem.W.Frag} {Y : Addr} (h : PySem.W.subIn K (.ref Y) (.type "ValueError") = some true) : PySem.W.kitOne K (.ref Y) (.type "ValueError") = some true := by
  unfold PySem.W.kitOne
  rw [if_neg (by intro e; have e := beq_iff_eq.mp e; cases e)]
  first
    | exact h
    | (unfold PySem.W.kitCls; exact h)
    | (unfold PySem.W.kitCls; simpa using h)
theorem cls_at {K : PySem.W.Frag} {P : Program} {w : World} {c : Str} {C : Addr} (h : PySem.W.nsIn K mainGlobals c = some (some (.ref C))) : (gOf K P w).cls c = some C := by
  unfold gOf
  simp only [h]
theorem txt {K : PySem.W.Frag} {P : Program} {w : World} {h : Heap} {mg : Str → Option Value} (KX : K.In h) (G : h.Ns mainGlobals mg)
    {fa0 : Addr} {oc0 : Value} {od0 an0 : Option Addr} {sl0 : Array (Option Value)} {kV0 dc0 pm0 cd0 ct0 : Value} (a0 : PySem.W.nsIn K mainGlobals "end_rows" = some (some (.ref fa0))) (l0 : K.lookup fa0 = some ⟨oc0, od0, .func (PySem.W.fnOf "end_rows" "end_rows" (defArgs (topS 1)) (defBody (topS 1)) (defScope (topS 1)) .none kV0 dc0 pm0 an0 cd0 ct0), sl0⟩) (c0 : PySem.W.codeIn K cd0 "end_rows" = true) (k0 : PySem.W.keepIn K (.ref fa0) = true)
    {fa1 : Addr} {oc1 : Value} {od1 an1 : Option Addr} {sl1 : Array (Option Value)} {kV1 dc1 pm1 cd1 ct1 : Value} (a1 : PySem.W.nsIn K mainGlobals "with_places" = some (some (.ref fa1))) (l1 : K.lookup fa1 = some ⟨oc1, od1, .func (PySem.W.fnOf "with_places" "with_places" (defArgs (topS 2)) (defBody (topS 2)) (defScope (topS 2)) .none kV1 dc1 pm1 an1 cd1 ct1), sl1⟩) (c1 : PySem.W.codeIn K cd1 "with_places" = true) (k1 : PySem.W.keepIn K (.ref fa1) = true)
    {fa2 : Addr} {oc2 : Value} {od2 an2 : Option Addr} {sl2 : Array (Option Value)} {kV2 dc2 pm2 cd2 ct2 : Value} (a2 : PySem.W.nsIn K mainGlobals "laid" = some (some (.ref fa2))) (l2 : K.lookup fa2 = some ⟨oc2, od2, .func (PySem.W.fnOf "laid" "laid" (defArgs (topS 3)) (defBody (topS 3)) (defScope (topS 3)) .none kV2 dc2 pm2 an2 cd2 ct2), sl2⟩) (c2 : PySem.W.codeIn K cd2 "laid" = true) (k2 : PySem.W.keepIn K (.ref fa2) = true)
    {fa3 : Addr} {oc3 : Value} {od3 an3 : Option Addr} {sl3 : Array (Option Value)} {kV3 dc3 pm3 cd3 ct3 : Value} (a3 : PySem.W.nsIn K mainGlobals "_law_cell_at" = some (some (.ref fa3))) (l3 : K.lookup fa3 = some ⟨oc3, od3, .func (PySem.W.fnOf "_law_cell_at" "_law_cell_at" (defArgs (topS 5)) (defBody (topS 5)) (defScope (topS 5)) .none kV3 dc3 pm3 an3 cd3 ct3), sl3⟩) (c3 : PySem.W.codeIn K cd3 "_law_cell_at" = true) (k3 : PySem.W.keepIn K (.ref fa3) = true)
    {fa4 : Addr} {oc4 : Value} {od4 an4 : Option Addr} {sl4 : Array (Option Value)} {kV4 dc4 pm4 cd4 ct4 : Value} (a4 : PySem.W.nsIn K mainGlobals "_law_reel" = some (some (.ref fa4))) (l4 : K.lookup fa4 = some ⟨oc4, od4, .func (PySem.W.fnOf "_law_reel" "_law_reel" (defArgs (topS 6)) (defBody (topS 6)) (defScope (topS 6)) .none kV4 dc4 pm4 an4 cd4 ct4), sl4⟩) (c4 : PySem.W.codeIn K cd4 "_law_reel" = true) (k4 : PySem.W.keepIn K (.ref fa4) = true)
    {fa5 : Addr} {oc5 : Value} {od5 an5 : Option Addr} {sl5 : Array (Option Value)} {kV5 dc5 pm5 cd5 ct5 : Value} (a5 : PySem.W.nsIn K mainGlobals "_law_take" = some (some (.ref fa5))) (l5 : K.lookup fa5 = some ⟨oc5, od5, .func (PySem.W.fnOf "_law_take" "_law_take" (defArgs (topS 7)) (defBody (topS 7)) (defScope (topS 7)) .none kV5 dc5 pm5 an5 cd5 ct5), sl5⟩) (c5 : PySem.W.codeIn K cd5 "_law_take" = true) (k5 : PySem.W.keepIn K (.ref fa5) = true)
    {fa6 : Addr} {oc6 : Value} {od6 an6 : Option Addr} {sl6 : Array (Option Value)} {kV6 dc6 pm6 cd6 ct6 : Value} (a6 : PySem.W.nsIn K mainGlobals "_law_names" = some (some (.ref fa6))) (l6 : K.lookup fa6 = some ⟨oc6, od6, .func (PySem.W.fnOf "_law_names" "_law_names" (defArgs (topS 8)) (defBody (topS 8)) (defScope (topS 8)) .none kV6 dc6 pm6 an6 cd6 ct6), sl6⟩) (c6 : PySem.W.codeIn K cd6 "_law_names" = true) (k6 : PySem.W.keepIn K (.ref fa6) = true)
    {fa7 : Addr} {oc7 : Value} {od7 an7 : Option Addr} {sl7 : Array (Option Value)} {kV7 dc7 pm7 cd7 ct7 : Value} (a7 : PySem.W.nsIn K mainGlobals "_law_leaf" = some (some (.ref fa7))) (l7 : K.lookup fa7 = some ⟨oc7, od7, .func (PySem.W.fnOf "_law_leaf" "_law_leaf" (defArgs (topS 9)) (defBody (topS 9)) (defScope (topS 9)) .none kV7 dc7 pm7 an7 cd7 ct7), sl7⟩) (c7 : PySem.W.codeIn K cd7 "_law_leaf" = true) (k7 : PySem.W.keepIn K (.ref fa7) = true)
    {fa8 : Addr} {oc8 : Value} {od8 an8 : Option Addr} {sl8 : Array (Option Value)} {kV8 dc8 pm8 cd8 ct8 : Value} (a8 : PySem.W.nsIn K mainGlobals "_law_tree" = some (some (.ref fa8))) (l8 : K.lookup fa8 = some ⟨oc8, od8, .func (PySem.W.fnOf "_law_tree" "_law_tree" (defArgs (topS 10)) (defBody (topS 10)) (defScope (topS 10)) .none kV8 dc8 pm8 an8 cd8 ct8), sl8⟩) (c8 : PySem.W.codeIn K cd8 "_law_tree" = true) (k8 : PySem.W.keepIn K (.ref fa8) = true)
    {fa9 : Addr} {oc9 : Value} {od9 an9 : Option Addr} {sl9 : Array (Option Value)} {kV9 dc9 pm9 cd9 ct9 : Value} (a9 : PySem.W.nsIn K mainGlobals "_law_alike" = some (some (.ref fa9))) (l9 : K.lookup fa9 = some ⟨oc9, od9, .func (PySem.W.fnOf "_law_alike" "_law_alike" (defArgs (topS 11)) (defBody (topS 11)) (defScope (topS 11)) .none kV9 dc9 pm9 an9 cd9 ct9), sl9⟩) (c9 : PySem.W.codeIn K cd9 "_law_alike" = true) (k9 : PySem.W.keepIn K (.ref fa9) = true)
    {fa10 : Addr} {oc10 : Value} {od10 an10 : Option Addr} {sl10 : Array (Option Value)} {kV10 dc10 pm10 cd10 ct10 : Value} (a10 : PySem.W.nsIn K mainGlobals "_law_copied" = some (some (.ref fa10))) (l10 : K.lookup fa10 = some ⟨oc10, od10, .func (PySem.W.fnOf "_law_copied" "_law_copied" (defArgs (topS 12)) (defBody (topS 12)) (defScope (topS 12)) .none kV10 dc10 pm10 an10 cd10 ct10), sl10⟩) (c10 : PySem.W.codeIn K cd10 "_law_copied" = true) (k10 : PySem.W.keepIn K (.ref fa10) = true)
    {fa11 : Addr} {oc11 : Value} {od11 an11 : Option Addr} {sl11 : Array (Option Value)} {kV11 dc11 pm11 cd11 ct11 : Value} (a11 : PySem.W.nsIn K mainGlobals "_law_order" = some (some (.ref fa11))) (l11 : K.lookup fa11 = some ⟨oc11, od11, .func (PySem.W.fnOf "_law_order" "_law_order" (defArgs (topS 13)) (defBody (topS 13)) (defScope (topS 13)) .none kV11 dc11 pm11 an11 cd11 ct11), sl11⟩) (c11 : PySem.W.codeIn K cd11 "_law_order" = true) (k11 : PySem.W.keepIn K (.ref fa11) = true)
    {fa12 : Addr} {oc12 : Value} {od12 an12 : Option Addr} {sl12 : Array (Option Value)} {kV12 dc12 pm12 cd12 ct12 : Value} (a12 : PySem.W.nsIn K mainGlobals "_law_jump_row" = some (some (.ref fa12))) (l12 : K.lookup fa12 = some ⟨oc12, od12, .func (PySem.W.fnOf "_law_jump_row" "_law_jump_row" (defArgs (topS 14)) (defBody (topS 14)) (defScope (topS 14)) .none kV12 dc12 pm12 an12 cd12 ct12), sl12⟩) (c12 : PySem.W.codeIn K cd12 "_law_jump_row" = true) (k12 : PySem.W.keepIn K (.ref fa12) = true)
    {fa13 : Addr} {oc13 : Value} {od13 an13 : Option Addr} {sl13 : Array (Option Value)} {kV13 dc13 pm13 cd13 ct13 : Value} (a13 : PySem.W.nsIn K mainGlobals "_law_due" = some (some (.ref fa13))) (l13 : K.lookup fa13 = some ⟨oc13, od13, .func (PySem.W.fnOf "_law_due" "_law_due" (defArgs (topS 15)) (defBody (topS 15)) (defScope (topS 15)) .none kV13 dc13 pm13 an13 cd13 ct13), sl13⟩) (c13 : PySem.W.codeIn K cd13 "_law_due" = true) (k13 : PySem.W.keepIn K (.ref fa13) = true)
    {fa14 : Addr} {oc14 : Value} {od14 an14 : Option Addr} {sl14 : Array (Option Value)} {kV14 dc14 pm14 cd14 ct14 : Value} (a14 : PySem.W.nsIn K mainGlobals "law" = some (some (.ref fa14))) (l14 : K.lookup fa14 = some ⟨oc14, od14, .func (PySem.W.fnOf "law" "law" (defArgs (topS 16)) (defBody (topS 16)) (defScope (topS 16)) .none kV14 dc14 pm14 an14 cd14 ct14), sl14⟩) (c14 : PySem.W.codeIn K cd14 "law" = true) (k14 : PySem.W.keepIn K (.ref fa14) = true)
    (b0 : PySem.W.nsIn K mainGlobals "ValueError" = some none) (b1 : PySem.W.nsIn K mainGlobals "len" = some none) (b2 : PySem.W.nsIn K mainGlobals "abs" = some none) (b3 : PySem.W.nsIn K mainGlobals "max" = some none) (b4 : PySem.W.nsIn K mainGlobals "min" = some none) (b5 : PySem.W.nsIn K mainGlobals "sum" = some none) (b6 : PySem.W.nsIn K mainGlobals "int" = some none) (b7 : PySem.W.nsIn K mainGlobals "bool" = some none) (b8 : PySem.W.nsIn K mainGlobals "str" = some none) (b9 : PySem.W.nsIn K mainGlobals "list" = some none) (b10 : PySem.W.nsIn K mainGlobals "tuple" = some none) (b11 : PySem.W.nsIn K mainGlobals "sorted" = some none) (b12 : PySem.W.nsIn K mainGlobals "all" = some none) (b13 : PySem.W.nsIn K mainGlobals "range" = some none) (b14 : PySem.W.nsIn K mainGlobals "enumerate" = some none) (b15 : PySem.W.nsIn K mainGlobals "zip" = some none) (b16 : PySem.W.nsIn K mainGlobals "isinstance" = some none) (b17 : PySem.W.nsIn K mainGlobals "dict" = some none) : Txt (gOf K P w) mg T gl fs cx where
  defs := by
    intro f hf
    simp only [fs, List.mem_cons, List.not_mem_nil, or_false] at hf
    rcases hf with rfl | rfl | rfl | rfl | rfl | rfl | rfl | rfl | rfl | rfl | rfl | rfl | rfl | rfl | rfl
    · exact ⟨d_end_rows, rfl, DefOk.of z_end_rows KX G a0 l0 c0 k0⟩
    · exact ⟨d_with_places, rfl, DefOk.of z_with_places KX G a1 l1 c1 k1⟩
    · exact ⟨d_laid, rfl, DefOk.of z_laid KX G a2 l2 c2 k2⟩
    · exact ⟨d__law_cell_at, rfl, DefOk.of z__law_cell_at KX G a3 l3 c3 k3⟩
    · exact ⟨d__law_reel, rfl, DefOk.of z__law_reel KX G a4 l4 c4 k4⟩
    · exact ⟨d__law_take, rfl, DefOk.of z__law_take KX G a5 l5 c5 k5⟩
    · exact ⟨d__law_names, rfl, DefOk.of z__law_names KX G a6 l6 c6 k6⟩
    · exact ⟨d__law_leaf, rfl, DefOk.of z__law_leaf KX G a7 l7 c7 k7⟩
    · exact ⟨d__law_tree, rfl, DefOk.of z__law_tree KX G a8 l8 c8 k8⟩
    · exact ⟨d__law_alike, rfl, DefOk.of z__law_alike KX G a9 l9 c9 k9⟩
    · exact ⟨d__law_copied, rfl, DefOk.of z__law_copied KX G a10 l10 c10 k10⟩
    · exact ⟨d__law_order, rfl, DefOk.of z__law_order KX G a11 l11 c11 k11⟩
    · exact ⟨d__law_jump_row, rfl, DefOk.of z__law_jump_row KX G a12 l12 c12 k12⟩
    · exact ⟨d__law_due, rfl, DefOk.of z__law_due KX G a13 l13 c13 k13⟩
    · exact ⟨d_law, rfl, DefOk.of z_law KX G a14 l14 c14 k14⟩
  bn := by
    intro x hx
    simp only [bnames, List.mem_cons, List.not_mem_nil, or_false] at hx
    rcases hx with rfl | rfl | rfl | rfl | rfl | rfl | rfl | rfl | rfl | rfl | rfl | rfl | rfl | rfl | rfl | rfl | rfl | rfl
    · exact PySem.W.mg_none_of KX G b0
    · exact PySem.W.mg_none_of KX G b1
    · exact PySem.W.mg_none_of KX G b2
    · exact PySem.W.mg_none_of KX G b3
    · exact PySem.W.mg_none_of KX G b4
    · exact PySem.W.mg_none_of KX G b5
    · exact PySem.W.mg_none_of KX G b6
    · exact PySem.W.mg_none_of KX G b7
    · exact PySem.W.mg_none_of KX G b8
    · exact PySem.W.mg_none_of KX G b9
    · exact PySem.W.mg_none_of KX G b10
    · exact PySem.W.mg_none_of KX G b11
    · exact PySem.W.mg_none_of KX G b12
    · exact PySem.W.mg_none_of KX G b13
    · exact PySem.W.mg_none_of KX G b14
    · exact PySem.W.mg_none_of KX G b15
    · exact PySem.W.mg_none_of KX G b16
    · exact PySem.W.mg_none_of KX G b17
  gl := fun _ _ h => by cases h
  ms := fun t ht => (List.not_mem_nil (show _ ∈ [] from ht)).elim
  nw := fun t ht => (List.not_mem_nil (show _ ∈ [] from ht)).elim
  fl := fun t ht => (List.not_mem_nil (show _ ∈ [] from ht)).elim
  xs := fun t ht => (List.not_mem_nil (show _ ∈ [] from ht)).elim
  kd := fun t ht => (List.not_mem_nil (show _ ∈ [] from ht)).elim
  ca := fun t ht => (List.not_mem_nil (show _ ∈ [] from ht)).elim
  is := fun t ht => (List.not_mem_nil (show _ ∈ [] from ht)).elim

end BF
open PySem PySem.W PyProof.Rows
set_option maxRecDepth 100000 in
set_option maxHeartbeats 0 in
theorem PySem.Challenge.cw_blockfall_k16_rows_of_gos_holds : PySem.Challenge.rw_blockfall_k16_rows_of_gos.Holds := by
  w_on; o_law; k_head; (case hw => w_witness2)
  k_fill
  refine Ev.law_walk (l := PySem.Challenge.rw_blockfall_k16_rows_of_gos) BF.T BF.gl BF.fs BF.cx 50 rfl rfl rfl ⟨rfl, by decide, by decide⟩ (by decide +kernel) (dl := BF.d_law) rfl rfl BF.main (fun w h Y => PySem.W.kIn_of Y) ?F
  case F =>
    intro w mg h KX G
    refine' BF.txt KX G ?a0 ?l0 ?c0 ?k0 ?a1 ?l1 ?c1 ?k1 ?a2 ?l2 ?c2 ?k2 ?a3 ?l3 ?c3 ?k3 ?a4 ?l4 ?c4 ?k4 ?a5 ?l5 ?c5 ?k5 ?a6 ?l6 ?c6 ?k6 ?a7 ?l7 ?c7 ?k7 ?a8 ?l8 ?c8 ?k8 ?a9 ?l9 ?c9 ?k9 ?a10 ?l10 ?c10 ?k10 ?a11 ?l11 ?c11 ?k11 ?a12 ?l12 ?c12 ?k12 ?a13 ?l13 ?c13 ?k13 ?a14 ?l14 ?c14 ?k14 ?b0 ?b1 ?b2 ?b3 ?b4 ?b5 ?b6 ?b7 ?b8 ?b9 ?b10 ?b11 ?b12 ?b13 ?b14 ?b15 ?b16 ?b17
    (case a0 => k_is); (case l0 => k_is); (case c0 => k_is); (case k0 => k_is); (case a1 => k_is); (case l1 => k_is); (case c1 => k_is); (case k1 => k_is); (case a2 => k_is); (case l2 => k_is); (case c2 => k_is); (case k2 => k_is); (case a3 => k_is); (case l3 => k_is); (case c3 => k_is); (case k3 => k_is); (case a4 => k_is); (case l4 => k_is); (case c4 => k_is); (case k4 => k_is); (case a5 => k_is); (case l5 => k_is); (case c5 => k_is); (case k5 => k_is); (case a6 => k_is); (case l6 => k_is); (case c6 => k_is); (case k6 => k_is); (case a7 => k_is); (case l7 => k_is); (case c7 => k_is); (case k7 => k_is); (case a8 => k_is); (case l8 => k_is); (case c8 => k_is); (case k8 => k_is); (case a9 => k_is); (case l9 => k_is); (case c9 => k_is); (case k9 => k_is); (case a10 => k_is); (case l10 => k_is); (case c10 => k_is); (case k10 => k_is); (case a11 => k_is); (case l11 => k_is); (case c11 => k_is); (case k11 => k_is); (case a12 => k_is); (case l12 => k_is); (case c12 => k_is); (case k12 => k_is); (case a13 => k_is); (case l13 => k_is); (case c13 => k_is); (case k13 => k_is); (case a14 => k_is); (case l14 => k_is); (case c14 => k_is); (case k14 => k_is); (case b0 => k_is); (case b1 => k_is); (case b2 => k_is); (case b3 => k_is); (case b4 => k_is); (case b5 => k_is); (case b6 => k_is); (case b7 => k_is); (case b8 => k_is); (case b9 => k_is); (case b10 => k_is); (case b11 => k_is); (case b12 => k_is); (case b13 => k_is); (case b14 => k_is); (case b15 => k_is); (case b16 => k_is); (case b17 => k_is)
